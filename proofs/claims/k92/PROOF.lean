import PyProof.Rows.All
import HandS.ForMost
import HandS.Exc
import HandS.TryMany
import HandS.ExcOwn
import HandS.ExcField
import HandS.ExcIs
import HandS.ExcInit
import HandS.IsInst
import HandS.Lambda
import HandS.Style
import HandS.Conv
import HandS.Wide
import HandS.Deep
import HandS.WordsExc
import HandS.TupAny
import HandS.TupMul
import HandS.TupLe
import PyProof.TupleOfStr
import HandS.Zip
import KE.KExcIs
import HandS.EndTab
import HandS.StrMore
import KE.GoesEnum
import PyProof.EnumMake
import PyProof.StrOps2
import PyProof.SliceStr2
import HandS.SortInts
import KE.SortData
import HandS.Small
import HandS.DictComp
import KE.DataMinMax
import KE.GoesZip
import KE.GoesMore
import KE.KNestM
import PySem.Challenge.RW_colourhouse_k92_whole_windows_of_times
set_option Elab.async false
set_option linter.all false
set_option maxRecDepth 100000
set_option maxHeartbeats 4000000
/-! PDa: pure denotations over PyData: heaps seen through a ban list, representation of data, frames with static slot modes. -/
namespace PD
open PySem PySem.Spec PyProof.Rows L2
/-! ### results -/
structure Xc where
  cls : Str
  fs : List (Str × PyData)
abbrev Store := List (List PyData)
inductive R (α : Type) where
  | ok (a : α) (S : Store)
  | exc (x : Xc) (S : Store)
  | bad
def R.bind {α β : Type} (r : R α) (f : α → Store → R β) : R β :=
  match r with
  | .ok a S => f a S
  | .exc x S => .exc x S
  | .bad => .bad
/-- an exception is not let out here -/
def R.calm {α : Type} (r : R α) : R α :=
  match r with
  | .exc _ _ => .bad
  | r => r
@[simp] theorem R.bind_ok {α β : Type} (a : α) (S : Store) (f : α → Store → R β) : (R.ok a S).bind f = f a S := rfl
@[simp] theorem R.bind_exc {α β : Type} (x : Xc) (S : Store) (f : α → Store → R β) : (R.exc x S : R α).bind f = .exc x S := rfl
@[simp] theorem R.bind_bad {α β : Type} (f : α → Store → R β) : (R.bad : R α).bind f = .bad := rfl
@[simp] theorem R.calm_ok {α : Type} (a : α) (S : Store) : (R.ok a S).calm = .ok a S := rfl
@[simp] theorem R.calm_exc {α : Type} (x : Xc) (S : Store) : (R.exc x S : R α).calm = .bad := rfl
@[simp] theorem R.calm_bad {α : Type} : (R.bad : R α).calm = .bad := rfl
/-! ### heaps -/
def Ex (H H' : Hp) : Prop := ∀ a o, H a = some o → H' a = some o
theorem Ex.refl (H : Hp) : Ex H H := fun _ _ h => h
theorem Ex.trans {H H1 H2 : Hp} (a : Ex H H1) (b : Ex H1 H2) : Ex H H2 := fun x o h => b x o (a x o h)
theorem Ex.new {H : Hp} {p : Addr} {o : HO} (h : H p = none) : Ex H (upd H p o) := fun a u e => by
  rw [upd_ne (ne_of_none e h)]
  exact e
def Fz (B : List Addr) (H : Hp) : Hp := fun a => if a ∈ B then none else H a
theorem fz_some {B : List Addr} {H : Hp} {a : Addr} {o : HO} : Fz B H a = some o ↔ a ∉ B ∧ H a = some o := by
  unfold Fz
  by_cases h : a ∈ B <;> simp [h]
theorem fz_le {B : List Addr} {H : Hp} : Ex (Fz B H) H := fun _ _ h => (fz_some.mp h).2
theorem fz_anti {B B' : List Addr} {H : Hp} (h : ∀ a ∈ B', a ∈ B) : Ex (Fz B H) (Fz B' H) := fun a o e =>
  have q := fz_some.mp e
  fz_some.mpr ⟨fun z => q.1 (h a z), q.2⟩
def Evo (G : List Addr) (H H' : Hp) : Prop := ∀ a o, a ∉ G → H a = some o → H' a = some o
theorem Evo.refl (G : List Addr) (H : Hp) : Evo G H H := fun _ _ _ h => h
theorem Evo.trans {G : List Addr} {H H1 H2 : Hp} (a : Evo G H H1) (b : Evo G H1 H2) : Evo G H H2 := fun x o n h => b x o n (a x o n h)
theorem Ex.evo {G : List Addr} {H H' : Hp} (e : Ex H H') : Evo G H H' := fun a o _ h => e a o h
theorem Evo.fz {G B : List Addr} {H H' : Hp} (e : Evo G H H') (h : ∀ a ∈ G, a ∈ B) : Ex (Fz B H) (Fz B H') := fun a o q =>
  have q := fz_some.mp q
  fz_some.mpr ⟨q.1, e a o (fun z => q.1 (h a z)) q.2⟩
theorem Ex.fz {B : List Addr} {H H' : Hp} (e : Ex H H') : Ex (Fz B H) (Fz B H') := fun a o q =>
  have q := fz_some.mp q
  fz_some.mpr ⟨q.1, e a o q.2⟩
theorem Ex.rd {H H' : Hp} (e : Ex H H') {a : Addr} {u : HO} (h : Rd H a u) : Rd H' a u := by
  rcases h with h | ⟨o, h⟩
  · exact .inl (e a _ h)
  · exact .inr ⟨o, e a _ h⟩
theorem Ex.l {K : PySem.W.Frag} {H H' : Hp} (e : Ex H H') {a : Addr} {xs : List V} (h : SqL K H a xs) : SqL K H' a xs := by
  rcases h with h | h
  · exact .inl (e.rd h)
  · exact .inr h
theorem Ex.t {K : PySem.W.Frag} {H H' : Hp} (e : Ex H H') {a : Addr} {xs : List V} (h : SqT K H a xs) : SqT K H' a xs := by
  rcases h with h | h
  · exact .inl (e.rd h)
  · exact .inr h
theorem Ex.free {H H' : Hp} (e : Ex H H') {p : Addr} (h : H' p = none) : H p = none := by
  cases q : H p with
  | none => rfl
  | some o => rw [e p o q] at h; cases h
/-! ### data -/
def keyD : Key → PyData
  | .inl i => .int i
  | .inr x => .str x
def keyT (k : List Key) : PyData := .tuple (k.map keyD)
mutual
inductive Is (K : PySem.W.Frag) (H : Hp) : V → PyData → Prop
  | non : Is K H .non .none
  | bl (b : Bool) : Is K H (.bl b) (.bool b)
  | int (i : Int) : Is K H (.int i) (.int i)
  | str (x : Str) : Is K H (.str x) (.str x)
  | lst {a : Addr} {xs : List V} {ds : List PyData} : H a = some (.lst xs) → xs.length ≤ sizeLine → IsAll K H xs ds → Is K H (.ref a) (.list ds)
  | tup {a : Addr} {xs : List V} {ds : List PyData} : SqT K H a xs → xs.length ≤ sizeLine → IsAll K H xs ds → Is K H (.ref a) (.tuple ds)
  | dK {a : Addr} {kvs : List (Key × V)} {ds : List (PyData × PyData)} : H a = some (.dK kvs) → ds.map (·.1) = kvs.map (fun p => keyD p.1) → IsAll K H (kvs.map (·.2)) (ds.map (·.2)) → Is K H (.ref a) (.dict ds)
  | dT {a : Addr} {kvs : List (List Key × V)} {ds : List (PyData × PyData)} : H a = some (.dT kvs) → (ds.map (·.1) = kvs.map (fun p => keyT p.1) ∧ ds ≠ []) → IsAll K H (kvs.map (·.2)) (ds.map (·.2)) → Is K H (.ref a) (.dict ds)
inductive IsAll (K : PySem.W.Frag) (H : Hp) : List V → List PyData → Prop
  | nil : IsAll K H [] []
  | cons {v : V} {vs : List V} {d : PyData} {ds : List PyData} : Is K H v d → IsAll K H vs ds → IsAll K H (v :: vs) (d :: ds)
end
mutual
theorem Is.mono {K : PySem.W.Frag} {H H' : Hp} (e : Ex H H') : ∀ {v : V} {d : PyData}, Is K H v d → Is K H' v d
  | _, _, .non => .non
  | _, _, .bl b => .bl b
  | _, _, .int i => .int i
  | _, _, .str x => .str x
  | _, _, .lst h z r => .lst (e _ _ h) z (IsAll.mono e r)
  | _, _, .tup h z r => .tup (e.t h) z (IsAll.mono e r)
  | _, _, .dK h k r => .dK (e _ _ h) k (IsAll.mono e r)
  | _, _, .dT h k r => .dT (e _ _ h) k (IsAll.mono e r)
theorem IsAll.mono {K : PySem.W.Frag} {H H' : Hp} (e : Ex H H') : ∀ {vs : List V} {ds : List PyData}, IsAll K H vs ds → IsAll K H' vs ds
  | _, _, .nil => .nil
  | _, _, .cons h r => .cons (Is.mono e h) (IsAll.mono e r)
end
section
variable {K : PySem.W.Frag} {H H' : Hp}
theorem IsAll.length : ∀ {vs : List V} {ds : List PyData}, IsAll K H vs ds → vs.length = ds.length
  | _, _, .nil => rfl
  | _, _, .cons _ r => by simp [IsAll.length r]
theorem IsAll.get : ∀ {vs : List V} {ds : List PyData} {i : Nat} {d : PyData}, IsAll K H vs ds → ds[i]? = some d → ∃ v, vs[i]? = some v ∧ Is K H v d
  | _, _, _, _, .nil, e => by simp at e
  | _, _, 0, d, .cons h _, e => by simp at e; subst e; exact ⟨_, rfl, h⟩
  | _, _, i + 1, d, .cons _ r, e => by
    obtain ⟨v, a, b⟩ := IsAll.get (i := i) (d := d) r (by simpa using e)
    exact ⟨v, by simpa using a, b⟩
theorem IsAll.append : ∀ {vs ws : List V} {ds es : List PyData}, IsAll K H vs ds → IsAll K H ws es → IsAll K H (vs ++ ws) (ds ++ es)
  | _, _, _, _, .nil, s => s
  | _, _, _, _, .cons h r, s => .cons h (IsAll.append r s)
theorem IsAll.take : ∀ {vs : List V} {ds : List PyData} (n : Nat), IsAll K H vs ds → IsAll K H (vs.take n) (ds.take n)
  | _, _, 0, _ => by simpa using IsAll.nil
  | _, _, _ + 1, .nil => .nil
  | _, _, n + 1, .cons h r => .cons h (IsAll.take n r)
theorem IsAll.drop : ∀ {vs : List V} {ds : List PyData} (n : Nat), IsAll K H vs ds → IsAll K H (vs.drop n) (ds.drop n)
  | _, _, 0, r => r
  | _, _, _ + 1, .nil => .nil
  | _, _, n + 1, .cons _ r => IsAll.drop n r
theorem IsAll.reverse : ∀ {vs : List V} {ds : List PyData}, IsAll K H vs ds → IsAll K H vs.reverse ds.reverse
  | _, _, .nil => .nil
  | _, _, .cons h r => by
    rw [List.reverse_cons, List.reverse_cons]
    exact (IsAll.reverse r).append (.cons h .nil)
theorem IsAll.set : ∀ {vs : List V} {ds : List PyData} (i : Nat) {v : V} {d : PyData}, IsAll K H vs ds → Is K H v d → IsAll K H (vs.set i v) (ds.set i d)
  | _, _, _, _, _, .nil, _ => .nil
  | _, _, 0, _, _, .cons _ r, q => .cons q r
  | _, _, i + 1, _, _, .cons h r, q => .cons h (IsAll.set i r q)
theorem IsAll.dropLast {vs : List V} {ds : List PyData} (h : IsAll K H vs ds) : IsAll K H vs.dropLast ds.dropLast := by
  rw [List.dropLast_eq_take, List.dropLast_eq_take, h.length]
  exact h.take _
theorem IsAll.ints : ∀ {vs : List V} {ns : List Int}, IsAll K H vs (ns.map .int) → vs = ns.map V.int
  | _, [], .nil => rfl
  | _, n :: ns, .cons h r => by
    cases h
    rw [IsAll.ints (ns := ns) r]
    rfl
theorem IsAll.of_ints : ∀ {ns : List Int}, IsAll K H (ns.map V.int) (ns.map .int)
  | [] => .nil
  | n :: ns => .cons (.int n) IsAll.of_ints
theorem IsAll.strs : ∀ {vs : List V} {ns : List Str}, IsAll K H vs (ns.map .str) → vs = ns.map V.str
  | _, [], .nil => rfl
  | _, n :: ns, .cons h r => by
    cases h
    rw [IsAll.strs (ns := ns) r]
    rfl
theorem IsAll.of_strs : ∀ {ns : List Str}, IsAll K H (ns.map V.str) (ns.map .str)
  | [] => .nil
  | n :: ns => .cons (.str n) IsAll.of_strs
theorem IsAll.bools : ∀ {vs : List V} {ns : List Bool}, IsAll K H vs (ns.map .bool) → vs = ns.map V.bl
  | _, [], .nil => rfl
  | _, n :: ns, .cons h r => by
    cases h
    rw [IsAll.bools (ns := ns) r]
    rfl
theorem IsAll.two {vs : List V} {a b : PyData} (h : IsAll K H vs [a, b]) : ∃ v w, vs = [v, w] ∧ Is K H v a ∧ Is K H w b := by
  cases h with
  | cons h1 r => cases r with
    | cons h2 r => cases r; exact ⟨_, _, rfl, h1, h2⟩
end
/-! ### an object that its holder alone may change: its parts stand frozen -/
def Top (K : PySem.W.Frag) (B : List Addr) (H : Hp) (p : Addr) (d : PyData) : Prop :=
  (∃ ds vs, d = .list ds ∧ H p = some (.lst vs) ∧ vs.length ≤ sizeLine ∧ IsAll K (Fz B H) vs ds) ∨
  (∃ (ds : List (PyData × PyData)) (kvs : List (Key × V)), d = .dict ds ∧ H p = some (.dK kvs) ∧ ds.map (·.1) = kvs.map (fun p => keyD p.1) ∧ IsAll K (Fz B H) (kvs.map (·.2)) (ds.map (·.2))) ∨
  (∃ (ds : List (PyData × PyData)) (kvs : List (List Key × V)), d = .dict ds ∧ H p = some (.dT kvs) ∧ (ds.map (·.1) = kvs.map (fun p => keyT p.1) ∧ ds ≠ []) ∧ IsAll K (Fz B H) (kvs.map (·.2)) (ds.map (·.2)))
theorem Top.mono {K : PySem.W.Frag} {B B' : List Addr} {H H' : Hp} {p : Addr} {d : PyData} (t : Top K B H p d) (e : Ex (Fz B H) (Fz B' H')) (hp : ∀ o, H p = some o → H' p = some o) : Top K B' H' p d := by
  rcases t with ⟨ds, vs, rfl, a, z, b⟩ | ⟨ds, kvs, rfl, a, k, b⟩ | ⟨ds, kvs, rfl, a, k, b⟩
  · exact .inl ⟨ds, vs, rfl, hp _ a, z, b.mono e⟩
  · exact .inr (.inl ⟨ds, kvs, rfl, hp _ a, k, b.mono e⟩)
  · exact .inr (.inr ⟨ds, kvs, rfl, hp _ a, k, b.mono e⟩)
theorem Top.is {K : PySem.W.Frag} {B : List Addr} {H H' : Hp} {p : Addr} {d : PyData} (t : Top K B H p d) (e : Ex (Fz B H) H') (hp : ∀ o, H p = some o → H' p = some o) : Is K H' (.ref p) d := by
  rcases t with ⟨ds, vs, rfl, a, z, b⟩ | ⟨ds, kvs, rfl, a, k, b⟩ | ⟨ds, kvs, rfl, a, k, b⟩
  · exact .lst (hp _ a) z (b.mono e)
  · exact .dK (hp _ a) k (b.mono e)
  · exact .dT (hp _ a) k (b.mono e)
theorem Top.some {K : PySem.W.Frag} {B : List Addr} {H : Hp} {p : Addr} {d : PyData} (t : Top K B H p d) : H p ≠ none := by
  rcases t with ⟨ds, vs, rfl, a, _, b⟩ | ⟨ds, kvs, rfl, a, k, b⟩ | ⟨ds, kvs, rfl, a, k, b⟩ <;> rw [a] <;> intro z <;> cases z
/-! ### what all frames share: lists changed by reference, tables of code objects -/
/-- a function in hand: the object, its code, the ban list and the heap it was handed in at -/
structure Lm where
  f : Addr
  cc : Addr
  q : Str
  B : List Addr
  H : Hp
structure Gx where
  SA : List Addr
  T : List (Addr × Str)
  E : Option (Addr × Xc × Option Addr) := none
  L : Option Lm := none
def Gx.G (g : Gx) : List Addr := g.SA ++ g.T.map (·.1)
structure GI (K : PySem.W.Frag) (g : Gx) (B : List Addr) (H : Hp) (S : Store) : Prop where
  st : Paired (fun (p : Addr) (xs : List PyData) => ∃ vs, H p = some (.lst vs) ∧ vs.length ≤ sizeLine ∧ IsAll K (Fz B H) vs xs) g.SA S
  tabs : LamX.Tabs g.T H
  sub : ∀ a ∈ g.G, a ∈ B
  kn : ∀ a ∈ B, H a ≠ none
  nd : g.G.Nodup
  cd : ∀ l, g.L = some l → H l.cc = some (LamX.CodeO l.cc l.q) ∧ Ex (Fz l.B l.H) (Fz B H)
theorem Paired.imp {α β : Type} {F G : α → β → Prop} : ∀ {l₁ : List α} {l₂ : List β}, Paired F l₁ l₂ → (∀ a b, F a b → G a b) → Paired G l₁ l₂
  | _, _, .nil, _ => .nil
  | _, _, .cons r t, f => .cons (f _ _ r) (Paired.imp t f)
theorem GI.ex {K : PySem.W.Frag} {g : Gx} {B : List Addr} {H H' : Hp} {S : Store} (i : GI K g B H S) (e : Ex H H') : GI K g B H' S :=
  ⟨Paired.imp i.st fun p xs ⟨vs, a, z, b⟩ => ⟨vs, e _ _ a, z, b.mono e.fz⟩, i.tabs.ext e, i.sub, fun a ha z => i.kn a ha (e.free z), i.nd, fun l hl => ⟨e _ _ (i.cd l hl).1, (i.cd l hl).2.trans e.fz⟩⟩
/-- fewer addresses are banned -/
theorem GI.less {K : PySem.W.Frag} {g : Gx} {B B' : List Addr} {H : Hp} {S : Store} (i : GI K g B H S) (h : ∀ a ∈ B', a ∈ B) (hg : ∀ a ∈ g.G, a ∈ B') : GI K g B' H S :=
  ⟨Paired.imp i.st fun p xs ⟨vs, a, z, b⟩ => ⟨vs, a, z, b.mono (fz_anti h)⟩, i.tabs, hg, fun a ha => i.kn a (h a ha), i.nd, fun l hl => ⟨(i.cd l hl).1, (i.cd l hl).2.trans (fz_anti h)⟩⟩
/-- an exception's fields as they lie -/
def FsRep (K : PySem.W.Frag) (H : Hp) (x : Xc) (dd : Option Addr) : Prop :=
  (x.fs = [] ∧ dd = none) ∨ ∃ d fs, dd = some d ∧ H d = some (.xd fs) ∧ fs.map (·.1) = x.fs.map (·.1) ∧ IsAll K H (fs.map (·.2)) (x.fs.map (·.2))
theorem FsRep.mono {K : PySem.W.Frag} {H H' : Hp} {x : Xc} {dd : Option Addr} (h : FsRep K H x dd) (e : Ex H H') : FsRep K H' x dd := by
  rcases h with c | ⟨d, fs, c1, c2, c3, c4⟩
  · exact .inl c
  · exact .inr ⟨d, fs, c1, e _ _ c2, c3, c4.mono e⟩
/-! ### slots -/
inductive Md where
  | un | fz | own | own2 | st (k : Nat) | ea | lm | cs
  deriving DecidableEq
def Own (B0 B : List Addr) (ow : Addr → Nat) (i : Nat) (p : Addr) : Prop := p ∈ B ∧ p ∉ B0 ∧ ow p = i
abbrev Env := List (Option PyData)
def SlotOk (K : PySem.W.Frag) (g : Gx) (B0 B : List Addr) (ow : Addr → Nat) (H : Hp) (i : Nat) : Md → Option PyData → Option V → Prop
  | .un, _, _ => True
  | .fz, od, ov => ∀ d, od = some d → ∃ v, ov = some v ∧ Is K (Fz B H) v d
  | .own, od, ov => ∃ d p, od = some d ∧ ov = some (.ref p) ∧ Own B0 B ow i p ∧ Top K B H p d
  | .own2, od, ov => ∃ ds p qs, od = some (.list ds) ∧ ov = some (.ref p) ∧ (∀ q ∈ p :: qs, Own B0 B ow i q) ∧ ((p :: qs).Nodup ∧ qs.length ≤ sizeLine) ∧ H p = some (.lst (qs.map V.ref)) ∧ Paired (fun q d => Top K B H q d) qs ds
  | .st k, _, ov => ∃ p, g.SA[k]? = some p ∧ ov = some (.ref p)
  | .cs, od, ov => ∃ a vs ds, od = some (.list ds) ∧ ov = some (.ref a) ∧ SqL K (Fz B H) a vs ∧ vs.length ≤ sizeLine ∧ IsAll K (Fz B H) vs ds
  | .lm, _, ov => ∃ l, g.L = some l ∧ ov = some (.ref l.f)
  | .ea, _, ov => ∃ a x d, g.E = some (a, x, d) ∧ ov = some (.ref a) ∧ FsRep K (Fz B H) x d
structure Frame (K : PySem.W.Frag) (g : Gx) (B0 B : List Addr) (ow : Addr → Nat) (m : List Md) (ρ : Env) (σ : L2.St) (H : Hp) : Prop where
  lm : m.length = ρ.length
  ls : σ.length = ρ.length
  sub : ∀ a ∈ B0, a ∈ B
  gsub : ∀ a ∈ g.G, a ∈ B0
  slot : ∀ i md, m[i]? = some md → SlotOk K g B0 B ow H i md (ρ.getD i none) (σ.getD i none)
section
variable {K : PySem.W.Frag} {g : Gx} {B0 B B' : List Addr} {ow : Addr → Nat} {m : List Md} {ρ : Env} {σ : L2.St} {H H' : Hp} {i : Nat}
theorem SlotOk.step {md : Md} {od : Option PyData} {ov : Option V} (h : SlotOk K g B0 B ow H i md od ov) (e : Ex (Fz B H) (Fz B' H')) (hB : ∀ a, Own B0 B ow i a → a ∈ B') (ho : ∀ a o, Own B0 B ow i a → H a = some o → H' a = some o) : SlotOk K g B0 B' ow H' i md od ov := by
  have k : ∀ {a}, Own B0 B ow i a → Own B0 B' ow i a := fun {a} q => ⟨hB a q, q.2⟩
  cases md with
  | un => trivial
  | fz => exact fun d hd => let ⟨v, a, b⟩ := h d hd; ⟨v, a, b.mono e⟩
  | own =>
    obtain ⟨d, p, h1, h2, h3, h4⟩ := h
    exact ⟨d, p, h1, h2, k h3, h4.mono e fun o q => ho p o h3 q⟩
  | own2 =>
    obtain ⟨ds, p, qs, h1, h2, h3, h4, h5, h6⟩ := h
    refine ⟨ds, p, qs, h1, h2, fun q hq => k (h3 q hq), h4, ho p _ (h3 p (List.mem_cons_self ..)) h5, ?_⟩
    have h3' : ∀ q ∈ qs, Own B0 B ow i q := fun q hq => h3 q (List.mem_cons_of_mem _ hq)
    clear h1 h2 h3 h4 h5
    induction h6 with
    | nil => exact .nil
    | cons r t ih => exact .cons (r.mono e fun o q => ho _ o (h3' _ (List.mem_cons_self ..)) q) (ih fun q hq => h3' q (List.mem_cons_of_mem _ hq))
  | st k => exact h
  | ea => exact let ⟨a, x, d, h1, h2, h3⟩ := h; ⟨a, x, d, h1, h2, h3.mono e⟩
  | lm => exact h
  | cs => exact let ⟨a, vs, ds, h1, h2, h3, h4, h5⟩ := h; ⟨a, vs, ds, h1, h2, e.l h3, h4, h5.mono e⟩
theorem Frame.evo (f : Frame K g B0 B ow m ρ σ H) (e : Evo g.G H H') : Frame K g B0 B ow m ρ σ H' :=
  ⟨f.lm, f.ls, f.sub, f.gsub, fun i md h => (f.slot i md h).step (e.fz fun a ha => f.sub a (f.gsub a ha)) (fun a h => h.1) fun a o h q => e a o (fun z => h.2.1 (f.gsub a z)) q⟩
end
/-! ### expressions -/
/-- the weakest reading of an expression, a test, an argument list -/
structure WE (X : Cx) (e : Expr) (σ : L2.St) (H : Hp) (Q : VK) : Prop where
  go : ∀ (pins : List (Addr × Obj)) (s : Shared), Inv X pins σ H s → wpAny (model X.prog X.w) X.A (eval e X.env) (EP X pins σ Q) X.xe s
structure WT (X : Cx) (e : Expr) (σ : L2.St) (H : Hp) (Q : Bool → Hp → Prop) : Prop where
  go : ∀ (pins : List (Addr × Obj)) (s : Shared), Inv X pins σ H s → wpAny (model X.prog X.w) X.A (isTrue e X.env (eval e X.env)) (TP X pins σ Q) X.xe s
structure WA (X : Cx) (es : List Expr) (σ : L2.St) (H : Hp) (Q : List V → Hp → Prop) : Prop where
  go : ∀ (pos : Pos) (pins : List (Addr × Obj)) (s : Shared), Inv X pins σ H s → wpAny (model X.prog X.w) X.A (spliced (backTo pos (starEach es X.env))) (AP X pins σ Q) X.xe s
structure WS (X : Cx) (st : Stmt) (D : Ends) (σ : L2.St) (H : Hp) : Prop where
  go : ∀ (pins : List (Addr × Obj)) (s : Shared), Inv X pins σ H s → wpAny (model X.prog X.w) X.A (exec st X.env) (SP X pins D) X.xe s
structure WSs (X : Cx) (st : List Stmt) (D : Ends) (σ : L2.St) (H : Hp) : Prop where
  go : ∀ (pins : List (Addr × Obj)) (s : Shared), Inv X pins σ H s → wpAny (model X.prog X.w) X.A (execs st X.env) (SP X pins D) X.xe s
section
variable {X : Cx}
theorem we {e : Expr} : PE X e (WE X e) := ⟨fun pins s _ _ _ I h => h.go pins s I⟩
theorem wt {e : Expr} : PT X e (WT X e) := ⟨fun pins s _ _ _ I h => h.go pins s I⟩
theorem wa {e : List Expr} : PA X e (WA X e) := ⟨fun pos pins s _ _ _ I h => h.go pos pins s I⟩
theorem ws {e : Stmt} : PS X e (WS X e) := ⟨fun pins s _ _ _ I h => h.go pins s I⟩
theorem wss {e : List Stmt} : PSs X e (WSs X e) := ⟨fun pins s _ _ _ I h => h.go pins s I⟩
theorem WE.of {e : Expr} {t : TE} (h : PE X e t) {σ : L2.St} {H : Hp} {Q : VK} (q : t σ H Q) : WE X e σ H Q := ⟨fun pins s I => h.run pins s σ H Q I q⟩
theorem WT.of {e : Expr} {t : TT} (h : PT X e t) {σ : L2.St} {H : Hp} {Q : Bool → Hp → Prop} (q : t σ H Q) : WT X e σ H Q := ⟨fun pins s I => h.run pins s σ H Q I q⟩
theorem WA.of {e : List Expr} {t : TA} (h : PA X e t) {σ : L2.St} {H : Hp} {Q : List V → Hp → Prop} (q : t σ H Q) : WA X e σ H Q := ⟨fun pos pins s I => h.run pos pins s σ H Q I q⟩
theorem WS.of {e : Stmt} {t : TS} (h : PS X e t) {σ : L2.St} {H : Hp} {Q : Ends} (q : t Q σ H) : WS X e Q σ H := ⟨fun pins s I => h.run pins s σ H Q I q⟩
theorem WSs.of {e : List Stmt} {t : TS} (h : PSs X e t) {σ : L2.St} {H : Hp} {Q : Ends} (q : t Q σ H) : WSs X e Q σ H := ⟨fun pins s I => h.run pins s σ H Q I q⟩
end
/-- an exception as it lies -/
def XcRep (K : PySem.W.Frag) (mg : Str → Option Value) (H : Hp) (x : Xc) (cls : Value) (dd : Option Addr) : Prop :=
  ∃ C, mg x.cls = some (.ref C) ∧ cls = .ref C ∧ FsRep K H x dd
theorem XcRep.mono {K : PySem.W.Frag} {mg : Str → Option Value} {H H' : Hp} {x : Xc} {cls : Value} {dd : Option Addr} (h : XcRep K mg H x cls dd) (e : Ex H H') : XcRep K mg H' x cls dd :=
  let ⟨C, a, b, c⟩ := h; ⟨C, a, b, c.mono e⟩
/-- where one stands -/
structure Cc where
  g : Gx
  X : Cx
  W : WX
abbrev DE := Env → Store → R PyData
abbrev DT := Env → Store → R Bool
abbrev DA := Env → Store → R (List PyData)
/-- what an exception asks -/
def XOk (c : Cc) (B : List Addr) (H : Hp) (σ : L2.St) (x : Xc) (S' : Store) : Prop := ∀ cls dd H', Evo c.g.G H H' → GI c.X.K c.g B H' S' → XcRep c.X.K c.X.mg (Fz B H') x cls dd → c.W cls dd σ H'
/-- what a reading of an expression asks: Good is said of the value and the heap -/
def Goal {α β : Type} (c : Cc) (B : List Addr) (H : Hp) (σ : L2.St) (r : R α) (Good : Store → Hp → β → α → Prop) (Q : β → Hp → Prop) : Prop :=
  (∀ d S' v H', r = .ok d S' → Evo c.g.G H H' → GI c.X.K c.g B H' S' → Good S' H' v d → Q v H') ∧ (∀ x S', r = .exc x S' → XOk c B H σ x S') ∧ r ≠ .bad
/-- an expression with a frozen value -/
def EV (c : Cc) (m : List Md) (e : Expr) (den : DE) : Prop := ∀ σ H ρ S B0 B ow Q, Frame c.X.K c.g B0 B ow m ρ σ H → GI c.X.K c.g B H S →
  Goal c B H σ (den ρ S) (fun _ H' v d => Is c.X.K (Fz B H') v d) Q → WE c.X e σ H Q
/-- an expression with a value that may be read now, its parts frozen: a list of a slot's own -/
def EB (c : Cc) (m : List Md) (e : Expr) (den : DE) : Prop := ∀ σ H ρ S B0 B ow Q, Frame c.X.K c.g B0 B ow m ρ σ H → GI c.X.K c.g B H S →
  Goal c B H σ (den ρ S) (fun _ H' v d => Is c.X.K (Fz B H') v d ∨ ∃ p, v = .ref p ∧ p ∉ c.g.G ∧ Top c.X.K B H' p d) Q → WE c.X e σ H Q
/-- an expression with a new list, dict of its own -/
def EO (c : Cc) (m : List Md) (e : Expr) (den : DE) : Prop := ∀ σ H ρ S B0 B ow Q, Frame c.X.K c.g B0 B ow m ρ σ H → GI c.X.K c.g B H S →
  Goal c B H σ (den ρ S) (fun S' H' v d => ∃ p, v = .ref p ∧ H p = none ∧ Top c.X.K (p :: B) H' p d ∧ GI c.X.K c.g (p :: B) H' S') Q → WE c.X e σ H Q
def ET (c : Cc) (m : List Md) (e : Expr) (den : DT) : Prop := ∀ σ H ρ S B0 B ow Q, Frame c.X.K c.g B0 B ow m ρ σ H → GI c.X.K c.g B H S →
  Goal c B H σ (den ρ S) (fun _ H' v d => v = d) Q → WT c.X e σ H Q
def EA (c : Cc) (m : List Md) (e : List Expr) (den : DA) : Prop := ∀ σ H ρ S B0 B ow Q, Frame c.X.K c.g B0 B ow m ρ σ H → GI c.X.K c.g B H S →
  Goal c B H σ (den ρ S) (fun _ H' v d => IsAll c.X.K (Fz B H') v d) Q → WA c.X e σ H Q
section
variable {α β γ δ : Type} {c : Cc} {B : List Addr} {H : Hp} {σ : L2.St}
/-- what follows: the first part's reading asks the rest's -/
theorem Goal.bind {r : R α} {k : α → Store → R γ} {G2 : Store → Hp → δ → γ → Prop} {Q : δ → Hp → Prop} (h : Goal c B H σ (r.bind k) G2 Q) {G1 : Store → Hp → β → α → Prop} {Q1 : β → Hp → Prop}
    (step : ∀ d S' v H', r = .ok d S' → Evo c.g.G H H' → GI c.X.K c.g B H' S' → G1 S' H' v d → Goal c B H' σ (k d S') G2 Q → Q1 v H') : Goal c B H σ r G1 Q1 := by
  obtain ⟨h1, h2, h3⟩ := h
  refine ⟨fun d S' v H' e ev gi gd => step d S' v H' e ev gi gd ⟨fun d2 S2 v2 H2 e2 ev2 gi2 gd2 => h1 d2 S2 v2 H2 (by rw [e]; exact e2) (ev.trans ev2) gi2 gd2, fun x S2 e2 cls dd H2 ev2 gi2 xr => h2 x S2 (by rw [e]; exact e2) cls dd H2 (ev.trans ev2) gi2 xr, fun e2 => h3 (by rw [e]; exact e2)⟩, fun x S2 e => h2 x S2 (by rw [e]; rfl), fun e => h3 (by rw [e]; rfl)⟩
theorem Goal.ok {d : α} {S : Store} {G2 : Store → Hp → β → α → Prop} {Q : β → Hp → Prop} (h : Goal c B H σ (.ok d S) G2 Q) {v : β} {H' : Hp} (ev : Evo c.g.G H H') (gi : GI c.X.K c.g B H' S) (gd : G2 S H' v d) : Q v H' := h.1 d S v H' rfl ev gi gd
theorem Goal.ok0 {d : α} {S : Store} {G2 : Store → Hp → β → α → Prop} {Q : β → Hp → Prop} (h : Goal c B H σ (.ok d S) G2 Q) {v : β} (gi : GI c.X.K c.g B H S) (gd : G2 S H v d) : Q v H := h.ok (Evo.refl _ _) gi gd
theorem Goal.not_bad {r : R α} {G2 : Store → Hp → β → α → Prop} {Q : β → Hp → Prop} (h : Goal c B H σ r G2 Q) : r ≠ .bad := h.2.2
theorem Goal.imp {r : R α} {G1 : Store → Hp → β → α → Prop} {G2 : Store → Hp → γ → α → Prop} {Q : β → Hp → Prop} {Q' : γ → Hp → Prop} (h : Goal c B H σ r G1 Q) (f : ∀ H' v d S', Evo c.g.G H H' → GI c.X.K c.g B H' S' → G2 S' H' v d → (∀ v', G1 S' H' v' d → Q v' H') → Q' v H') : Goal c B H σ r G2 Q' :=
  ⟨fun d S' v H' e ev gi gd => f H' v d S' ev gi gd fun v' g1 => h.1 d S' v' H' e ev gi g1, h.2.1, h.2.2⟩
end
section
variable {c : Cc} {m : List Md} {e : Expr} {den : DE}
theorem EV.eb (h : EV c m e den) : EB c m e den := fun σ H ρ S B0 B ow Q fr gi g => h σ H ρ S B0 B ow Q fr gi (g.imp fun H' v d S' _ _ gd k => k v (.inl gd))
theorem EO.ev (h : EO c m e den) : EV c m e den := fun σ H ρ S B0 B ow Q fr gi g => h σ H ρ S B0 B ow Q fr gi (g.imp fun H' v d S' _ _ gd k => by
  obtain ⟨p, rfl, hp, t, _⟩ := gd
  have np : p ∉ B := fun z => gi.kn p z hp
  exact k _ (t.is (fz_anti fun a ha => List.mem_cons_of_mem _ ha) fun o q => fz_some.mpr ⟨np, q⟩))
theorem EO.eb (h : EO c m e den) : EB c m e den := h.ev.eb
end
end PD
/-! PDb: names, constants, displays, operators, comparisons, tests. -/
namespace PD
open PySem PySem.Spec PyProof.Rows L2
/-! ### readable values -/
def isNone : PyData → Bool | .none => true | _ => false
def Rb (K : PySem.W.Frag) (g : Gx) (B : List Addr) (H : Hp) (v : V) (d : PyData) : Prop := Is K (Fz B H) v d ∨ ∃ p, v = .ref p ∧ p ∉ g.G ∧ Top K B H p d
section
variable {K : PySem.W.Frag} {g : Gx} {B : List Addr} {H H' : Hp} {v : V} {d : PyData}
theorem Rb.evo (h : Rb K g B H v d) (hg : ∀ a ∈ g.G, a ∈ B) (e : Evo g.G H H') : Rb K g B H' v d := by
  rcases h with h | ⟨p, rfl, hp, t⟩
  · exact .inl (h.mono (e.fz hg))
  · exact .inr ⟨p, rfl, hp, t.mono (e.fz hg) fun o q => e p o hp q⟩
theorem fz_evo (hg : ∀ a ∈ g.G, a ∈ B) (e : Evo g.G H H') {a : Addr} {o : HO} (h : Fz B H a = some o) : H' a = some o :=
  have q := fz_some.mp h
  e a o (fun z => q.1 (hg a z)) q.2
theorem rd_evo (hg : ∀ a ∈ g.G, a ∈ B) (e : Evo g.G H H') {a : Addr} {o : HO} (h : Rd (Fz B H) a o) : Rd H' a o := by
  rcases h with h | ⟨u, h⟩
  · exact .inl (fz_evo hg e h)
  · exact .inr ⟨u, fz_evo hg e h⟩
theorem Rb.lst {ds : List PyData} (h : Rb K g B H v (.list ds)) (hg : ∀ a ∈ g.G, a ∈ B) : ∃ a vs, v = .ref a ∧ IsAll K (Fz B H) vs ds ∧ (∀ H', Evo g.G H H' → H' a = some (.lst vs)) ∧ vs.length ≤ sizeLine := by
  rcases h with h | ⟨p, rfl, hp, t⟩
  · cases h with
    | lst h z r => exact ⟨_, _, rfl, r, fun H' e => fz_evo hg e h, z⟩
  · rcases t with ⟨ds, vs, e, a, z, b⟩ | ⟨ds, kvs, e, _⟩ | ⟨ds, kvs, e, _⟩ <;> cases e
    exact ⟨p, vs, rfl, b, fun H' e => e p _ hp a, z⟩
theorem Rb.tup {ds : List PyData} (h : Rb K g B H v (.tuple ds)) (hg : ∀ a ∈ g.G, a ∈ B) : ∃ a vs, v = .ref a ∧ IsAll K (Fz B H) vs ds ∧ (∀ H', Evo g.G H H' → SqT K H' a vs) ∧ vs.length ≤ sizeLine := by
  rcases h with h | ⟨p, rfl, hp, t⟩
  · cases h with
    | tup h z r =>
      refine ⟨_, _, rfl, r, fun H' e => ?_, z⟩
      rcases h with h | h
      · exact .inl (rd_evo hg e h)
      · exact .inr h
  · rcases t with ⟨ds, vs, e, a, b⟩ | ⟨ds, kvs, e, _⟩ | ⟨ds, kvs, e, _⟩ <;> cases e
theorem Rb.int {i : Int} (h : Rb K g B H v (.int i)) : v = .int i := by
  rcases h with h | ⟨p, rfl, hp, ⟨ds, vs, e, _⟩ | ⟨ds, kvs, e, _⟩ | ⟨ds, kvs, e, _⟩⟩
  · cases h; rfl
  all_goals cases e
theorem Rb.str {i : Str} (h : Rb K g B H v (.str i)) : v = .str i := by
  rcases h with h | ⟨p, rfl, hp, ⟨ds, vs, e, _⟩ | ⟨ds, kvs, e, _⟩ | ⟨ds, kvs, e, _⟩⟩
  · cases h; rfl
  all_goals cases e
theorem Rb.bool {i : Bool} (h : Rb K g B H v (.bool i)) : v = .bl i := by
  rcases h with h | ⟨p, rfl, hp, ⟨ds, vs, e, _⟩ | ⟨ds, kvs, e, _⟩ | ⟨ds, kvs, e, _⟩⟩
  · cases h; rfl
  all_goals cases e
theorem Rb.non (h : Rb K g B H v .none) : v = .non := by
  rcases h with h | ⟨p, rfl, hp, ⟨ds, vs, e, _⟩ | ⟨ds, kvs, e, _⟩ | ⟨ds, kvs, e, _⟩⟩
  · cases h; rfl
  all_goals cases e
/-- it is None just where its data is -/
theorem Rb.non_iff (h : Rb K g B H v d) : decide (v = .non) = isNone d := by
  rcases h with h | ⟨p, rfl, hp, ⟨ds, vs, rfl, _⟩ | ⟨ds, kvs, rfl, _⟩ | ⟨ds, kvs, rfl, _⟩⟩
  · cases h <;> rfl
  all_goals rfl
mutual
theorem Is.dp : ∀ {v : V} {d : PyData}, Is K H v d → d.canLay0 = true → Dp K H v d
  | _, _, .non, _ => .non
  | _, _, .bl b, _ => .bl b
  | _, _, .int i, _ => .int i
  | _, _, .str x, _ => .str x
  | _, _, .lst h _ r, q => .lst (.inl (.inl h)) (IsAll.dp r (by simpa [PyData.canLay0] using q))
  | _, _, .tup h _ r, q => .tup h (IsAll.dp r (by simpa [PyData.canLay0] using q))
  | _, _, .dK _ _ _, q => by simp [PyData.canLay0] at q
  | _, _, .dT _ _ _, q => by simp [PyData.canLay0] at q
theorem IsAll.dp : ∀ {v : List V} {d : List PyData}, IsAll K H v d → PyData.canLayAll0 d = true → DpAll K H v d
  | _, _, .nil, _ => .nil
  | _, _, .cons h r, q => by
    have q := Bool.and_eq_true_iff.mp (show (PyData.canLay0 _ && PyData.canLayAll0 _) = true by rw [PyData.canLayAll0] at q; exact q)
    exact .cons (Is.dp h q.1) (IsAll.dp r q.2)
end
theorem Rb.dp (h : Rb K g B H v d) (q : d.canLay0 = true) : Dp K H v d := by
  rcases h with h | ⟨p, rfl, hp, t⟩
  · exact (h.mono fz_le).dp q
  · exact (t.is fz_le fun _ z => z).dp q
theorem new_notin {p : Addr} (hn : ∀ a ∈ B, H a ≠ none) (hp : H p = none) : p ∉ B := fun z => hn p z hp
theorem fz_new {p : Addr} {o : HO} (hn : ∀ a ∈ B, H a ≠ none) (hp : H p = none) : Fz B (upd H p o) p = some o := fz_some.mpr ⟨new_notin hn hp, upd_same⟩
theorem is_newT {p : Addr} {vs : List V} {ds : List PyData} (hn : ∀ a ∈ B, H a ≠ none) (hp : H p = none) (hz : vs.length ≤ sizeLine) (h : IsAll K (Fz B H) vs ds) : Is K (Fz B (upd H p (.tup vs))) (.ref p) (.tuple ds) :=
  .tup (.inl (.inl (fz_new hn hp))) hz (h.mono (Ex.new hp).fz)
theorem is_newL {p : Addr} {vs : List V} {ds : List PyData} (hn : ∀ a ∈ B, H a ≠ none) (hp : H p = none) (hz : vs.length ≤ sizeLine) (h : IsAll K (Fz B H) vs ds) : Is K (Fz B (upd H p (.lst vs))) (.ref p) (.list ds) :=
  .lst (fz_new hn hp) hz (h.mono (Ex.new hp).fz)
theorem top_newL {p : Addr} {vs : List V} {ds : List PyData} (hp : H p = none) (hz : vs.length ≤ sizeLine) (h : IsAll K (Fz B H) vs ds) : Top K (p :: B) (upd H p (.lst vs)) p (.list ds) :=
  .inl ⟨ds, vs, rfl, upd_same, hz, h.mono fun a o q => by
    have q := fz_some.mp q
    have ne : a ≠ p := ne_of_none q.2 hp
    exact fz_some.mpr ⟨fun z => (List.mem_cons.mp z).elim ne q.1, (Ex.new hp) a o q.2⟩⟩
end
theorem GI.fresh {K : PySem.W.Frag} {g : Gx} {B : List Addr} {H H' : Hp} {S : Store} {p : Addr} (i : GI K g B H S) (e : Ex H H') (hp : H p = none) (ht : H' p ≠ none) : GI K g (p :: B) H' S := by
  have ex : Ex (Fz B H) (Fz (p :: B) H') := fun a u q => by
    have q := fz_some.mp q
    have ne : a ≠ p := ne_of_none q.2 hp
    exact fz_some.mpr ⟨fun z => (List.mem_cons.mp z).elim ne q.1, e a u q.2⟩
  refine ⟨Paired.imp i.st fun p xs ⟨vs, a, z, b⟩ => ⟨vs, e _ _ a, z, b.mono ex⟩, i.tabs.ext e, fun a ha => List.mem_cons_of_mem _ (i.sub a ha), fun a ha => ?_, i.nd, fun l hl => ⟨e _ _ (i.cd l hl).1, (i.cd l hl).2.trans ex⟩⟩
  rcases List.mem_cons.mp ha with rfl | ha
  · exact ht
  · intro z
    exact i.kn a ha (e.free z)
def ofO {α : Type} (o : Option α) (S : Store) : R α := match o with | some a => .ok a S | none => .bad
@[simp] theorem ofO_some {α : Type} (a : α) (S : Store) : ofO (some a) S = .ok a S := rfl
@[simp] theorem ofO_none {α : Type} (S : Store) : ofO (none : Option α) S = .bad := rfl
/-! ### names and constants -/
def dVar (i : Nat) : DE := fun ρ S => ofO (ρ.getD i none) S
theorem ev_var {c : Cc} {m : List Md} {i : Nat} {x : Str} {pos : Pos} (hm : m[i]? = some .fz) (hp : PE c.X (.Name x pos) (tVar i)) : EV c m (.Name x pos) (dVar i) := by
  intro σ H ρ S B0 B ow Q fr gi g
  refine WE.of hp ?_
  have hs := fr.slot i _ hm
  unfold dVar at g
  cases e : ρ.getD i none with
  | none => rw [e] at g; exact absurd rfl g.not_bad
  | some d =>
    rw [e] at g hs
    obtain ⟨v, hv, q⟩ := hs d rfl
    refine ⟨v, ?_, g.ok0 gi q⟩
    rw [List.getD_eq_getElem?_getD] at hv
    cases h2 : σ[i]? with
    | none => rw [h2] at hv; cases hv
    | some o => rw [h2] at hv; rw [show o = some v from hv]
/-- a list, dict of the slot's own, read -/
theorem eb_own {c : Cc} {m : List Md} {i : Nat} {x : Str} {pos : Pos} (hm : m[i]? = some .own) (hp : PE c.X (.Name x pos) (tVar i)) : EB c m (.Name x pos) (dVar i) := by
  intro σ H ρ S B0 B ow Q fr gi g
  refine WE.of hp ?_
  obtain ⟨d, p, e, hv, hw, t⟩ := fr.slot i _ hm
  unfold dVar at g
  rw [e] at g
  refine ⟨.ref p, ?_, g.ok0 gi (.inr ⟨p, rfl, fun z => hw.2.1 (fr.gsub p z), t⟩)⟩
  rw [List.getD_eq_getElem?_getD] at hv
  cases h2 : σ[i]? with
  | none => rw [h2] at hv; cases hv
  | some o => rw [h2] at hv; rw [show o = some _ from hv]
def dC (d : PyData) : DE := fun _ S => .ok d S
section
variable {c : Cc} {m : List Md}
theorem ev_const {e : Expr} {v : V} {d : PyData} (hp : PE c.X e (tC v)) (h : ∀ H, Is c.X.K H v d) : EV c m e (dC d) := fun σ H ρ S B0 B ow Q fr gi g => WE.of hp (g.ok0 gi (h _))
theorem ev_int {i : Int} {j pos} : EV c m (.Constant (.int i) j pos) (dC (.int i)) := ev_const pe_int fun _ => .int i
theorem ev_bl {i : Bool} {j pos} : EV c m (.Constant (.bool i) j pos) (dC (.bool i)) := ev_const pe_bl fun _ => .bl i
theorem ev_str {i : Str} {j pos} : EV c m (.Constant (.str i) j pos) (dC (.str i)) := ev_const pe_str fun _ => .str i
theorem ev_non {j pos} : EV c m (.Constant .none j pos) (dC .none) := ev_const pe_non fun _ => .non
/-- a constant of the module -/
theorem ev_glob {x : Str} {v : V} {u : Value} {d : PyData} {pos : Pos} (hg : Gl c.X x) (hm : c.X.mg x = some u) (r : RelV v u) (h : ∀ H, Is c.X.K H v d) (hd : (x == ("__debug__" : Str)) = false := by decide) : EV c m (.Name x pos) (dC d) := ev_const (pe_glob hg hm r hd) h
/-! ### lists of arguments, displays -/
def dNil : DA := fun _ S => .ok [] S
def dCons (a : DE) (r : DA) : DA := fun ρ S => (a ρ S).bind fun x S1 => (r ρ S1).bind fun xs S2 => .ok (x :: xs) S2
theorem ea_nil : EA c m [] dNil := fun σ H ρ S B0 B ow Q fr gi g => WA.of pa_nil (g.ok0 gi .nil)
theorem ea_cons {e : Expr} {es : List Expr} {a : DE} {r : DA} (ha : EV c m e a) (hr : EA c m es r) (hs : starEach (e :: es) c.X.env = (false, eval e c.X.env) :: starEach es c.X.env := by rfl) : EA c m (e :: es) (dCons a r) := by
  intro σ H ρ S B0 B ow Q fr gi g
  refine WA.of (pa_cons we wa hs) (ha σ H ρ S B0 B ow _ fr gi (g.bind fun d S' v H' _ ev gi' gd g' => ?_))
  refine hr σ H' ρ S' B0 B ow _ (fr.evo ev) gi' (g'.bind fun ds S2 vs H2 _ ev2 gi2 gd2 g2 => ?_)
  exact g2.ok0 gi2 (.cons (gd.mono (ev2.fz gi2.sub)) gd2)
def sz (n : Nat) : Bool := decide (n ≤ sizeLine)
def dTup (a : DA) : DE := fun ρ S => (a ρ S).bind fun xs S1 => if sz xs.length then .ok (.tuple xs) S1 else .bad
def dLst (a : DA) : DE := fun ρ S => (a ρ S).bind fun xs S1 => if sz xs.length then .ok (.list xs) S1 else .bad
theorem ev_tup {es : List Expr} {a : DA} {x1 pos} (ha : EA c m es a) : EV c m (.Tuple es x1 pos) (dTup a) := by
  intro σ H ρ S B0 B ow Q fr gi g
  refine WE.of (pe_tup wa) (ha σ H ρ S B0 B ow _ fr gi (g.bind fun ds S' vs H' _ ev gi' gd g' => ?_))
  unfold sz at g'
  by_cases hz : ds.length ≤ sizeLine
  · simp only [hz, decide_true, if_true] at g'
    refine ⟨by rw [gd.length]; exact hz, fun p hp => g'.ok (Ex.new hp).evo (gi'.ex (Ex.new hp)) (is_newT gi'.kn hp (by rw [gd.length]; exact hz) gd)⟩
  · simp [hz] at g'
    exact absurd rfl g'.not_bad
theorem eo_lst {es : List Expr} {a : DA} {pos} (ha : EA c m es a) : EO c m (.List es pos) (dLst a) := by
  intro σ H ρ S B0 B ow Q fr gi g
  refine WE.of (pe_lst wa) (ha σ H ρ S B0 B ow _ fr gi (g.bind (G1 := fun _ H' v d => IsAll c.X.K (Fz B H') v d) fun ds S' vs H' _ ev gi' gd g' => ?_))
  unfold sz at g'
  by_cases hz : ds.length ≤ sizeLine
  · simp only [hz, decide_true, if_true] at g'
    refine ⟨by rw [gd.length]; exact hz, fun p hp => g'.ok (Ex.new hp).evo (gi'.ex (Ex.new hp)) ⟨p, rfl, ?_, top_newL hp (by rw [gd.length]; exact hz) gd, gi'.fresh (Ex.new hp) hp (by rw [upd_same]; intro z; cases z)⟩⟩
    cases q : H p with
    | none => rfl
    | some o =>
      exfalso
      by_cases hG : p ∈ c.g.G
      · exact gi'.kn p (gi'.sub p hG) hp
      · rw [ev p o hG q] at hp; cases hp
  · simp [hz] at g'
    exact absurd rfl g'.not_bad
end
/-- what was free is free ahead -/
theorem free_back {K : PySem.W.Frag} {g : Gx} {B : List Addr} {H H' : Hp} {S : Store} {p : Addr} (ev : Evo g.G H H') (gi : GI K g B H' S) (hp : H' p = none) : H p = none := by
  cases q : H p with
  | none => rfl
  | some o =>
    exfalso
    by_cases hG : p ∈ g.G
    · exact gi.kn p (gi.sub p hG) hp
    · rw [ev p o hG q] at hp; cases hp
/-! ### operators by values -/
/-- what an operator is worth on data: a value that is there, or one that is laid anew -/
def OpD (K : PySem.W.Frag) (g : Gx) (r : R2) (F : PyData → PyData → Option PyData) : Prop := ∀ (B : List Addr) (H : Hp) (x y : V) (dx dy d : PyData) (Q : VK), (∀ a ∈ B, H a ≠ none) → (∀ a ∈ g.G, a ∈ B) →
  Rb K g B H x dx → Rb K g B H y dy → F dx dy = some d → (∀ v H', Ex H H' → Is K (Fz B H') v d → Q v H') → r x y H Q
/-- .. always a new list -/
def OpO (K : PySem.W.Frag) (g : Gx) (r : R2) (F : PyData → PyData → Option PyData) : Prop := ∀ (B : List Addr) (H : Hp) (x y : V) (dx dy d : PyData) (Q : VK), (∀ a ∈ B, H a ≠ none) → (∀ a ∈ g.G, a ∈ B) →
  Rb K g B H x dx → Rb K g B H y dy → F dx dy = some d → (∀ p H', Ex H H' → H p = none → Top K (p :: B) H' p d → Q (.ref p) H') → r x y H Q
def d2 (F : PyData → PyData → Option PyData) (a b : DE) : DE := fun ρ S => (a ρ S).bind fun x S1 => (b ρ S1).bind fun y S2 => ofO (F x y) S2
section
variable {c : Cc} {m : List Md} {a b : Expr} {da db : DE} {r r1 r2 : R2} {F : PyData → PyData → Option PyData} {pos : Pos}
theorem OpR.or {f : Value → Value → Sem Value} (h1 : OpR c.X f r1) (h2 : OpR c.X f r2) : OpR c.X f (fun x y H Q => r1 x y H Q ∨ r2 x y H Q) := fun pins s σ H x y v u Q I rx ry h => by
  rcases h with h | h
  · exact h1 pins s σ H x y v u Q I rx ry h
  · exact h2 pins s σ H x y v u Q I rx ry h
theorem two_read (hd : OpD c.X.K c.g r F) (ha : EB c m a da) (hb : EB c m b db) {σ : L2.St} {H : Hp} {ρ : Env} {S : Store} {B0 B : List Addr} {ow : Addr → Nat} {Q : VK} (fr : Frame c.X.K c.g B0 B ow m ρ σ H) (gi : GI c.X.K c.g B H S)
    (g : Goal c B H σ (d2 F da db ρ S) (fun _ H' v d => Is c.X.K (Fz B H') v d) Q) : tOp r (WE c.X a) (WE c.X b) σ H Q := by
  refine ha σ H ρ S B0 B ow _ fr gi (g.bind fun d S' v H' _ ev gi' gd g' => ?_)
  refine hb σ H' ρ S' B0 B ow _ (fr.evo ev) gi' (g'.bind fun e S2 w H2 _ ev2 gi2 gd2 g2 => ?_)
  cases q : F d e with
  | none => rw [q] at g2; exact absurd rfl g2.not_bad
  | some z =>
    rw [q] at g2
    exact hd B H2 v w d e z Q gi2.kn gi2.sub (Rb.evo gd gi'.sub ev2) gd2 q fun u H3 x3 i3 => g2.ok x3.evo (gi2.ex x3) i3
theorem ev_op {op : Operator} (ho : OpR c.X (binaryOp op) r) (hd : OpD c.X.K c.g r F) (ha : EB c m a da) (hb : EB c m b db) : EV c m (.BinOp a op b pos) (d2 F da db) := fun σ H ρ S B0 B ow Q fr gi g =>
  WE.of (pe_op ho we we) (two_read hd ha hb fr gi g)
theorem ev_cmp {op : CmpOp} (ho : OpR c.X (compareOp op) r) (hd : OpD c.X.K c.g r F) (ha : EB c m a da) (hb : EB c m b db) (hm : behindInMarks op b = false) : EV c m (.Compare a [op] [b] pos) (d2 F da db) := fun σ H ρ S B0 B ow Q fr gi g =>
  WE.of (pe_cmpR ho we we hm) (two_read hd ha hb fr gi g)
theorem eo_op {op : Operator} (ho : OpR c.X (binaryOp op) r) (hd : OpO c.X.K c.g r F) (ha : EB c m a da) (hb : EB c m b db) : EO c m (.BinOp a op b pos) (d2 F da db) := by
  intro σ H ρ S B0 B ow Q fr gi g
  refine WE.of (pe_op ho we we) ?_
  refine ha σ H ρ S B0 B ow _ fr gi (g.bind fun d S' v H' _ ev gi' gd g' => ?_)
  refine hb σ H' ρ S' B0 B ow _ (fr.evo ev) gi' (g'.bind (G1 := fun _ H' v d => Is c.X.K (Fz B H') v d ∨ ∃ p, v = .ref p ∧ p ∉ c.g.G ∧ Top c.X.K B H' p d) fun e S2 w H2 _ ev2 gi2 gd2 g2 => ?_)
  cases q : F d e with
  | none => rw [q] at g2; exact absurd rfl g2.not_bad
  | some z =>
    rw [q] at g2
    refine hd B H2 v w d e z Q gi2.kn gi2.sub (Rb.evo gd gi'.sub ev2) gd2 q fun p H3 x3 hp i3 => g2.ok x3.evo (gi2.ex x3) ⟨p, rfl, ?_, i3, gi2.fresh x3 hp i3.some⟩
    exact free_back ev gi' (free_back ev2 gi2 hp)
end
/-! ### whole numbers -/
def fI (C : Int → Int → Bool) (f : Int → Int → Int) : PyData → PyData → Option PyData
  | .int i, .int j => if C i j then some (.int (f i j)) else none
  | _, _ => none
theorem opd_I {K : PySem.W.Frag} {g : Gx} {P : Int → Int → Prop} {C : Int → Int → Bool} {f : Int → Int → Int} (h : ∀ i j, C i j = true → P i j) : OpD K g (rI P fun i j => .int (f i j)) (fI C f) := by
  intro B H x y dx dy d Q _ _ hx hy e k
  unfold fI at e
  split at e
  · rename_i i j
    split at e
    · rename_i hc
      cases e
      obtain rfl := hx.int
      obtain rfl := hy.int
      exact ⟨i, j, rfl, rfl, h i j hc, k _ _ (Ex.refl _) (.int _)⟩
    · cases e
  · cases e
theorem opd_I0 {K : PySem.W.Frag} {g : Gx} {f : Int → Int → Int} : OpD K g (rI0 fun i j => .int (f i j)) (fI (fun _ _ => true) f) := by
  intro B H x y dx dy d Q _ _ hx hy e k
  unfold fI at e
  split at e
  · rename_i i j
    cases e
    obtain rfl := hx.int
    obtain rfl := hy.int
    exact ⟨i, j, rfl, rfl, k _ _ (Ex.refl _) (.int _)⟩
  · cases e
/-- a comparison of two whole numbers -/
def fB (f : Int → Int → Bool) : PyData → PyData → Option PyData
  | .int i, .int j => some (.bool (f i j))
  | _, _ => none
theorem opd_B {K : PySem.W.Frag} {g : Gx} {f : Int → Int → Bool} : OpD K g (rI0 fun i j => .bl (f i j)) (fB f) := by
  intro B H x y dx dy d Q _ _ hx hy e k
  unfold fB at e
  split at e
  · rename_i i j
    cases e
    obtain rfl := hx.int
    obtain rfl := hy.int
    exact ⟨i, j, rfl, rfl, k _ _ (Ex.refl _) (.bl _)⟩
  · cases e
/-- either of two -/
theorem OpD.or {K : PySem.W.Frag} {g : Gx} {r1 r2 : R2} {F1 F2 F : PyData → PyData → Option PyData} (h1 : OpD K g r1 F1) (h2 : OpD K g r2 F2) (h : ∀ x y d, F x y = some d → F1 x y = some d ∨ F2 x y = some d) : OpD K g (fun x y H Q => r1 x y H Q ∨ r2 x y H Q) F := fun B H x y dx dy d Q a b hx hy e k => by
  rcases h dx dy d e with e | e
  · exact .inl (h1 B H x y dx dy d Q a b hx hy e k)
  · exact .inr (h2 B H x y dx dy d Q a b hx hy e k)
/-- and if the first gives nothing the second -/
def orF (F1 F2 : PyData → PyData → Option PyData) : PyData → PyData → Option PyData := fun x y => match F1 x y with | some d => some d | none => F2 x y
theorem orF_or {F1 F2 : PyData → PyData → Option PyData} (x y d : PyData) (h : orF F1 F2 x y = some d) : F1 x y = some d ∨ F2 x y = some d := by
  unfold orF at h
  cases e : F1 x y with
  | some z => rw [e] at h; exact .inl h
  | none => rw [e] at h; exact .inr h
/-! ### +, -, *, //, %, ** -/
def fAddS : PyData → PyData → Option PyData
  | .str a, .str b => if sz (a.length + b.length) then some (.str (a ++ b)) else none
  | _, _ => none
def fAddT : PyData → PyData → Option PyData
  | .tuple a, .tuple b => if sz (a.length + b.length) then some (.tuple (a ++ b)) else none
  | _, _ => none
def fAddL : PyData → PyData → Option PyData
  | .list a, .list b => if sz (a.length + b.length) then some (.list (a ++ b)) else none
  | _, _ => none
def fAdd : PyData → PyData → Option PyData
  | .int i, .int j => some (.int (i + j))
  | .str a, .str b => if sz (a.length + b.length) then some (.str (a ++ b)) else none
  | .tuple a, .tuple b => if sz (a.length + b.length) then some (.tuple (a ++ b)) else none
  | .list a, .list b => if sz (a.length + b.length) then some (.list (a ++ b)) else none
  | _, _ => none
theorem sz_le {n : Nat} (h : sz n = true) : n ≤ sizeLine := of_decide_eq_true h
theorem opd_addS {K : PySem.W.Frag} {g : Gx} : OpD K g (fun x y H Q => ∃ i j, x = .str i ∧ y = .str j ∧ i.length + j.length ≤ sizeLine ∧ Q (.str (i ++ j)) H) fAddS := by
  intro B H x y dx dy d Q _ _ hx hy e k
  unfold fAddS at e
  split at e
  · rename_i a b
    split at e
    · rename_i hz
      cases e
      obtain rfl := hx.str
      obtain rfl := hy.str
      exact ⟨a, b, rfl, rfl, sz_le hz, k _ _ (Ex.refl _) (.str _)⟩
    · cases e
  · cases e
theorem opd_addT {K : PySem.W.Frag} {g : Gx} : OpD K g (rCatA K) fAddT := by
  intro B H x y dx dy d Q hn hg hx hy e k
  unfold fAddT at e
  split at e
  · rename_i a b
    split at e
    · rename_i hz
      cases e
      obtain ⟨p, vs, rfl, h1, s1, z1⟩ := hx.tup hg
      obtain ⟨q, ws, rfl, h2, s2, z2⟩ := hy.tup hg
      refine ⟨p, q, vs, ws, rfl, rfl, s1 H (Evo.refl _ _), s2 H (Evo.refl _ _), by rw [h1.length, h2.length]; exact sz_le hz, fun e => ?_, fun _ e => ?_, fun _ _ r hr => ?_⟩
      · subst e
        cases h1
        rcases hy with hy | ⟨r, _, _, ⟨_, _, z, _⟩ | ⟨_, _, z, _⟩ | ⟨_, _, z, _⟩⟩
        · exact k _ _ (Ex.refl _) hy
        all_goals cases z
      · subst e
        cases h2
        rcases hx with hx | ⟨r, _, _, ⟨_, _, z, _⟩ | ⟨_, _, z, _⟩ | ⟨_, _, z, _⟩⟩
        · exact k _ _ (Ex.refl _) (by rw [List.append_nil]; exact hx)
        all_goals cases z
      · exact k _ _ (Ex.new hr) (is_newT hn hr (by rw [List.length_append, h1.length, h2.length]; exact sz_le hz) (h1.append h2))
    · cases e
  · cases e
theorem opo_addL {K : PySem.W.Frag} {g : Gx} : OpO K g rCat fAddL := by
  intro B H x y dx dy d Q hn hg hx hy e k
  unfold fAddL at e
  split at e
  · rename_i a b
    split at e
    · rename_i hz
      cases e
      obtain ⟨p, vs, rfl, h1, s1, z1⟩ := hx.lst hg
      obtain ⟨q, ws, rfl, h2, s2, z2⟩ := hy.lst hg
      exact ⟨p, q, vs, ws, rfl, rfl, s1 H (Evo.refl _ _), s2 H (Evo.refl _ _), by rw [h1.length, h2.length]; exact sz_le hz, fun r hr => k _ _ (Ex.new hr) hr (top_newL hr (by rw [List.length_append, h1.length, h2.length]; exact sz_le hz) (h1.append h2))⟩
    · cases e
  · cases e
theorem OpO.d {K : PySem.W.Frag} {g : Gx} {r : R2} {F : PyData → PyData → Option PyData} (h : OpO K g r F) : OpD K g r F := fun B H x y dx dy d Q hn hg hx hy e k =>
  h B H x y dx dy d Q hn hg hx hy e fun p H' ex hp t => by
    have np : p ∉ B := new_notin hn hp
    exact k _ _ ex (t.is (fz_anti fun a ha => List.mem_cons_of_mem _ ha) fun o q => fz_some.mpr ⟨np, q⟩)
theorem fAdd_or (x y d : PyData) (h : fAdd x y = some d) : fI (fun _ _ => true) (fun i j => i + j) x y = some d ∨ orF fAddS (orF fAddT fAddL) x y = some d := by
  unfold fAdd at h
  split at h
  · exact .inl (by simpa [fI] using h)
  · right; simp only [orF, fAddS]; split at h <;> simp_all
  · right; simp only [orF, fAddS, fAddT]; split at h <;> simp_all
  · right; simp only [orF, fAddS, fAddT, fAddL]; split at h <;> simp_all
  · cases h
section
variable {c : Cc} {m : List Md} {a b : Expr} {da db : DE} {pos : Pos}
theorem ev_add (ha : EB c m a da) (hb : EB c m b db) : EV c m (.BinOp a .Add b pos) (d2 fAdd da db) :=
  ev_op (OpR.or op_add (OpR.or op_add_str (OpR.or op_catA op_cat))) (OpD.or opd_I0 (OpD.or opd_addS (OpD.or opd_addT opo_addL.d orF_or) orF_or) fAdd_or) ha hb
theorem eo_add (ha : EB c m a da) (hb : EB c m b db) : EO c m (.BinOp a .Add b pos) (d2 fAddL da db) := eo_op op_cat opo_addL ha hb
theorem ev_sub (ha : EB c m a da) (hb : EB c m b db) : EV c m (.BinOp a .Sub b pos) (d2 (fI (fun _ _ => true) fun i j => i - j) da db) := ev_op op_sub opd_I0 ha hb
end
end PD
/-! PDc: more operators, comparisons, subscripts, tests. -/
namespace PD
open PySem PySem.Spec PyProof.Rows L2
/-! ### *, //, %, **, shifts, masks -/
def cMul (i j : Int) : Bool := decide (-(2 ^ 64) < i ∧ i < 2 ^ 64) || decide (-(2 ^ 64) < j ∧ j < 2 ^ 64)
theorem cMul_ok (i j : Int) (h : cMul i j = true) : CMul i j := by
  unfold cMul at h
  simp only [Bool.or_eq_true, decide_eq_true_eq] at h
  exact h
def cPow (i j : Int) : Bool := decide (0 ≤ j ∧ j ≤ 1000000 ∧ i.natAbs < 2 ^ 64)
def cDiv (_ j : Int) : Bool := decide (0 < j ∧ j.natAbs.log2 < 9000)
theorem cDiv_ok (i j : Int) (h : cDiv i j = true) : CDivW i j := by
  exact of_decide_eq_true (p := 0 < j ∧ j.natAbs.log2 < 9000) h
theorem cPow_ok (i j : Int) (h : cPow i j = true) : CPow i j := by
  exact of_decide_eq_true (p := 0 ≤ j ∧ j ≤ 1000000 ∧ i.natAbs < 2 ^ 64) h
def cMod (_ j : Int) : Bool := decide (0 < j)
def cShr (_ j : Int) : Bool := decide (0 ≤ j)
/-- a tuple, a list, a text as often as told -/
def fRepT : PyData → PyData → Option PyData
  | .tuple a, .int k => if !a.isEmpty && decide (2 ≤ k ∧ k ≤ 1000 ∧ a.length ≤ 1000) then some (.tuple (List.replicate k.toNat a).flatten) else none
  | _, _ => none
def fRepL : PyData → PyData → Option PyData
  | .list a, .int k => if decide (-(2 ^ 63) ≤ k ∧ k < 2 ^ 63 ∧ a.length * k.toNat ≤ sizeLine) then some (.list (List.replicate k.toNat a).flatten) else none
  | _, _ => none
theorem IsAll.rep {K : PySem.W.Frag} {H : Hp} {vs : List V} {ds : List PyData} (h : IsAll K H vs ds) : ∀ n : Nat, IsAll K H (List.replicate n vs).flatten (List.replicate n ds).flatten
  | 0 => .nil
  | n + 1 => by
    rw [List.replicate_succ, List.replicate_succ, List.flatten_cons, List.flatten_cons]
    exact h.append (IsAll.rep h n)
theorem opd_repT {K : PySem.W.Frag} {g : Gx} : OpD K g (rRepT K) fRepT := by
  intro B H x y dx dy d Q hn hg hx hy e k
  unfold fRepT at e
  split at e
  · rename_i a j
    split at e
    · rename_i hc
      cases e
      rw [Bool.and_eq_true] at hc
      have hc2 := of_decide_eq_true hc.2
      obtain ⟨p, vs, rfl, h1, s1, z1⟩ := hx.tup hg
      obtain rfl := hy.int
      refine ⟨p, j, vs, rfl, rfl, s1 H (Evo.refl _ _), fun e => ?_, hc2.1, hc2.2.1, by rw [h1.length]; exact hc2.2.2, fun r hr => k _ _ (Ex.new hr) (is_newT hn hr (by rw [lm_len_rep_flat, h1.length, sizeLine_eq]; have a1 : j.toNat * a.length ≤ 1000 * 1000 := Nat.mul_le_mul (by omega) hc2.2.2; omega) (h1.rep _))⟩
      subst e
      cases h1
      exact absurd hc.1 (by decide)
    · cases e
  · cases e
theorem opo_repL {K : PySem.W.Frag} {g : Gx} : OpO K g rRep fRepL := by
  intro B H x y dx dy d Q hn hg hx hy e k
  unfold fRepL at e
  split at e
  · rename_i a j
    split at e
    · rename_i hc
      cases e
      have hc := of_decide_eq_true hc
      obtain ⟨p, vs, rfl, h1, s1, z1⟩ := hx.lst hg
      obtain rfl := hy.int
      exact ⟨p, j, vs, rfl, rfl, s1 H (Evo.refl _ _), hc.1, hc.2.1, by rw [h1.length]; exact hc.2.2, fun r hr => k _ _ (Ex.new hr) hr (top_newL hr (by rw [lm_len_rep_flat, h1.length, Nat.mul_comm]; exact hc.2.2) (h1.rep _))⟩
    · cases e
  · cases e
def fMul : PyData → PyData → Option PyData := orF (fI cMul fun i j => i * j) (orF fRepT fRepL)
section
variable {c : Cc} {m : List Md} {a b : Expr} {da db : DE} {pos : Pos}
theorem ev_mul (ha : EB c m a da) (hb : EB c m b db) : EV c m (.BinOp a .Mult b pos) (d2 fMul da db) :=
  ev_op (OpR.or op_mul (OpR.or op_repT op_rep)) (OpD.or (opd_I cMul_ok) (OpD.or opd_repT opo_repL.d orF_or) orF_or) ha hb
theorem eo_mul (ha : EB c m a da) (hb : EB c m b db) : EO c m (.BinOp a .Mult b pos) (d2 fRepL da db) := eo_op op_rep opo_repL ha hb
theorem ev_fdiv (ha : EB c m a da) (hb : EB c m b db) : EV c m (.BinOp a .FloorDiv b pos) (d2 (fI cDiv fun i j => i / j) da db) := ev_op op_fdivW (opd_I cDiv_ok) ha hb
theorem ev_mod (ha : EB c m a da) (hb : EB c m b db) : EV c m (.BinOp a .Mod b pos) (d2 (fI cMod fun i j => i % j) da db) := ev_op op_mod (opd_I fun i j h => of_decide_eq_true h) ha hb
theorem ev_pow (ha : EB c m a da) (hb : EB c m b db) : EV c m (.BinOp a .Pow b pos) (d2 (fI cPow fun i j => i ^ j.toNat) da db) := ev_op op_pow (opd_I cPow_ok) ha hb
theorem ev_shl (ha : EB c m a da) (hb : EB c m b db) : EV c m (.BinOp a .LShift b pos) (d2 (fI cPow fun i j => i * 2 ^ j.toNat) da db) := ev_op op_shl (opd_I cPow_ok) ha hb
theorem ev_shr (ha : EB c m a da) (hb : EB c m b db) : EV c m (.BinOp a .RShift b pos) (d2 (fI cShr fun i j => i / 2 ^ j.toNat) da db) := ev_op op_shr (opd_I fun i j h => of_decide_eq_true h) ha hb
theorem ev_and_ (ha : EB c m a da) (hb : EB c m b db) : EV c m (.BinOp a .BitAnd b pos) (d2 (fI (fun _ _ => true) Builtin.bitAnd) da db) := ev_op op_and opd_I0 ha hb
def d1 (F : PyData → Option PyData) (a : DE) : DE := fun ρ S => (a ρ S).bind fun x S1 => ofO (F x) S1
def fNeg : PyData → Option PyData | .int i => some (.int (-i)) | _ => none
theorem ev_neg (ha : EV c m a da) : EV c m (.UnaryOp .USub a pos) (d1 fNeg da) := by
  intro σ H ρ S B0 B ow Q fr gi g
  refine WE.of (pe_un un_neg we) (ha σ H ρ S B0 B ow _ fr gi (g.bind fun d S' v H' _ ev gi' gd g' => ?_))
  cases gd with
  | int i => exact ⟨i, rfl, g'.ok0 gi' (.int _)⟩
  | _ => exact absurd rfl g'.not_bad
/-! ### comparisons -/
def fEqD (x y : PyData) : Option PyData := if SeqAt.shaped x && SeqAt.shaped y then some (.bool (PyData.eqv x y)) else none
def fNeD (x y : PyData) : Option PyData := if SeqAt.shaped x && SeqAt.shaped y then some (.bool (!PyData.eqv x y)) else none
def fEqS : PyData → PyData → Option PyData | .str a, .str b => some (.bool (decide (a = b))) | _, _ => none
def fNeS : PyData → PyData → Option PyData | .str a, .str b => some (.bool (!decide (a = b))) | _, _ => none
def fEq : PyData → PyData → Option PyData := orF fEqS fEqD
def fNe : PyData → PyData → Option PyData := orF fNeS fNeD
variable {K : PySem.W.Frag} {gx : Gx}
theorem opd_eqD : OpD K gx (rEqD K) fEqD := by
  intro B H x y dx dy d Q hn hg hx hy e k
  unfold fEqD at e
  split at e
  · rename_i hc
    cases e
    have hc := Bool.and_eq_true_iff.mp hc
    exact ⟨dx, dy, hx.dp (SeqAt.canLay_of_shaped hc.1), hy.dp (SeqAt.canLay_of_shaped hc.2), hc.1, hc.2, k _ _ (Ex.refl _) (.bl _)⟩
  · cases e
theorem opd_neD : OpD K gx (rNeD K) fNeD := by
  intro B H x y dx dy d Q hn hg hx hy e k
  unfold fNeD at e
  split at e
  · rename_i hc
    cases e
    have hc := Bool.and_eq_true_iff.mp hc
    exact ⟨dx, dy, hx.dp (SeqAt.canLay_of_shaped hc.1), hy.dp (SeqAt.canLay_of_shaped hc.2), hc.1, hc.2, k _ _ (Ex.refl _) (.bl _)⟩
  · cases e
theorem vstr_inj {a b : Str} : (V.str a = V.str b) = (a = b) := propext ⟨fun h => V.str.inj h, fun h => by rw [h]⟩
theorem opd_eqS : OpD K gx rEq fEqS := by
  intro B H x y dx dy d Q hn hg hx hy e k
  unfold fEqS at e
  split at e
  · cases e
    obtain rfl := hx.str
    obtain rfl := hy.str
    exact ⟨rfl, by simp only [vstr_inj]; exact k _ _ (Ex.refl _) (.bl _)⟩
  · cases e
theorem opd_neS : OpD K gx rNe fNeS := by
  intro B H x y dx dy d Q hn hg hx hy e k
  unfold fNeS at e
  split at e
  · cases e
    obtain rfl := hx.str
    obtain rfl := hy.str
    exact ⟨rfl, by simp only [vstr_inj]; exact k _ _ (Ex.refl _) (.bl _)⟩
  · cases e
theorem ev_eq (hu : c.X.A.units + 64 < cLine) (ha : EB c m a da) (hb : EB c m b db) : EV c m (.Compare a [.Eq] [b] pos) (d2 fEq da db) :=
  ev_cmp (OpR.or op_eq (op_eqD hu)) (OpD.or opd_eqS opd_eqD orF_or) ha hb (nomark _)
theorem ev_ne (hu : c.X.A.units + 64 < cLine) (ha : EB c m a da) (hb : EB c m b db) : EV c m (.Compare a [.NotEq] [b] pos) (d2 fNe da db) :=
  ev_cmp (OpR.or op_ne (op_neD hu)) (OpD.or opd_neS opd_neD orF_or) ha hb (nomark _)
/-- the whole numbers of a tuple of them -/
def intsOf : List PyData → Option (List Int)
  | [] => some []
  | .int i :: r => (intsOf r).map (i :: ·)
  | _ :: _ => none
theorem intsOf_eq : ∀ {ds : List PyData} {ns : List Int}, intsOf ds = some ns → ds = ns.map .int
  | [], ns, h => by cases h; rfl
  | d :: r, ns, h => by
    cases d with
    | int i =>
      unfold intsOf at h
      cases e : intsOf r with
      | none => rw [e] at h; cases h
      | some ms => rw [e] at h; cases h; rw [intsOf_eq e]; rfl
    | _ => cases h
@[simp] theorem intsOf_ints : ∀ {ns : List Int}, intsOf (ns.map .int) = some ns
  | [] => rfl
  | n :: ns => by
    show (intsOf (ns.map .int)).map (n :: ·) = _
    rw [intsOf_ints]
    rfl
def fTT (f : List Int → List Int → Bool) : PyData → PyData → Option PyData
  | .tuple xs, .tuple ys => (intsOf xs).bind fun ns => (intsOf ys).bind fun ms => some (.bool (f ns ms))
  | _, _ => none
theorem opd_TT {r : R2} {f : List Int → List Int → Bool} (hr : ∀ x y H Q, r x y H Q = ∃ (a b : Addr) (ns ms : List Int), x = .ref a ∧ y = .ref b ∧ SqT K H a (ns.map V.int) ∧ SqT K H b (ms.map V.int) ∧ Q (.bl (f ns ms)) H) : OpD K gx r (fTT f) := by
  intro B H x y dx dy d Q hn hg hx hy e k
  rw [hr]
  unfold fTT at e
  split at e
  · rename_i xs ys
    cases e1 : intsOf xs with
    | none => rw [e1] at e; cases e
    | some ns =>
      cases e2 : intsOf ys with
      | none => rw [e1, e2] at e; cases e
      | some ms =>
        rw [e1, e2] at e
        cases e
        obtain rfl := intsOf_eq e1
        obtain rfl := intsOf_eq e2
        obtain ⟨p, vs, rfl, h1, s1, z1⟩ := hx.tup hg
        obtain ⟨q, ws, rfl, h2, s2, z2⟩ := hy.tup hg
        obtain rfl := h1.ints
        obtain rfl := h2.ints
        exact ⟨p, q, ns, ms, rfl, rfl, s1 H (Evo.refl _ _), s2 H (Evo.refl _ _), k _ _ (Ex.refl _) (.bl _)⟩
  · cases e
theorem lexLe_at (z : Bool) : ∀ (k i : Nat) (ns ms : List Int), min (ns.length - i) (ms.length - i) = k → i ≤ ns.length → i ≤ ms.length → z = decide (ns.length ≤ ms.length) →
    Ob.lexAt (fun j => decide (ns.getD j 0 = ms.getD j 0)) (fun j => decide (ns.getD j 0 ≤ ms.getD j 0)) z i k = lexLeI (ns.drop i) (ms.drop i)
  | 0, i, ns, ms, h, l1, l2, hz => by
    rw [Ob.lexAt_zero, hz]
    by_cases h1 : ns.length ≤ i
    · rw [List.drop_of_length_le h1]
      simp only [lexLeI]
      exact decide_eq_true (by omega)
    · have h2 : ms.length ≤ i := by omega
      rw [List.drop_of_length_le h2]
      cases e : ns.drop i with
      | nil => rw [List.drop_eq_nil_iff] at e; omega
      | cons x r => simp only [lexLeI]; exact decide_eq_false (by omega)
  | k + 1, i, ns, ms, h, l1, l2, hz => by
    have h1 : i < ns.length := by omega
    have h2 : i < ms.length := by omega
    rw [Ob.lexAt_succ, lexLe_at z k (i + 1) ns ms (by omega) (by omega) (by omega) hz, List.drop_eq_getElem_cons h1, List.drop_eq_getElem_cons h2]
    have e1 : ns.getD i 0 = ns[i] := by simp [List.getD, h1]
    have e2 : ms.getD i 0 = ms[i] := by simp [List.getD, h2]
    simp only [lexLeI, e1, e2, decide_eq_true_eq]
theorem lexLe_eq (ns ms : List Int) : Ob.lexAt (fun j => decide (ns.getD j 0 = ms.getD j 0)) (fun j => decide (ns.getD j 0 ≤ ms.getD j 0)) (decide (ns.length ≤ ms.length)) 0 (min ns.length ms.length) = lexLeI ns ms := by
  have h := lexLe_at (decide (ns.length ≤ ms.length)) (min ns.length ms.length) 0 ns ms (by simp) (Nat.zero_le _) (Nat.zero_le _) rfl
  simpa using h
def fLt : PyData → PyData → Option PyData := orF (fB fun i j => decide (i < j)) (fTT HT.lexLt)
def fLe : PyData → PyData → Option PyData := orF (fB fun i j => decide (i ≤ j)) (fTT lexLeI)
theorem ev_lt (hu : c.X.A.units < cLine) (ha : EB c m a da) (hb : EB c m b db) : EV c m (.Compare a [.Lt] [b] pos) (d2 fLt da db) :=
  ev_cmp (OpR.or op_lt (op_ltT hu)) (OpD.or opd_B (opd_TT fun _ _ _ _ => rfl) orF_or) ha hb (nomark _)
theorem ev_le (hu : c.X.A.units < cLine) (ha : EB c m a da) (hb : EB c m b db) : EV c m (.Compare a [.LtE] [b] pos) (d2 fLe da db) :=
  ev_cmp (OpR.or op_le (op_leT hu)) (OpD.or opd_B (opd_TT (f := lexLeI) fun x y H Q => by simp only [rLeT, lexLe_eq]) orF_or) ha hb (nomark _)
theorem ev_gt (ha : EB c m a da) (hb : EB c m b db) : EV c m (.Compare a [.Gt] [b] pos) (d2 (fB fun i j => decide (j < i)) da db) := ev_cmp op_gt opd_B ha hb (nomark _)
theorem ev_ge (ha : EB c m a da) (hb : EB c m b db) : EV c m (.Compare a [.GtE] [b] pos) (d2 (fB fun i j => decide (j ≤ i)) da db) := ev_cmp op_ge opd_B ha hb (nomark _)
/-- in, not in -/
def flatD : PyData → Bool | .none => true | .bool _ => true | .int _ => true | .str _ => true | _ => false
def inOk (x : PyData) (ds : List PyData) : Bool := (flatD x && ds.all flatD) || (SeqAt.shaped x && SeqAt.shaped (.list ds))
def inD (x : PyData) (ds : List PyData) : Bool := ds.any fun z => PyData.eqv z x
def fIn (neg : Bool) (x : PyData) : PyData → Option PyData
  | .str z => match x with
    | .str s => match s.cps.toList with
      | [c] => some (.bool (if neg then !decide (c ∈ z.cps.toList) else decide (c ∈ z.cps.toList)))
      | _ => none
    | _ => none
  | .list ds => if inOk x ds then some (.bool (if neg then !inD x ds else inD x ds)) else none
  | .tuple ds => if inOk x ds then some (.bool (if neg then !inD x ds else inD x ds)) else none
  | _ => none
theorem flat_v {H : Hp} {v : V} {d : PyData} (h : Is K H v d) (f : flatD d = true) : flatV v = true := by
  cases h <;> first | rfl | cases f
theorem flat_vs {H : Hp} : ∀ {vs : List V} {ds : List PyData}, IsAll K H vs ds → ds.all flatD = true → vs.all flatV = true
  | _, _, .nil, _ => rfl
  | _, _, .cons h r, f => by
    rw [List.all_cons, Bool.and_eq_true] at f
    rw [List.all_cons, flat_v h f.1, flat_vs r f.2]
    rfl
theorem eqv_flat {H : Hp} {v w : V} {d e : PyData} (h : Is K H v d) (h2 : Is K H w e) (f : flatD d = true) (f2 : flatD e = true) : eqV v w = PyData.eqv d e := by
  cases h <;> first | (cases f; done) | (cases h2 <;> first | (cases f2; done) | (simp only [eqV, PyData.eqv]))
theorem inV_flat {H : Hp} {x : V} {d : PyData} (hx : Is K H x d) (f : flatD d = true) : ∀ {vs : List V} {ds : List PyData}, IsAll K H vs ds → ds.all flatD = true → inV x vs = inD d ds
  | _, _, .nil, _ => rfl
  | _, _, .cons h r, g => by
    rw [List.all_cons, Bool.and_eq_true] at g
    have ih := inV_flat hx f r g.2
    unfold inV inD at ih ⊢
    rw [List.any_cons, List.any_cons, ih, eqv_flat h hx g.1 f]
/-- in, over data of any depth -/
def rInS (K : PySem.W.Frag) (neg : Bool) : R2 := fun x y H Q => ∃ d ds, Dp K H x d ∧ (Dp K H y (.list ds) ∨ Dp K H y (.tuple ds)) ∧ SeqAt.shaped d = true ∧ SeqAt.shaped (.list ds) = true ∧ Q (.bl (if neg then !(ds.any fun z => PyData.eqv z d) else ds.any fun z => PyData.eqv z d)) H
theorem op_inS (hu : c.X.A.units + 65 < cLine) : OpR c.X (compareOp .In) (rInS c.X.K false) := by
  intro pins s σ H x y v u Q I rx ry h
  obtain ⟨d, ds, hd, he, sd, se, q⟩ := h
  obtain ⟨as, r1⟩ := Dp.reads I d x v hd rx
  rcases he with he | he
  · obtain ⟨bs, r2⟩ := Dp.reads I (.list ds) y u he ry
    exact SeqAt.in_list_reads r2 r1 (SeqAt.canLay_of_shaped se) (SeqAt.canLay_of_shaped sd) (room_in_shaped sd hu) ⟨.bl _, H, I, rfl, q⟩
  · obtain ⟨bs, r2⟩ := Dp.reads I (.tuple ds) y u he ry
    exact SeqAt.in_tuple_reads r2 r1 (SeqAt.canLay_of_shaped se) (SeqAt.canLay_of_shaped sd) (room_in_shaped sd hu) ⟨.bl _, H, I, rfl, q⟩
theorem op_notInS (hu : c.X.A.units + 65 < cLine) : OpR c.X (compareOp .NotIn) (rInS c.X.K true) := by
  intro pins s σ H x y v u Q I rx ry h
  obtain ⟨d, ds, hd, he, sd, se, q⟩ := h
  obtain ⟨as, r1⟩ := Dp.reads I d x v hd rx
  rcases he with he | he
  · obtain ⟨bs, r2⟩ := Dp.reads I (.list ds) y u he ry
    exact SeqAt.notIn_list_reads r2 r1 (SeqAt.canLay_of_shaped se) (SeqAt.canLay_of_shaped sd) (room_in_shaped sd hu) ⟨.bl _, H, I, rfl, q⟩
  · obtain ⟨bs, r2⟩ := Dp.reads I (.tuple ds) y u he ry
    exact SeqAt.notIn_tuple_reads r2 r1 (SeqAt.canLay_of_shaped se) (SeqAt.canLay_of_shaped sd) (room_in_shaped sd hu) ⟨.bl _, H, I, rfl, q⟩
def rInSign (neg : Bool) : R2 := fun x y H Q => ∃ (c : Nat) (z : Str), x = .str ⟨#[c]⟩ ∧ y = .str z ∧ Q (.bl (if neg then !decide (c ∈ z.cps.toList) else decide (c ∈ z.cps.toList))) H
theorem Rb.flat {H : Hp} {B : List Addr} {v : V} {d : PyData} (h : Rb K gx B H v d) (f : flatD d = true) : Is K (Fz B H) v d := by
  rcases h with h | ⟨p, rfl, hp, ⟨ds, vs, rfl, _⟩ | ⟨ds, kvs, rfl, _⟩ | ⟨ds, kvs, rfl, _⟩⟩
  · exact h
  all_goals cases f
theorem opd_in (neg : Bool) : OpD K gx (fun x y H Q => rIn K neg x y H Q ∨ rInS K neg x y H Q ∨ rInSign neg x y H Q) (fIn neg) := by
  intro B H x y dx dy d Q hn hg hx hy e k
  have key : ∀ (a : Addr) (vs : List V) (ds : List PyData), y = .ref a → (SqL K H a vs ∨ SqT K H a vs) → (Dp K H y (.list ds) ∨ Dp K H y (.tuple ds) ∨ PyData.canLayAll0 ds = false) → IsAll K (Fz B H) vs ds → (if inOk dx ds then some (PyData.bool (if neg then !inD dx ds else inD dx ds)) else none) = some d →
      rIn K neg x y H Q ∨ rInS K neg x y H Q ∨ rInSign neg x y H Q := by
    intro a vs ds ey sq hdp h2 e
    subst ey
    split at e
    · rename_i hc
      cases e
      unfold inOk at hc
      rw [Bool.or_eq_true, Bool.and_eq_true, Bool.and_eq_true] at hc
      rcases hc with ⟨f1, f2⟩ | ⟨f1, f2⟩
      · have hx' := hx.flat f1
        exact .inl ⟨a, vs, rfl, sq, flat_v hx' f1, flat_vs h2 f2, by rw [inV_flat hx' f1 h2 f2]; exact k _ _ (Ex.refl _) (.bl _)⟩
      · have f3 := SeqAt.canLay_of_shaped f2
        refine .inr (.inl ⟨dx, ds, hx.dp (SeqAt.canLay_of_shaped f1), ?_, f1, f2, k _ _ (Ex.refl _) (.bl _)⟩)
        rcases hdp with h | h | h
        · exact .inl h
        · exact .inr h
        · rw [PyData.canLay0] at f3; rw [f3] at h; cases h
    · cases e
  cases dy with
  | str z =>
    cases dx with
    | str s =>
      simp only [fIn] at e
      split at e
      · rename_i cc hc
        cases e
        obtain rfl := hx.str
        obtain rfl := hy.str
        refine .inr (.inr ⟨cc, z, ?_, rfl, k _ _ (Ex.refl _) (.bl _)⟩)
        have : s = ⟨#[cc]⟩ := by
          cases s with
          | mk arr =>
            have : arr = #[cc] := by
              apply Array.ext'
              simpa using hc
            rw [this]
        rw [this]
      · cases e
    | _ => simp [fIn] at e
  | list ds =>
    obtain ⟨a, vs, ey, h2, s2, z2⟩ := hy.lst hg
    refine key a vs ds ey (.inl (.inl (.inl (s2 H (Evo.refl _ _))))) ?_ h2 e
    cases q : PyData.canLayAll0 ds with
    | false => exact .inr (.inr rfl)
    | true => exact .inl (hy.dp (by rw [PyData.canLay0]; exact q))
  | tuple ds =>
    obtain ⟨a, vs, ey, h2, s2, z2⟩ := hy.tup hg
    refine key a vs ds ey (.inr (s2 H (Evo.refl _ _))) ?_ h2 e
    cases q : PyData.canLayAll0 ds with
    | false => exact .inr (.inr rfl)
    | true => exact .inr (.inl (hy.dp (by rw [PyData.canLay0]; exact q)))
  | _ => simp [fIn] at e
theorem ev_in (hu : c.X.A.units + 65 < cLine) (ha : EB c m a da) (hb : EB c m b db) (hm : behindInMarks .In b = false) : EV c m (.Compare a [.In] [b] pos) (d2 (fIn false) da db) :=
  ev_cmp (OpR.or op_in_seq (OpR.or (op_inS hu) op_in_sign)) (opd_in false) ha hb hm
theorem ev_notIn (hu : c.X.A.units + 65 < cLine) (ha : EB c m a da) (hb : EB c m b db) (hm : behindInMarks .NotIn b = false) : EV c m (.Compare a [.NotIn] [b] pos) (d2 (fIn true) da db) :=
  ev_cmp (OpR.or op_notIn_seq (OpR.or (op_notInS hu) op_notIn_sign)) (opd_in true) ha hb hm
/-- is None, is True .. -/
def fIsN (neg : Bool) : PyData → PyData → Option PyData
  | x, .none => some (.bool (if neg then !isNone x else isNone x))
  | .bool p, .bool q => some (.bool (if neg then !decide (p = q) else decide (p = q)))
  | _, _ => none
theorem opd_is (neg : Bool) : OpD K gx (fun x y H Q => (y = .non ∧ Q (.bl (if neg then !decide (x = .non) else decide (x = .non))) H) ∨ (∃ a b : Bool, x = .bl a ∧ y = .bl b ∧ Q (.bl (if neg then !decide (a = b) else decide (a = b))) H)) (fIsN neg) := by
  intro B H x y dx dy d Q hn hg hx hy e k
  unfold fIsN at e
  split at e
  · cases e
    obtain rfl := hy.non
    refine .inl ⟨rfl, ?_⟩
    have q := hx.non_iff
    rw [q]
    exact k _ _ (Ex.refl _) (.bl _)
  · cases e
    obtain rfl := hx.bool
    obtain rfl := hy.bool
    exact .inr ⟨_, _, rfl, rfl, k _ _ (Ex.refl _) (.bl _)⟩
  · cases e
theorem ev_is (ha : EB c m a da) (hb : EB c m b db) : EV c m (.Compare a [.Is] [b] pos) (d2 (fIsN false) da db) := ev_cmp (OpR.or op_isN op_isBl) (opd_is false) ha hb (nomark _)
theorem ev_isNot (ha : EB c m a da) (hb : EB c m b db) : EV c m (.Compare a [.IsNot] [b] pos) (d2 (fIsN true) da db) := ev_cmp (OpR.or op_notN op_notBl) (opd_is true) ha hb (nomark _)
end
end PD
/-! PDe: subscripts, tests, choices, calls of built-ins and of defs. -/
namespace PD
open PySem PySem.Spec PyProof.Rows L2
/-! ### subscripts -/
theorem IsAll.atI {K : PySem.W.Frag} {H : Hp} {vs : List V} {ds : List PyData} {i : Int} {d : PyData} (h : IsAll K H vs ds) (e : L2.atI ds i = some d) : ∃ v, L2.atI vs i = some v ∧ Is K H v d := by
  unfold L2.atI at e ⊢
  rw [h.length]
  cases q : ixN ds.length i with
  | none => rw [q] at e; cases e
  | some j =>
    rw [q] at e
    exact h.get e
def fIx : PyData → PyData → Option PyData
  | .list xs, .int i => L2.atI xs i
  | .tuple xs, .int i => L2.atI xs i
  | .str z, .int i => if sz z.length then (L2.atI z.cps.toList i).map fun c => .str ⟨#[c]⟩ else none
  | _, _ => none
theorem opd_ix {K : PySem.W.Frag} {g : Gx} : OpD K g (rIx K) fIx := by
  intro B H x y dx dy d Q hn hg hx hy e k
  unfold fIx at e
  split at e
  · obtain ⟨p, vs, rfl, h1, s1, z1⟩ := hx.lst hg
    obtain rfl := hy.int
    obtain ⟨v, e2, i2⟩ := h1.atI e
    exact .inl ⟨p, vs, _, v, rfl, rfl, .inl (.inl (s1 H (Evo.refl _ _))), e2, k _ _ (Ex.refl _) i2⟩
  · obtain ⟨p, vs, rfl, h1, s1, z1⟩ := hx.tup hg
    obtain rfl := hy.int
    obtain ⟨v, e2, i2⟩ := h1.atI e
    exact .inr (.inl ⟨p, vs, _, v, rfl, rfl, s1 H (Evo.refl _ _), e2, k _ _ (Ex.refl _) i2⟩)
  · split at e
    · rename_i z i hz
      obtain rfl := hx.str
      obtain rfl := hy.int
      cases q : L2.atI z.cps.toList i with
      | none => rw [q] at e; cases e
      | some cc =>
        rw [q] at e
        cases e
        exact .inr (.inr ⟨z, i, cc, rfl, rfl, sz_le hz, q, k _ _ (Ex.refl _) (.str _)⟩)
    · cases e
  · cases e
section
variable {c : Cc} {m : List Md} {a b : Expr} {da db : DE} {pos : Pos}
theorem ev_ix (ha : EB c m a da) (hb : EB c m b db) (hs : PlainIx b) : EV c m (.Subscript a b pos) (d2 fIx da db) := fun σ H ρ S B0 B ow Q fr gi g =>
  WE.of (pe_ix ix_seq we we hs) (two_read opd_ix ha hb fr gi g)
end
/-! a slice's parts -/
structure WO (X : Cx) (e : Option Expr) (σ : L2.St) (H : Hp) (Q : Option Int → Hp → Prop) : Prop where
  go : ∀ (pins : List (Addr × Obj)) (s : Shared), Inv X pins σ H s → wpAny (model X.prog X.w) X.A (evalPart e X.env) (fun u s' => ∃ o H', Inv X pins σ H' s' ∧ IsPart u o ∧ Q o H') X.xe s
theorem wo {X : Cx} {e : Option Expr} : PO X e (WO X e) := ⟨fun pins s _ _ _ I h => h.go pins s I⟩
theorem WO.of {X : Cx} {e : Option Expr} {t : TO} (h : PO X e t) {σ : L2.St} {H : Hp} {Q : Option Int → Hp → Prop} (q : t σ H Q) : WO X e σ H Q := ⟨fun pins s I => h.run pins s σ H Q I q⟩
abbrev DP := Env → Store → R (Option Int)
def pNo : DP := fun _ S => .ok none S
def pSm (d : DE) : DP := fun ρ S => (d ρ S).bind fun x S1 => match x with | .int i => .ok (some i) S1 | _ => .bad
def EP_ (c : Cc) (m : List Md) (e : Option Expr) (den : DP) : Prop := ∀ σ H ρ S B0 B ow Q, Frame c.X.K c.g B0 B ow m ρ σ H → GI c.X.K c.g B H S →
  Goal c B H σ (den ρ S) (fun _ H' v d => v = d) Q → WO c.X e σ H Q
section
variable {c : Cc} {m : List Md} {a b : Expr} {da db : DE} {pos p2 : Pos} {lo hi : Option Expr} {dl dh : DP}
theorem ep_no : EP_ c m none pNo := fun σ H ρ S B0 B ow Q fr gi g => WO.of po_none (g.ok0 gi rfl)
theorem ep_sm (ha : EV c m a da) : EP_ c m (some a) (pSm da) := by
  intro σ H ρ S B0 B ow Q fr gi g
  refine WO.of (po_some we) (ha σ H ρ S B0 B ow _ fr gi (g.bind fun d S' v H' _ ev gi' gd g' => ?_))
  cases gd with
  | int i => exact ⟨i, rfl, g'.ok0 gi' rfl⟩
  | _ => exact absurd rfl g'.not_bad
def cutA {α : Type} (xs : List α) (lo hi : Option Int) : List α := (xs.drop (HT.sIx xs.length 0 lo)).take (HT.sIx xs.length xs.length hi - HT.sIx xs.length 0 lo)
theorem IsAll.cut {K : PySem.W.Frag} {H : Hp} {vs : List V} {ds : List PyData} (h : IsAll K H vs ds) (lo hi : Option Int) : IsAll K H (cutV vs lo hi) (cutA ds lo hi) := by
  unfold cutV cutA
  rw [h.length]
  exact (h.drop _).take _
def fSl (x : PyData) (lo hi : Option Int) : Option PyData := match x with
  | .list xs => some (.list (cutA xs lo hi))
  | .tuple xs => some (.tuple (cutA xs lo hi))
  | .str z => if sz z.length then some (.str (cutS z lo hi)) else none
  | _ => none
def fSlL (x : PyData) (lo hi : Option Int) : Option PyData := match x with
  | .list xs => some (.list (cutA xs lo hi))
  | _ => none
def dSl (F : PyData → Option Int → Option Int → Option PyData) (da : DE) (dl dh : DP) : DE := fun ρ S => (da ρ S).bind fun x S1 => (dl ρ S1).bind fun l S2 => (dh ρ S2).bind fun h S3 => ofO (F x l h) S3
theorem cutA_whole {α : Type} {xs : List α} {lo hi : Option Int} (h : HT.sIx xs.length 0 lo = 0 ∧ HT.sIx xs.length xs.length hi = xs.length) : cutA xs lo hi = xs := by
  unfold cutA
  rw [h.1, h.2]
  simp
theorem ev_sl (ha : EB c m a da) (hl : EP_ c m lo dl) (hh : EP_ c m hi dh) : EV c m (.Subscript a (.Slice lo hi none p2) pos) (dSl fSl da dl dh) := by
  intro σ H ρ S B0 B ow Q fr gi g
  refine WE.of (pe_slice (SlR.or sl_list (SlR.or sl_tupA sl_str)) we wo wo) ?_
  refine ha σ H ρ S B0 B ow _ fr gi (g.bind fun d S1 v H1 _ ev1 gi1 gd1 g1 => ?_)
  refine hl σ H1 ρ S1 B0 B ow _ (fr.evo ev1) gi1 (g1.bind fun l S2 l' H2 _ ev2 gi2 gd2 g2 => ?_)
  cases gd2
  refine hh σ H2 ρ S2 B0 B ow _ ((fr.evo ev1).evo ev2) gi2 (g2.bind fun h S3 h' H3 _ ev3 gi3 gd3 g3 => ?_)
  cases gd3
  have hx : Rb c.X.K c.g B H3 v d := Rb.evo (Rb.evo gd1 gi1.sub ev2) gi2.sub ev3
  unfold fSl at g3
  split at g3
  · rename_i xs
    obtain ⟨p, vs, rfl, h1, s1, z1⟩ := hx.lst gi3.sub
    exact .inl ⟨p, vs, rfl, .inl (.inl (s1 H3 (Evo.refl _ _))), fun q hq => g3.ok (Ex.new hq).evo (gi3.ex (Ex.new hq)) (is_newL gi3.kn hq (Nat.le_trans (cutV_length _ _ _) z1) (h1.cut l h))⟩
  · rename_i xs
    obtain ⟨p, vs, e, h1, s1, z1⟩ := hx.tup gi3.sub
    subst e
    refine .inr (.inl ⟨p, vs, rfl, s1 H3 (Evo.refl _ _), fun hw => ?_, fun hw q hq => g3.ok (Ex.new hq).evo (gi3.ex (Ex.new hq)) (is_newT gi3.kn hq (Nat.le_trans (cutV_length _ _ _) z1) (h1.cut l h))⟩)
    rw [h1.length] at hw
    rw [cutA_whole hw] at g3
    rcases hx with hx | ⟨r, _, _, ⟨_, _, z, _⟩ | ⟨_, _, z, _⟩ | ⟨_, _, z, _⟩⟩
    · exact g3.ok0 gi3 hx
    all_goals cases z
  · split at g3
    · rename_i hz
      obtain rfl := hx.str
      exact .inr (.inr ⟨_, rfl, sz_le hz, g3.ok0 gi3 (.str _)⟩)
    · exact absurd rfl g3.not_bad
  · exact absurd rfl g3.not_bad
theorem eo_slL (ha : EB c m a da) (hl : EP_ c m lo dl) (hh : EP_ c m hi dh) : EO c m (.Subscript a (.Slice lo hi none p2) pos) (dSl fSlL da dl dh) := by
  intro σ H ρ S B0 B ow Q fr gi g
  refine WE.of (pe_slice sl_list we wo wo) ?_
  refine ha σ H ρ S B0 B ow _ fr gi (g.bind fun d S1 v H1 _ ev1 gi1 gd1 g1 => ?_)
  refine hl σ H1 ρ S1 B0 B ow _ (fr.evo ev1) gi1 (g1.bind fun l S2 l' H2 _ ev2 gi2 gd2 g2 => ?_)
  cases gd2
  refine hh σ H2 ρ S2 B0 B ow _ ((fr.evo ev1).evo ev2) gi2 (g2.bind fun h S3 h' H3 _ ev3 gi3 gd3 g3 => ?_)
  cases gd3
  have hx : Rb c.X.K c.g B H3 v d := Rb.evo (Rb.evo gd1 gi1.sub ev2) gi2.sub ev3
  unfold fSlL at g3
  split at g3
  · rename_i xs
    obtain ⟨p, vs, rfl, h1, s1, z1⟩ := hx.lst gi3.sub
    exact ⟨p, vs, rfl, .inl (.inl (s1 H3 (Evo.refl _ _))), fun q hq => g3.ok (Ex.new hq).evo (gi3.ex (Ex.new hq)) ⟨q, rfl, free_back ev1 gi1 (free_back ev2 gi2 (free_back ev3 gi3 hq)), top_newL hq (Nat.le_trans (cutV_length _ _ _) z1) (h1.cut l h), gi3.fresh (Ex.new hq) hq (by rw [upd_same]; intro z; cases z)⟩⟩
  · exact absurd rfl g3.not_bad
/-- xs[::-1] -/
def fRev : PyData → Option PyData | .list xs => some (.list xs.reverse) | _ => none
theorem eo_revL {k : Nat} {p1 p2 p3 pos : Pos} (ha : EB c m a da) : EO c m (.Subscript a (.Slice none none (some (.UnaryOp .USub (.Constant (.int 1) k p1) p2)) p3) pos) (d1 fRev da) := by
  intro σ H ρ S B0 B ow Q fr gi g
  refine WE.of (pe_revL we) (ha σ H ρ S B0 B ow _ fr gi (g.bind fun d S1 v H1 _ ev1 gi1 gd1 g1 => ?_))
  unfold fRev at g1
  split at g1
  · obtain ⟨p, vs, rfl, h1, s1, z1⟩ := Rb.lst gd1 gi1.sub
    exact ⟨p, vs, rfl, .inl (.inl (s1 H1 (Evo.refl _ _))), fun q hq => g1.ok (Ex.new hq).evo (gi1.ex (Ex.new hq)) ⟨q, rfl, free_back ev1 gi1 hq, top_newL hq (by rw [List.length_reverse]; exact z1) h1.reverse, gi1.fresh (Ex.new hq) hq (by rw [upd_same]; intro z; cases z)⟩⟩
  · exact absurd rfl g1.not_bad
/-! ### chains, tests -/
def dTest (d : DE) : DT := fun ρ S => (d ρ S).bind fun x S1 => match x with | .bool b => .ok b S1 | _ => .bad
theorem et_val {e : Expr} {den : DE} (h : EV c m e den) (he : ∀ whole, isTrue e c.X.env whole = (do let v ← whole; standAt e.pos; holding [v] (truthy v)) := by intro _; rfl) : ET c m e (dTest den) := by
  intro σ H ρ S B0 B ow Q fr gi g
  refine WT.of (pt_val we he) (h σ H ρ S B0 B ow _ fr gi (g.bind fun d S1 v H1 _ ev1 gi1 gd1 g1 => ?_))
  cases gd1 with
  | bl b => exact ⟨b, rfl, g1.ok0 gi1 rfl⟩
  | _ => exact absurd rfl g1.not_bad
theorem et_cmp {op : CmpOp} {r : R2} {F : PyData → PyData → Option PyData} (ho : OpR c.X (compareOp op) r) (hd : OpD c.X.K c.g r F) (ha : EB c m a da) (hb : EB c m b db) (hm : behindInMarks op b = false) : ET c m (.Compare a [op] [b] pos) (dTest (d2 F da db)) := by
  intro σ H ρ S B0 B ow Q fr gi g
  refine WT.of (pt_cmpR ho we we hm) ?_
  show tOp r (WE c.X a) (WE c.X b) σ H _
  refine two_read hd ha hb fr gi (g.bind fun d S1 v H1 _ ev1 gi1 gd1 g1 => ?_)
  cases gd1 with
  | bl b => exact ⟨b, rfl, g1.ok0 gi1 rfl⟩
  | _ => exact absurd rfl g1.not_bad
theorem et_eq (hu : c.X.A.units + 64 < cLine) (ha : EB c m a da) (hb : EB c m b db) : ET c m (.Compare a [.Eq] [b] pos) (dTest (d2 fEq da db)) :=
  et_cmp (OpR.or op_eq (op_eqD hu)) (OpD.or opd_eqS opd_eqD orF_or) ha hb (nomark _)
theorem et_ne (hu : c.X.A.units + 64 < cLine) (ha : EB c m a da) (hb : EB c m b db) : ET c m (.Compare a [.NotEq] [b] pos) (dTest (d2 fNe da db)) :=
  et_cmp (OpR.or op_ne (op_neD hu)) (OpD.or opd_neS opd_neD orF_or) ha hb (nomark _)
theorem et_lt (hu : c.X.A.units < cLine) (ha : EB c m a da) (hb : EB c m b db) : ET c m (.Compare a [.Lt] [b] pos) (dTest (d2 fLt da db)) :=
  et_cmp (OpR.or op_lt (op_ltT hu)) (OpD.or opd_B (opd_TT fun _ _ _ _ => rfl) orF_or) ha hb (nomark _)
theorem et_le (hu : c.X.A.units < cLine) (ha : EB c m a da) (hb : EB c m b db) : ET c m (.Compare a [.LtE] [b] pos) (dTest (d2 fLe da db)) :=
  et_cmp (OpR.or op_le (op_leT hu)) (OpD.or opd_B (opd_TT (f := lexLeI) fun x y H Q => by simp only [rLeT, lexLe_eq]) orF_or) ha hb (nomark _)
theorem et_gt (ha : EB c m a da) (hb : EB c m b db) : ET c m (.Compare a [.Gt] [b] pos) (dTest (d2 (fB fun i j => decide (j < i)) da db)) := et_cmp op_gt opd_B ha hb (nomark _)
theorem et_ge (ha : EB c m a da) (hb : EB c m b db) : ET c m (.Compare a [.GtE] [b] pos) (dTest (d2 (fB fun i j => decide (j ≤ i)) da db)) := et_cmp op_ge opd_B ha hb (nomark _)
theorem et_in (hu : c.X.A.units + 65 < cLine) (ha : EB c m a da) (hb : EB c m b db) (hm : behindInMarks .In b = false) : ET c m (.Compare a [.In] [b] pos) (dTest (d2 (fIn false) da db)) :=
  et_cmp (OpR.or op_in_seq (OpR.or (op_inS hu) op_in_sign)) (opd_in false) ha hb hm
theorem et_notIn (hu : c.X.A.units + 65 < cLine) (ha : EB c m a da) (hb : EB c m b db) (hm : behindInMarks .NotIn b = false) : ET c m (.Compare a [.NotIn] [b] pos) (dTest (d2 (fIn true) da db)) :=
  et_cmp (OpR.or op_notIn_seq (OpR.or (op_notInS hu) op_notIn_sign)) (opd_in true) ha hb hm
theorem et_is (ha : EB c m a da) (hb : EB c m b db) : ET c m (.Compare a [.Is] [b] pos) (dTest (d2 (fIsN false) da db)) := et_cmp (OpR.or op_isN op_isBl) (opd_is false) ha hb (nomark _)
theorem et_isNot (ha : EB c m a da) (hb : EB c m b db) : ET c m (.Compare a [.IsNot] [b] pos) (dTest (d2 (fIsN true) da db)) := et_cmp (OpR.or op_notN op_notBl) (opd_is true) ha hb (nomark _)
/-- two comparisons, the middle asked once -/
def dChain (F F' : PyData → PyData → Option PyData) (da db dc : DE) : DE := fun ρ S => (da ρ S).bind fun x S1 => (db ρ S1).bind fun y S2 => match F x y with
  | some (.bool true) => (dc ρ S2).bind fun z S3 => ofO (F' y z) S3
  | some (.bool false) => .ok (.bool false) S2
  | _ => .bad
theorem chain_read {e : Expr} {de : DE} {r r' : R2} {F F' : PyData → PyData → Option PyData} (hd : OpD c.X.K c.g r F) (hd' : OpD c.X.K c.g r' F') (ha : EB c m a da) (hb : EB c m b db) (hc : EB c m e de) {σ : L2.St} {H : Hp} {ρ : Env} {S : Store} {B0 B : List Addr} {ow : Addr → Nat} {Q : VK} (fr : Frame c.X.K c.g B0 B ow m ρ σ H) (gi : GI c.X.K c.g B H S)
    (g : Goal c B H σ (dChain F F' da db de ρ S) (fun _ H' v d => Is c.X.K (Fz B H') v d) Q) : tChain r r' (WE c.X a) (WE c.X b) (WE c.X e) σ H Q := by
  refine ha σ H ρ S B0 B ow _ fr gi (g.bind fun d S1 v H1 _ ev1 gi1 gd1 g1 => ?_)
  refine hb σ H1 ρ S1 B0 B ow _ (fr.evo ev1) gi1 (g1.bind fun e S2 w H2 _ ev2 gi2 gd2 g2 => ?_)
  split at g2
  · rename_i q
    refine hd B H2 v w d e _ _ gi2.kn gi2.sub (Rb.evo gd1 gi1.sub ev2) gd2 q fun u H3 x3 i3 => ?_
    cases i3
    have gi3 := gi2.ex x3
    refine ⟨true, rfl, ?_⟩
    rw [if_pos rfl]
    have g3 : Goal c B H3 σ ((de ρ S2).bind fun z S3 => ofO (F' e z) S3) (fun _ H' v d => Is c.X.K (Fz B H') v d) Q :=
      ⟨fun d S' v H' e1 ev gi' gd => g2.1 d S' v H' e1 (x3.evo.trans ev) gi' gd, fun x S' e1 cls dd H' ev gi' xr => g2.2.1 x S' e1 cls dd H' (x3.evo.trans ev) gi' xr, g2.2.2⟩
    refine hc σ H3 ρ S2 B0 B ow _ (((fr.evo ev1).evo ev2).evo x3.evo) gi3 (g3.bind fun f S4 w4 H4 _ ev4 gi4 gd4 g4 => ?_)
    cases q' : F' e f with
    | none => rw [q'] at g4; exact absurd rfl g4.not_bad
    | some z =>
      rw [q'] at g4
      exact hd' B H4 w w4 e f z Q gi4.kn gi4.sub (Rb.evo (Rb.evo gd2 gi2.sub x3.evo) gi3.sub ev4) gd4 q' fun u H5 x5 i5 => g4.ok x5.evo (gi4.ex x5) i5
  · rename_i q
    refine hd B H2 v w d e _ _ gi2.kn gi2.sub (Rb.evo gd1 gi1.sub ev2) gd2 q fun u H3 x3 i3 => ?_
    cases i3
    refine ⟨false, rfl, ?_⟩
    rw [if_neg (by simp)]
    exact g2.ok x3.evo (gi2.ex x3) (.bl false)
  · exact absurd rfl g2.not_bad
theorem ev_chain {e : Expr} {de : DE} {r r' : R2} {F F' : PyData → PyData → Option PyData} {op op' : CmpOp} (ho : OpR c.X (compareOp op) r) (ho' : OpR c.X (compareOp op') r') (hd : OpD c.X.K c.g r F) (hd' : OpD c.X.K c.g r' F') (ha : EB c m a da) (hb : EB c m b db) (hc : EB c m e de)
    (hm : lastMarks [op, op'] [b, e] = false := by with_unfolding_all rfl) : EV c m (.Compare a [op, op'] [b, e] pos) (dChain F F' da db de) := fun σ H ρ S B0 B ow Q fr gi g =>
  WE.of (pe_chain ho ho' we we we hm) (chain_read hd hd' ha hb hc fr gi g)
theorem et_chain {e : Expr} {de : DE} {r r' : R2} {F F' : PyData → PyData → Option PyData} {op op' : CmpOp} (ho : OpR c.X (compareOp op) r) (ho' : OpR c.X (compareOp op') r') (hd : OpD c.X.K c.g r F) (hd' : OpD c.X.K c.g r' F') (ha : EB c m a da) (hb : EB c m b db) (hc : EB c m e de)
    (hm : lastMarks [op, op'] [b, e] = false := by with_unfolding_all rfl) : ET c m (.Compare a [op, op'] [b, e] pos) (dTest (dChain F F' da db de)) := fun σ H ρ S B0 B ow Q fr gi g =>
  WT.of (pt_chain ho ho' we we we hm) (show tTest (tChain r r' (WE c.X a) (WE c.X b) (WE c.X e)) σ H Q from chain_read hd hd' ha hb hc fr gi (g.bind fun d S1 v H1 _ ev1 gi1 gd1 g1 => by
    cases gd1 with
    | bl b => exact ⟨b, rfl, g1.ok0 gi1 rfl⟩
    | _ => exact absurd rfl g1.not_bad))
/-! and, or, not -/
structure WW (X : Cx) (e : Expr) (σ : L2.St) (H : Hp) (Q : Bool → Hp → Prop) : Prop where
  go : ∀ (whole : Sem Value) (pins : List (Addr × Obj)) (s : Shared), Inv X pins σ H s → wpAny (model X.prog X.w) X.A (isTrue e X.env whole) (TP X pins σ Q) X.xe s
theorem ww {X : Cx} {e : Expr} : PW X e (WW X e) := ⟨fun wh pins s _ _ _ I h => h.go wh pins s I⟩
theorem WW.of {X : Cx} {e : Expr} {t : TT} (h : PW X e t) {σ : L2.St} {H : Hp} {Q : Bool → Hp → Prop} (q : t σ H Q) : WW X e σ H Q := ⟨fun wh pins s I => h.run wh pins s σ H Q I q⟩
def EW (c : Cc) (m : List Md) (e : Expr) (den : DT) : Prop := ∀ σ H ρ S B0 B ow Q, Frame c.X.K c.g B0 B ow m ρ σ H → GI c.X.K c.g B H S →
  Goal c B H σ (den ρ S) (fun _ H' v d => v = d) Q → WW c.X e σ H Q
variable {ta tb : DT} {rest : List Expr}
def dAnd (a b : DT) : DT := fun ρ S => (a ρ S).bind fun x S1 => if x = true then b ρ S1 else .ok false S1
def dOr (a b : DT) : DT := fun ρ S => (a ρ S).bind fun x S1 => if x = true then .ok true S1 else b ρ S1
def dNot (a : DT) : DT := fun ρ S => (a ρ S).bind fun x S1 => .ok (!x) S1
theorem ew_and1 (ha : ET c m a ta) : EW c m (.BoolOp .And [a] pos) ta := fun σ H ρ S B0 B ow Q fr gi g => WW.of (pw_and1 wt) (ha σ H ρ S B0 B ow Q fr gi g)
theorem ew_or1 (ha : ET c m a ta) : EW c m (.BoolOp .Or [a] pos) ta := fun σ H ρ S B0 B ow Q fr gi g => WW.of (pw_or1 wt) (ha σ H ρ S B0 B ow Q fr gi g)
theorem ew_and (ha : ET c m a ta) (hb : EW c m (.BoolOp .And (b :: rest) pos) tb) : EW c m (.BoolOp .And (a :: b :: rest) pos) (dAnd ta tb) := by
  intro σ H ρ S B0 B ow Q fr gi g
  refine WW.of (pw_and wt ww) (ha σ H ρ S B0 B ow _ fr gi (g.bind fun d S1 v H1 _ ev1 gi1 gd1 g1 => ?_))
  cases gd1
  cases d with
  | true => rw [if_pos rfl] at g1 ⊢; exact hb σ H1 ρ S1 B0 B ow Q (fr.evo ev1) gi1 g1
  | false => rw [if_neg (by simp)] at g1 ⊢; exact g1.ok0 gi1 rfl
theorem ew_or (ha : ET c m a ta) (hb : EW c m (.BoolOp .Or (b :: rest) pos) tb) : EW c m (.BoolOp .Or (a :: b :: rest) pos) (dOr ta tb) := by
  intro σ H ρ S B0 B ow Q fr gi g
  refine WW.of (pw_or wt ww) (ha σ H ρ S B0 B ow _ fr gi (g.bind fun d S1 v H1 _ ev1 gi1 gd1 g1 => ?_))
  cases gd1
  cases d with
  | true => rw [if_pos rfl] at g1 ⊢; exact g1.ok0 gi1 rfl
  | false => rw [if_neg (by simp)] at g1 ⊢; exact hb σ H1 ρ S1 B0 B ow Q (fr.evo ev1) gi1 g1
theorem et_w {e : Expr} (h : EW c m e ta) : ET c m e ta := fun σ H ρ S B0 B ow Q fr gi g => WT.of (PW.pt ww) (h σ H ρ S B0 B ow Q fr gi g)
theorem et_not (ha : ET c m a ta) : ET c m (.UnaryOp .Not a pos) (dNot ta) := by
  intro σ H ρ S B0 B ow Q fr gi g
  refine WT.of (pt_not wt) (ha σ H ρ S B0 B ow _ fr gi (g.bind fun d S1 v H1 _ ev1 gi1 gd1 g1 => ?_))
  cases gd1
  exact g1.ok0 gi1 rfl
/-- .. as values: all but the last True or False -/
def asB (x : PyData) (t : Store → R PyData) (f : Store → R PyData) (S : Store) : R PyData := match x with | .bool true => t S | .bool false => f S | _ => .bad
def dAndV (a b : DE) : DE := fun ρ S => (a ρ S).bind fun x S1 => asB x (b ρ) (.ok (.bool false)) S1
def dOrV (a b : DE) : DE := fun ρ S => (a ρ S).bind fun x S1 => asB x (.ok (.bool true)) (b ρ) S1
def dNotV (a : DE) : DE := fun ρ S => (a ρ S).bind fun x S1 => asB x (.ok (.bool false)) (.ok (.bool true)) S1
theorem ev_one {op} (h : EV c m a da) : EV c m (.BoolOp op [a] pos) da := fun σ H ρ S B0 B ow Q fr gi g => WE.of (pe_one we) (h σ H ρ S B0 B ow Q fr gi g)
theorem ev_andV (ha : EV c m a da) (hb : EV c m (.BoolOp .And (b :: rest) pos) db) : EV c m (.BoolOp .And (a :: b :: rest) pos) (dAndV da db) := by
  intro σ H ρ S B0 B ow Q fr gi g
  refine WE.of (pe_and we we) (ha σ H ρ S B0 B ow _ fr gi (g.bind fun d S1 v H1 _ ev1 gi1 gd1 g1 => ?_))
  cases gd1 with
  | bl q =>
    refine ⟨q, rfl, ?_⟩
    cases q with
    | true => rw [if_pos rfl]; exact hb σ H1 ρ S1 B0 B ow Q (fr.evo ev1) gi1 g1
    | false => rw [if_neg (by simp)]; exact g1.ok0 gi1 (.bl _)
  | _ => exact absurd rfl g1.not_bad
theorem ev_orV (ha : EV c m a da) (hb : EV c m (.BoolOp .Or (b :: rest) pos) db) : EV c m (.BoolOp .Or (a :: b :: rest) pos) (dOrV da db) := by
  intro σ H ρ S B0 B ow Q fr gi g
  refine WE.of (pe_or we we) (ha σ H ρ S B0 B ow _ fr gi (g.bind fun d S1 v H1 _ ev1 gi1 gd1 g1 => ?_))
  cases gd1 with
  | bl q =>
    refine ⟨q, rfl, ?_⟩
    cases q with
    | true => rw [if_pos rfl]; exact g1.ok0 gi1 (.bl _)
    | false => rw [if_neg (by simp)]; exact hb σ H1 ρ S1 B0 B ow Q (fr.evo ev1) gi1 g1
  | _ => exact absurd rfl g1.not_bad
theorem ev_notV (ha : EV c m a da) : EV c m (.UnaryOp .Not a pos) (dNotV da) := by
  intro σ H ρ S B0 B ow Q fr gi g
  refine WE.of (pe_not we) (ha σ H ρ S B0 B ow _ fr gi (g.bind fun d S1 v H1 _ ev1 gi1 gd1 g1 => ?_))
  cases gd1 with
  | bl q =>
    refine ⟨q, rfl, ?_⟩
    cases q <;> exact g1.ok0 gi1 (.bl _)
  | _ => exact absurd rfl g1.not_bad
/-! a if t else b -/
def dIfE (t : DT) (a b : DE) : DE := fun ρ S => (t ρ S).bind fun x S1 => if x = true then a ρ S1 else b ρ S1
variable {q : Expr} {tq : DT}
theorem ev_if (hq : ET c m q tq) (ha : EV c m a da) (hb : EV c m b db) : EV c m (.IfExp q a b pos) (dIfE tq da db) := by
  intro σ H ρ S B0 B ow Q fr gi g
  refine WE.of (pe_ifExp wt we we) (hq σ H ρ S B0 B ow _ fr gi (g.bind fun d S1 v H1 _ ev1 gi1 gd1 g1 => ?_))
  cases gd1
  cases d with
  | true => rw [if_pos rfl] at g1 ⊢; exact ha σ H1 ρ S1 B0 B ow Q (fr.evo ev1) gi1 g1
  | false => rw [if_neg (by simp)] at g1 ⊢; exact hb σ H1 ρ S1 B0 B ow Q (fr.evo ev1) gi1 g1
theorem eb_if (hq : ET c m q tq) (ha : EB c m a da) (hb : EB c m b db) : EB c m (.IfExp q a b pos) (dIfE tq da db) := by
  intro σ H ρ S B0 B ow Q fr gi g
  refine WE.of (pe_ifExp wt we we) (hq σ H ρ S B0 B ow _ fr gi (g.bind (G1 := fun _ H' v d => v = d) fun d S1 v H1 _ ev1 gi1 gd1 g1 => ?_))
  cases gd1
  cases d with
  | true => rw [if_pos rfl] at g1 ⊢; exact ha σ H1 ρ S1 B0 B ow Q (fr.evo ev1) gi1 g1
  | false => rw [if_neg (by simp)] at g1 ⊢; exact hb σ H1 ρ S1 B0 B ow Q (fr.evo ev1) gi1 g1
theorem eo_if (hq : ET c m q tq) (ha : EO c m a da) (hb : EO c m b db) : EO c m (.IfExp q a b pos) (dIfE tq da db) := by
  intro σ H ρ S B0 B ow Q fr gi g
  refine WE.of (pe_ifExp wt we we) (hq σ H ρ S B0 B ow _ fr gi (g.bind (G1 := fun _ H' v d => v = d) fun d S1 v H1 _ ev1 gi1 gd1 g1 => ?_))
  cases gd1
  cases d with
  | true =>
    rw [if_pos rfl] at g1 ⊢
    exact ha σ H1 ρ S1 B0 B ow Q (fr.evo ev1) gi1 (g1.imp fun H' v d S' _ _ ⟨p, e1, e2, e3⟩ k => k v ⟨p, e1, free_back ev1 gi1 e2, e3⟩)
  | false =>
    rw [if_neg (by simp)] at g1 ⊢
    exact hb σ H1 ρ S1 B0 B ow Q (fr.evo ev1) gi1 (g1.imp fun H' v d S' _ _ ⟨p, e1, e2, e3⟩ k => k v ⟨p, e1, free_back ev1 gi1 e2, e3⟩)
end
end PD
/-! PDf: calls of built-ins, of methods of texts, of defs. -/
namespace PD
open PySem PySem.Spec PyProof.Rows L2
/-- no star -/
def Pl (e : Expr) : Prop := ∀ (env : PySem.Env) (es : List Expr), starEach (e :: es) env = (false, eval e env) :: starEach es env
/-! ### a built-in of one argument -/
def CalD (K : PySem.W.Frag) (g : Gx) (r : List V → Hp → VK → Prop) (F : PyData → Option PyData) : Prop := ∀ (B : List Addr) (H : Hp) (x : V) (dx d : PyData) (Q : VK), (∀ a ∈ B, H a ≠ none) → (∀ a ∈ g.G, a ∈ B) →
  Rb K g B H x dx → F dx = some d → (∀ v H', Ex H H' → Is K (Fz B H') v d → Q v H') → r [x] H Q
def CalO (K : PySem.W.Frag) (g : Gx) (r : List V → Hp → VK → Prop) (F : PyData → Option PyData) : Prop := ∀ (B : List Addr) (H : Hp) (x : V) (dx d : PyData) (Q : VK), (∀ a ∈ B, H a ≠ none) → (∀ a ∈ g.G, a ∈ B) →
  Rb K g B H x dx → F dx = some d → (∀ p H', Ex H H' → H p = none → Top K (p :: B) H' p d → Q (.ref p) H') → r [x] H Q
theorem CalO.d {K : PySem.W.Frag} {g : Gx} {r : List V → Hp → VK → Prop} {F : PyData → Option PyData} (h : CalO K g r F) : CalD K g r F := fun B H x dx d Q hn hg hx e k =>
  h B H x dx d Q hn hg hx e fun p H' ex hp t => k _ _ ex (t.is (fz_anti fun a ha => List.mem_cons_of_mem _ ha) fun o q => fz_some.mpr ⟨new_notin hn hp, q⟩)
section
variable {c : Cc} {m : List Md} {a : Expr} {da : DE} {r r1 r2 : List V → Hp → VK → Prop} {F F1 F2 : PyData → Option PyData} {x : Str} {p pos : Pos} {id T : String}
theorem CallR.or {f : Value} (h1 : CallR c.X f r1) (h2 : CallR c.X f r2) : CallR c.X f (fun xs H Q => r1 xs H Q ∨ r2 xs H Q) := fun pins s σ H xs us Q I rx h => by
  rcases h with h | h
  · exact h1 pins s σ H xs us Q I rx h
  · exact h2 pins s σ H xs us Q I rx h
theorem one_read (hd : CalD c.X.K c.g r F) (ha : EB c m a da) {σ : L2.St} {H : Hp} {ρ : Env} {S : Store} {B0 B : List Addr} {ow : Addr → Nat} {Q : VK} (fr : Frame c.X.K c.g B0 B ow m ρ σ H) (gi : GI c.X.K c.g B H S)
    (g : Goal c B H σ (d1 F da ρ S) (fun _ H' v d => Is c.X.K (Fz B H') v d) Q) : tCB r (tCons (WE c.X a) tNil) σ H Q := by
  refine ha σ H ρ S B0 B ow _ fr gi (g.bind fun d S1 v H1 _ ev1 gi1 gd1 g1 => ?_)
  cases q : F d with
  | none => rw [q] at g1; exact absurd rfl g1.not_bad
  | some z =>
    rw [q] at g1
    exact hd B H1 v d z Q gi1.kn gi1.sub gd1 q fun u H2 x2 i2 => g1.ok x2.evo (gi1.ex x2) i2
theorem one_readO (hd : CalO c.X.K c.g r F) (ha : EB c m a da) {σ : L2.St} {H : Hp} {ρ : Env} {S : Store} {B0 B : List Addr} {ow : Addr → Nat} {Q : VK} (fr : Frame c.X.K c.g B0 B ow m ρ σ H) (gi : GI c.X.K c.g B H S)
    (g : Goal c B H σ (d1 F da ρ S) (fun S' H' v d => ∃ p, v = .ref p ∧ H p = none ∧ Top c.X.K (p :: B) H' p d ∧ GI c.X.K c.g (p :: B) H' S') Q) : tCB r (tCons (WE c.X a) tNil) σ H Q := by
  refine ha σ H ρ S B0 B ow _ fr gi (g.bind (G1 := fun _ H' v d => Is c.X.K (Fz B H') v d ∨ ∃ p, v = .ref p ∧ p ∉ c.g.G ∧ Top c.X.K B H' p d) fun d S1 v H1 _ ev1 gi1 gd1 g1 => ?_)
  cases q : F d with
  | none => rw [q] at g1; exact absurd rfl g1.not_bad
  | some z =>
    rw [q] at g1
    exact hd B H1 v d z Q gi1.kn gi1.sub gd1 q fun p H2 x2 hp i2 => g1.ok x2.evo (gi1.ex x2) ⟨p, rfl, free_back ev1 gi1 hp, i2, gi1.fresh x2 hp i2.some⟩
theorem ev_callB (hc : CallR c.X (.builtin id) r) (hd : CalD c.X.K c.g r F) (hg : Gl c.X x) (hm : c.X.mg x = none) (hv : bootBuiltins x = some (.builtin id)) (ha : EB c m a da) (hs : Pl a := by intro _ _; rfl) (hn : x ≠ "__name__" := by decide) (hdb : (x == ("__debug__" : Str)) = false := by decide) :
    EV c m (.Call (.Name x p) [a] [] pos) (d1 F da) := fun σ H ρ S B0 B ow Q fr gi g => WE.of (pe_callB hc hg hm hv (pa_cons we pa_nil (hs _ _)) hn hdb (hs _ _)) (one_read hd ha fr gi g)
theorem ev_callT (hc : CallR c.X (.type T) r) (hd : CalD c.X.K c.g r F) (hg : Gl c.X x) (hm : c.X.mg x = none) (hv : bootBuiltins x = some (.type T)) (ha : EB c m a da) (hs : Pl a := by intro _ _; rfl) (hn : x ≠ "__name__" := by decide) (hdb : (x == ("__debug__" : Str)) = false := by decide) :
    EV c m (.Call (.Name x p) [a] [] pos) (d1 F da) := fun σ H ρ S B0 B ow Q fr gi g => WE.of (pe_callTy hc hg hm hv (pa_cons we pa_nil (hs _ _)) hn hdb (hs _ _)) (one_read hd ha fr gi g)
theorem eo_callB (hc : CallR c.X (.builtin id) r) (hd : CalO c.X.K c.g r F) (hg : Gl c.X x) (hm : c.X.mg x = none) (hv : bootBuiltins x = some (.builtin id)) (ha : EB c m a da) (hs : Pl a := by intro _ _; rfl) (hn : x ≠ "__name__" := by decide) (hdb : (x == ("__debug__" : Str)) = false := by decide) :
    EO c m (.Call (.Name x p) [a] [] pos) (d1 F da) := fun σ H ρ S B0 B ow Q fr gi g => WE.of (pe_callB hc hg hm hv (pa_cons we pa_nil (hs _ _)) hn hdb (hs _ _)) (one_readO hd ha fr gi g)
theorem eo_callT (hc : CallR c.X (.type T) r) (hd : CalO c.X.K c.g r F) (hg : Gl c.X x) (hm : c.X.mg x = none) (hv : bootBuiltins x = some (.type T)) (ha : EB c m a da) (hs : Pl a := by intro _ _; rfl) (hn : x ≠ "__name__" := by decide) (hdb : (x == ("__debug__" : Str)) = false := by decide) :
    EO c m (.Call (.Name x p) [a] [] pos) (d1 F da) := fun σ H ρ S B0 B ow Q fr gi g => WE.of (pe_callTy hc hg hm hv (pa_cons we pa_nil (hs _ _)) hn hdb (hs _ _)) (one_readO hd ha fr gi g)
/-! len -/
def fLen : PyData → Option PyData
  | .list xs => some (.int xs.length)
  | .tuple xs => some (.int xs.length)
  | .str z => if sz z.length then some (.int z.length) else none
  | _ => none
theorem cal_len {K : PySem.W.Frag} {g : Gx} : CalD K g (fun xs H Q => (∃ p ys, xs = [.ref p] ∧ (SqL K H p ys ∨ SqT K H p ys) ∧ Q (.int ys.length) H) ∨ (∃ z, xs = [.str z] ∧ z.length ≤ sizeLine ∧ Q (.int z.length) H)) fLen := by
  intro B H x dx d Q hn hg hx e k
  unfold fLen at e
  split at e
  · cases e
    obtain ⟨p, vs, rfl, h1, s1, z1⟩ := hx.lst hg
    exact .inl ⟨p, vs, rfl, .inl (.inl (.inl (s1 H (Evo.refl _ _)))), by rw [h1.length]; exact k _ _ (Ex.refl _) (.int _)⟩
  · cases e
    obtain ⟨p, vs, rfl, h1, s1, z1⟩ := hx.tup hg
    exact .inl ⟨p, vs, rfl, .inr (s1 H (Evo.refl _ _)), by rw [h1.length]; exact k _ _ (Ex.refl _) (.int _)⟩
  · split at e
    · rename_i hz
      cases e
      obtain rfl := hx.str
      exact .inr ⟨_, rfl, sz_le hz, k _ _ (Ex.refl _) (.int _)⟩
    · cases e
  · cases e
theorem ev_len (hg : Gl c.X "len") (hm : c.X.mg "len" = none) (ha : EB c m a da) (hs : Pl a := by intro _ _; rfl) : EV c m (.Call (.Name "len" p) [a] [] pos) (d1 fLen da) := ev_callB (CallR.or call_len_seq call_len_str) cal_len hg hm PySem.boot_len ha hs
/-! abs, int, str -/
def fAbs : PyData → Option PyData | .int i => some (.int (if i < 0 then -i else i)) | _ => none
theorem cal_abs {K : PySem.W.Frag} {g : Gx} : CalD K g (fun xs H Q => ∃ i, xs = [.int i] ∧ Q (.int (if i < 0 then -i else i)) H) fAbs := by
  intro B H x dx d Q hn hg hx e k
  unfold fAbs at e
  split at e
  · cases e
    obtain rfl := hx.int
    exact ⟨_, rfl, k _ _ (Ex.refl _) (.int _)⟩
  · cases e
theorem ev_abs (hg : Gl c.X "abs") (hm : c.X.mg "abs" = none) (ha : EB c m a da) (hs : Pl a := by intro _ _; rfl) : EV c m (.Call (.Name "abs" p) [a] [] pos) (d1 fAbs da) := ev_callB call_abs cal_abs hg hm PyProof.Rows.boot_abs ha hs
def fInt : PyData → Option PyData
  | .int i => some (.int i)
  | .bool b => some (.int (if b then 1 else 0))
  | .str z => if decide (z.length ≤ 640) then (PySem.intText? z).map .int else none
  | _ => none
theorem cal_int {K : PySem.W.Frag} {g : Gx} : CalD K g (fun xs H Q => ((∃ i, xs = [.int i] ∧ Q (.int i) H) ∨ ∃ k, xs = [.bl k] ∧ Q (.int (if k then 1 else 0)) H) ∨ (∃ a n, xs = [.str a] ∧ PySem.intText? a = some n ∧ a.length ≤ 640 ∧ Q (.int n) H)) fInt := by
  intro B H x dx d Q hn hg hx e k
  unfold fInt at e
  split at e
  · cases e
    obtain rfl := hx.int
    exact .inl (.inl ⟨_, rfl, k _ _ (Ex.refl _) (.int _)⟩)
  · cases e
    obtain rfl := hx.bool
    exact .inl (.inr ⟨_, rfl, k _ _ (Ex.refl _) (.int _)⟩)
  · split at e
    · rename_i z hz
      obtain rfl := hx.str
      cases q : PySem.intText? z with
      | none => rw [q] at e; cases e
      | some n =>
        rw [q] at e
        cases e
        exact .inr ⟨z, n, rfl, q, of_decide_eq_true hz, k _ _ (Ex.refl _) (.int _)⟩
    · cases e
  · cases e
theorem ev_int_ (hg : Gl c.X "int") (hm : c.X.mg "int" = none) (ha : EB c m a da) (hs : Pl a := by intro _ _; rfl) : EV c m (.Call (.Name "int" p) [a] [] pos) (d1 fInt da) := ev_callT (CallR.or call_int1 call_int_str) cal_int hg hm PyProof.Rows.boot_int ha hs
def fStr : PyData → Option PyData | .int i => if decide (i.natAbs.log2 < 1920) then some (.str (Str.ofString (toString i))) else none | _ => none
theorem cal_str {K : PySem.W.Frag} {g : Gx} : CalD K g (fun xs H Q => ∃ i : Int, xs = [.int i] ∧ i.natAbs.log2 < 1920 ∧ Q (.str (Str.ofString (toString i))) H) fStr := by
  intro B H x dx d Q hn hg hx e k
  unfold fStr at e
  split at e
  · split at e
    · rename_i hz
      cases e
      obtain rfl := hx.int
      exact ⟨_, rfl, of_decide_eq_true hz, k _ _ (Ex.refl _) (.str _)⟩
    · cases e
  · cases e
theorem ev_str_ (hg : Gl c.X "str") (hm : c.X.mg "str" = none) (ha : EB c m a da) (hs : Pl a := by intro _ _; rfl) : EV c m (.Call (.Name "str" p) [a] [] pos) (d1 fStr da) := ev_callT call_str_int cal_str hg hm PyProof.Rows.boot_str ha hs
/-! tuple(..) of a list, a tuple, a text; list(..) -/
def signs (z : Str) : List V := z.cps.toList.map fun c => V.str ⟨#[c]⟩
def signsD (z : Str) : List PyData := z.cps.toList.map fun c => .str ⟨#[c]⟩
def fTuple : PyData → Option PyData
  | .list xs => some (.tuple xs)
  | .tuple xs => some (.tuple xs)
  | .str z => if sz z.length then some (.tuple (signsD z)) else none
  | _ => none
theorem signs_is {K : PySem.W.Frag} {H : Hp} : ∀ l : List Nat, IsAll K H (l.map fun c => V.str ⟨#[c]⟩) (l.map fun c => PyData.str ⟨#[c]⟩)
  | [] => .nil
  | c :: l => .cons (.str _) (signs_is l)
theorem signs_vals {acc : Array Value} {z : Str} (h : ItemsOf (SignAt z) acc z.cps.size) : Vals (signs z) acc.toList := by
  refine vals_of_at (by unfold signs; rw [List.length_map, Array.length_toList, Array.length_toList, h.1]) fun j x u e1 e2 => ?_
  rw [Array.getElem?_toList] at e2
  obtain ⟨c, t, e3, e4⟩ := h.2 j u e2
  unfold signs at e1
  rw [List.getElem?_map, Array.getElem?_toList, e3] at e1
  cases e1
  exact ⟨t, e4⟩
theorem call_tupS (hc : c.X.calm = true) : CallR c.X (.type "tuple") (fun xs H Q => ∃ z, xs = [.str z] ∧ z.length ≤ sizeLine ∧ ∀ l, H l = none → Q (.ref l) (upd H l (.tup (signs z)))) := by
  intro pins s σ H xs us Q I r h
  obtain ⟨z, rfl, hz, q⟩ := h
  obtain ⟨u, rfl, t, rfl⟩ := vals1 r
  refine call_tuple_str (I.ok.hd hc) z t (fun h' tk acc kp hacc => ?_) hz
  have I1 : Inv c.X pins σ H { s with heap := h' } := I.kept (t' := s.toks) kp
  have hv := signs_vals hacc
  have I2 : Inv c.X pins σ (upd H h'.objs.size (.tup (signs z))) { s with heap := h'.push { cls := .type "tuple", data := .seq acc }, toks := tk } :=
    I1.laid (t' := tk) (fun b o e => Heap.get?_push_of_some _ e) (Nat.le_refl _) (show ObjOk c.X.prog c.X.w _ _ _ (.tup (signs z)) from ⟨by unfold signs; rw [List.length_map, Array.length_toList]; exact hz, acc.toList, hv, by simpa using IsTup.new _ _⟩)
  exact ⟨.ref h'.objs.size, _, I2, rfl, q _ (I1.hok.fresh (Nat.le_refl _))⟩
theorem cal_tuple {K : PySem.W.Frag} {g : Gx} : CalD K g (fun xs H Q => (∃ p ys, xs = [.ref p] ∧ ((SqL K H p ys ∧ ∀ l, H l = none → Q (.ref l) (upd H l (.tup ys))) ∨ (SqT K H p ys ∧ Q (.ref p) H))) ∨ (∃ z, xs = [.str z] ∧ z.length ≤ sizeLine ∧ ∀ l, H l = none → Q (.ref l) (upd H l (.tup (signs z))))) fTuple := by
  intro B H x dx d Q hn hg hx e k
  unfold fTuple at e
  split at e
  · cases e
    obtain ⟨p, vs, rfl, h1, s1, z1⟩ := hx.lst hg
    exact .inl ⟨p, vs, rfl, .inl ⟨.inl (.inl (s1 H (Evo.refl _ _))), fun l hl => k _ _ (Ex.new hl) (is_newT hn hl z1 h1)⟩⟩
  · cases e
    obtain ⟨p, vs, e2, h1, s1, z1⟩ := hx.tup hg
    subst e2
    refine .inl ⟨p, vs, rfl, .inr ⟨s1 H (Evo.refl _ _), ?_⟩⟩
    rcases hx with hx | ⟨r, _, _, ⟨_, _, z, _⟩ | ⟨_, _, z, _⟩ | ⟨_, _, z, _⟩⟩
    · exact k _ _ (Ex.refl _) hx
    all_goals cases z
  · split at e
    · rename_i z hz
      cases e
      obtain rfl := hx.str
      exact .inr ⟨z, rfl, sz_le hz, fun l hl => k _ _ (Ex.new hl) (is_newT hn hl (by unfold signs; rw [List.length_map, Array.length_toList]; exact sz_le hz) (signs_is _))⟩
    · cases e
  · cases e
theorem ev_tuple (hc : c.X.calm = true) (hg : Gl c.X "tuple") (hm : c.X.mg "tuple" = none) (ha : EB c m a da) (hs : Pl a := by intro _ _; rfl) : EV c m (.Call (.Name "tuple" p) [a] [] pos) (d1 fTuple da) := ev_callT (CallR.or call_tuple_of (call_tupS hc)) cal_tuple hg hm PyProof.Rows.boot_tuple ha hs
def fList : PyData → Option PyData
  | .list xs => some (.list xs)
  | .tuple xs => some (.list xs)
  | _ => none
theorem cal_list {K : PySem.W.Frag} {g : Gx} : CalO K g (fun xs H Q => ∃ p ys, xs = [.ref p] ∧ (SqL K H p ys ∨ SqT K H p ys) ∧ ∀ l, H l = none → Q (.ref l) (upd H l (.lst ys))) fList := by
  intro B H x dx d Q hn hg hx e k
  unfold fList at e
  split at e
  · cases e
    obtain ⟨p, vs, rfl, h1, s1, z1⟩ := hx.lst hg
    exact ⟨p, vs, rfl, .inl (.inl (.inl (s1 H (Evo.refl _ _)))), fun l hl => k _ _ (Ex.new hl) hl (top_newL hl z1 h1)⟩
  · cases e
    obtain ⟨p, vs, rfl, h1, s1, z1⟩ := hx.tup hg
    exact ⟨p, vs, rfl, .inr (s1 H (Evo.refl _ _)), fun l hl => k _ _ (Ex.new hl) hl (top_newL hl z1 h1)⟩
  · cases e
theorem eo_list (hg : Gl c.X "list") (hm : c.X.mg "list" = none) (ha : EB c m a da) (hs : Pl a := by intro _ _; rfl) : EO c m (.Call (.Name "list" p) [a] [] pos) (d1 fList da) := eo_callT call_list_of cal_list hg hm PyProof.Rows.boot_list ha hs
/-! all, any of a list of truth values -/
def boolsOf : List PyData → Option (List Bool)
  | [] => some []
  | .bool i :: r => (boolsOf r).map (i :: ·)
  | _ :: _ => none
theorem boolsOf_eq : ∀ {ds : List PyData} {ns : List Bool}, boolsOf ds = some ns → ds = ns.map .bool
  | [], ns, h => by cases h; rfl
  | d :: r, ns, h => by
    cases d with
    | bool i =>
      unfold boolsOf at h
      cases e : boolsOf r with
      | none => rw [e] at h; cases h
      | some ms => rw [e] at h; cases h; rw [boolsOf_eq e]; rfl
    | _ => cases h
@[simp] theorem boolsOf_bools : ∀ {ns : List Bool}, boolsOf (ns.map .bool) = some ns
  | [] => rfl
  | n :: ns => by
    show (boolsOf (ns.map .bool)).map (n :: ·) = _
    rw [boolsOf_bools]
    rfl
def fBs (f : List Bool → Bool) : PyData → Option PyData | .list xs => (boolsOf xs).map fun bs => .bool (f bs) | _ => none
theorem cal_bs {K : PySem.W.Frag} {g : Gx} (f : List Bool → Bool) : CalD K g (fun vs H Q => ∃ (a : Addr) (bs : List Bool), vs = [V.ref a] ∧ SqL K H a (bs.map V.bl) ∧ Q (.bl (f bs)) H) (fBs f) := by
  intro B H x dx d Q hn hg hx e k
  unfold fBs at e
  split at e
  · rename_i xs
    cases q : boolsOf xs with
    | none => rw [q] at e; cases e
    | some bs =>
      rw [q] at e
      cases e
      obtain rfl := boolsOf_eq q
      obtain ⟨p, vs, rfl, h1, s1, z1⟩ := hx.lst hg
      obtain rfl := h1.bools
      exact ⟨p, bs, rfl, .inl (.inl (s1 H (Evo.refl _ _))), k _ _ (Ex.refl _) (.bl _)⟩
  · cases e
theorem ev_all (hc : c.X.calm = true) (hg : Gl c.X "all") (hm : c.X.mg "all" = none) (ha : EB c m a da) (hs : Pl a := by intro _ _; rfl) : EV c m (.Call (.Name "all" p) [a] [] pos) (d1 (fBs fun bs => bs.all _root_.id) da) := ev_callB (cr_all hc) (cal_bs _) hg hm PyProof.Rows.boot_all ha hs
theorem ev_any (hc : c.X.calm = true) (hg : Gl c.X "any") (hm : c.X.mg "any" = none) (ha : EB c m a da) (hs : Pl a := by intro _ _; rfl) : EV c m (.Call (.Name "any" p) [a] [] pos) (d1 (fBs fun bs => bs.any _root_.id) da) := ev_callB (cr_any hc) (cal_bs _) hg hm PyProof.Rows.boot_any ha hs
/-! isinstance of a built-in class -/
def tyD : PyData → String | .none => "NoneType" | .bool _ => "bool" | .int _ => "int" | .str _ => "str" | .list _ => "list" | .tuple _ => "tuple" | .dict _ => "dict"
theorem ty_of {K : PySem.W.Frag} {g : Gx} {B : List Addr} {H : Hp} {v : V} {d : PyData} (h : Rb K g B H v d) : TyX K H v (.type (tyD d)) := by
  have lst : ∀ {a xs}, H a = some (.lst xs) → TyX K H (.ref a) (.type "list") := fun e => .base (.lst e)
  rcases h with h | ⟨p, rfl, hp, ⟨ds, vs, rfl, e, _⟩ | ⟨ds, kvs, rfl, e, _⟩ | ⟨ds, kvs, rfl, e, _⟩⟩
  · cases h with
    | non => exact .base .non
    | bl b => exact .base (.bl b)
    | int i => exact .base (.int i)
    | str x => exact .base (.str x)
    | lst e _ _ => exact .base (.lst (fz_le _ _ e))
    | tup e _ _ =>
      rcases e with (e | ⟨o, e⟩) | ⟨o, its, n, e, h2, _⟩
      · exact .base (.tup (fz_le _ _ e))
      · exact .fTuple (fz_le _ _ e)
      · exact .kTuple e h2
    | dK e _ _ => exact .base (.dK (fz_le _ _ e))
    | dT e _ _ => exact .base (.dT (fz_le _ _ e))
  · exact .base (.lst e)
  · exact .base (.dK e)
  · exact .base (.dT e)
def isT (T : String) (d : PyData) : Bool := match d with
  | .bool _ => T == "bool" || T == "int"
  | d => T == tyD d
/-- isinstance is answered as isT says -/
def IsTOk (T : String) : Prop := ∀ t ∈ ["NoneType", "bool", "int", "str", "list", "tuple", "dict"], kitB t T = some (t == T || (t == "bool" && T == "int"))
theorem isT_eq (T : String) (d : PyData) : (tyD d == T || (tyD d == "bool" && T == "int")) = isT T d := by
  cases d <;> simp [isT, tyD, Bool.beq_comm, BEq.comm]
theorem ev_isi {T : Str} {p2 : Pos} (hT : IsTOk T') (hb : bootBuiltins T = some (.type T')) (hg : Gl c.X "isinstance") (hm : c.X.mg "isinstance" = none) (gT : Gl c.X T) (mT : c.X.mg T = none) (ha : EV c m a da) (hs : Pl a := by intro _ _; rfl) (n1 : T ≠ "__name__" := by decide) (n2 : (T == ("__debug__" : Str)) = false := by decide) :
    EV c m (.Call (.Name "isinstance" p) [a, .Name T p2] [] pos) (d1 (fun d => some (.bool (isT T' d))) da) := by
  intro σ H ρ S B0 B ow Q fr gi g
  refine WE.of (pe_callB call_isi hg hm PyProof.Rows.boot_isinstance (pa_cons we (pa_cons (pe_bltn (v := .ty T') gT mT hb rfl n1 n2) pa_nil) (hs _ _)) (he := hs _ _)) ?_
  refine ha σ H ρ S B0 B ow _ fr gi (g.bind fun d S1 v H1 _ ev1 gi1 gd1 g1 => ?_)
  refine ⟨v, .ty T', .type (tyD d), .type T', isT T' d, rfl, .ty T', ty_of (g := c.g) (.inl gd1), ?_, g1.ok0 gi1 (.bl _)⟩
  rw [← isT_eq]
  refine kit_ty (hT _ ?_)
  cases d <;> simp [tyD]
end
end PD
/-! PDg: what is walked; list comprehensions; calls of defs. -/
namespace PD
open PySem PySem.Spec PyProof.Rows L2
/-! ### calls of defs -/
/-- an argument: frozen data, or the list at place k that all share -/
def ArgOk (K : PySem.W.Frag) (g : Gx) (B : List Addr) (H : Hp) : Md → V → PyData → Prop
  | .st k, v, d => d = .none ∧ ∃ p, g.SA[k]? = some p ∧ v = .ref p
  | .cs, v, d => ∃ a vs ds, d = .list ds ∧ v = .ref a ∧ SqL K (Fz B H) a vs ∧ vs.length ≤ sizeLine ∧ IsAll K (Fz B H) vs ds
  | _, v, d => Is K (Fz B H) v d
inductive ArgsOk (K : PySem.W.Frag) (g : Gx) (B : List Addr) (H : Hp) : List Md → List V → List PyData → Prop
  | nil : ArgsOk K g B H [] [] []
  | cons {k : Md} {ks : List Md} {v : V} {vs : List V} {d : PyData} {ds : List PyData} : ArgOk K g B H k v d → ArgsOk K g B H ks vs ds → ArgsOk K g B H (k :: ks) (v :: vs) (d :: ds)
theorem ArgOk.evo {K : PySem.W.Frag} {g : Gx} {B : List Addr} {H H' : Hp} {k : Md} {v : V} {d : PyData} (h : ArgOk K g B H k v d) (e : Ex (Fz B H) (Fz B H')) : ArgOk K g B H' k v d := by
  cases k with
  | st k => exact h
  | cs => exact let ⟨a, vs, ds, h1, h2, h3, h4, h5⟩ := h; ⟨a, vs, ds, h1, h2, e.l h3, h4, h5.mono e⟩
  | _ => exact Is.mono e h
theorem ArgsOk.length {K : PySem.W.Frag} {g : Gx} {B : List Addr} {H : Hp} : ∀ {ks : List Md} {vs : List V} {ds : List PyData}, ArgsOk K g B H ks vs ds → vs.length = ks.length
  | _, _, _, .nil => rfl
  | _, _, _, .cons _ r => by simp [ArgsOk.length r]
def EM (c : Cc) (m : List Md) (ks : List Md) (e : List Expr) (den : DA) : Prop := ∀ σ H ρ S B0 B ow Q, Frame c.X.K c.g B0 B ow m ρ σ H → GI c.X.K c.g B H S →
  Goal c B H σ (den ρ S) (fun _ H' v d => ArgsOk c.X.K c.g B H' ks v d) Q → WA c.X e σ H Q
def dSt : DE := fun _ S => .ok .none S
section
variable {c : Cc} {m : List Md} {ks : List Md} {e : Expr} {es : List Expr} {a : DE} {r : DA}
theorem em_nil : EM c m [] [] dNil := fun σ H ρ S B0 B ow Q fr gi g => WA.of pa_nil (g.ok0 gi .nil)
theorem em_val (ha : EV c m e a) (hr : EM c m ks es r) (hs : Pl e := by intro _ _; rfl) : EM c m (.fz :: ks) (e :: es) (dCons a r) := by
  intro σ H ρ S B0 B ow Q fr gi g
  refine WA.of (pa_cons we wa (hs _ _)) (ha σ H ρ S B0 B ow _ fr gi (g.bind fun d S' v H' _ ev gi' gd g' => ?_))
  refine hr σ H' ρ S' B0 B ow _ (fr.evo ev) gi' (g'.bind fun ds S2 vs H2 _ ev2 gi2 gd2 g2 => ?_)
  exact g2.ok0 gi2 (.cons (show Is _ _ _ _ from gd.mono (ev2.fz gi2.sub)) gd2)
theorem em_st {k i : Nat} {x : Str} {pos : Pos} (hm : m[i]? = some (.st k)) (hp : PE c.X (.Name x pos) (tVar i)) (hr : EM c m ks es r) : EM c m (.st k :: ks) (.Name x pos :: es) (dCons dSt r) := by
  intro σ H ρ S B0 B ow Q fr gi g
  refine WA.of (pa_cons hp wa rfl) ?_
  obtain ⟨p, hk, hv⟩ := fr.slot i _ hm
  refine ⟨.ref p, ?_, ?_⟩
  · rw [List.getD_eq_getElem?_getD] at hv
    cases h2 : σ[i]? with
    | none => rw [h2] at hv; cases hv
    | some o => rw [h2] at hv; rw [show o = some _ from hv]
  · refine hr σ H ρ S B0 B ow _ fr gi (Goal.bind (r := r ρ S) (k := fun xs S2 => R.ok (PyData.none :: xs) S2) g fun ds S2 vs H2 _ ev2 gi2 gd2 g2 => ?_)
    exact g2.ok0 gi2 (.cons ⟨rfl, p, hk, rfl⟩ gd2)
end
/-- what a result is: frozen, or a new list of its own -/
def ResOk (K : PySem.W.Frag) (g : Gx) (fr : Bool) (B : List Addr) (H H' : Hp) (S' : Store) (v : V) (d : PyData) : Prop :=
  if fr = true then ∃ p, v = .ref p ∧ H p = none ∧ Top K (p :: B) H' p d ∧ GI K g (p :: B) H' S' else Is K (Fz B H') v d
/-- a def's promise: its denotation -/
def spD (K : PySem.W.Frag) (mg : Str → Option Value) (g : Gx) (ks : List Md) (fr : Bool) (den : List PyData → Store → R PyData) : Sp := fun vs H Q E =>
  ∃ ds S B, ArgsOk K g B H ks vs ds ∧ GI K g B H S ∧
    (∀ d S' v H', den ds S = .ok d S' → Evo g.G H H' → GI K g B H' S' → ResOk K g fr B H H' S' v d → Q v H') ∧
    (∀ x S' cls dd H', den ds S = .exc x S' → Evo g.G H H' → GI K g B H' S' → XcRep K mg (Fz B H') x cls dd → E cls dd H') ∧ den ds S ≠ .bad
def dCall (f : List PyData → Store → R PyData) (as : DA) : DE := fun ρ S => (as ρ S).bind fun ds S1 => f ds S1
section
variable {c : Cc} {m : List Md} {ks : List Md} {e : Expr} {es : List Expr} {as : DA} {k : Nat} {f : Addr} {fd : FuncData} {ps : List Str} {den : List PyData → Store → R PyData} {x : Str} {p pos : Pos}
theorem call_read {fr0 : Bool} (ha : EM c m ks es as) {σ : L2.St} {H : Hp} {ρ : Env} {S : Store} {B0 B : List Addr} {ow : Addr → Nat} {Q : VK} (fr : Frame c.X.K c.g B0 B ow m ρ σ H) (gi : GI c.X.K c.g B H S)
    (g : Goal c B H σ (dCall den as ρ S) (fun S' H' v d => ResOk c.X.K c.g fr0 B H H' S' v d) Q) : tCallS (spD c.X.K c.X.mg c.g ks fr0 den) (L2.WE c.W) (WA c.X es) σ H Q := by
  refine ha σ H ρ S B0 B ow _ fr gi (g.bind (G1 := fun _ H' v d => ArgsOk c.X.K c.g B H' ks v d) fun ds S1 vs H1 _ ev1 gi1 gd1 g1 => ?_)
  refine ⟨ds, S1, B, gd1, gi1, fun d S' v H' e1 ev gi' rs => g1.1 d S' v H' e1 ev gi' ?_, fun x S' cls dd H' e1 ev gi' xr => g1.2.1 x S' e1 cls dd H' ev gi' xr, g1.2.2⟩
  unfold ResOk at rs ⊢
  split at rs
  · rename_i q
    rw [if_pos q]
    obtain ⟨p, e2, e3, e4⟩ := rs
    exact ⟨p, e2, free_back ev1 gi1 e3, e4⟩
  · rename_i q
    rw [if_neg q]
    exact rs
/-- a def of the denotation den at level k -/
def FnD (c : Cc) (k : Nat) (f : Addr) (fd : FuncData) (ps : List Str) (ks : List Md) (fr : Bool) (den : List PyData → Store → R PyData) : Prop :=
  FnOk c.X.prog c.X.w c.X.K c.X.mg c.X.base (L2.CX c.X.prog c.X.w) k f fd ps (spD c.X.K c.X.mg c.g ks fr den)
/-- where a def that is called stands -/
structure At (X : Cx) (x : Str) (f : Addr) (fd : FuncData) (ps : List Str) : Prop where
  g : X.mg x = some (.ref f)
  k : PySem.W.keepIn X.K (.ref f) = true
  b : Binds X.K fd ps []
theorem ev_call (F : FnD c k f fd ps ks false den) (hr : Room k c.X.A) (hg : Gl c.X x) (T : At c.X x f fd ps) (tk : Takes c.X c.W) (ha : EM c m ks (e :: es) as) (hdb : (x == ("__debug__" : Str)) = false := by decide)
    (he : starEach (e :: es) c.X.env = (false, eval e c.X.env) :: starEach es c.X.env := by rfl) (hpl : (backTo pos (starEach es c.X.env)).any (·.1) = false := by rfl) : EV c m (.Call (.Name x p) (e :: es) [] pos) (dCall den as) := fun σ H ρ S B0 B ow Q fr gi g =>
  PD.WE.of (pe_callS F hr hg T.g T.k T.b (fun σ => passAt tk σ) wa hdb he hpl) (call_read (fr0 := false) ha fr gi g)
theorem eo_call (F : FnD c k f fd ps ks true den) (hr : Room k c.X.A) (hg : Gl c.X x) (T : At c.X x f fd ps) (tk : Takes c.X c.W) (ha : EM c m ks (e :: es) as) (hdb : (x == ("__debug__" : Str)) = false := by decide)
    (he : starEach (e :: es) c.X.env = (false, eval e c.X.env) :: starEach es c.X.env := by rfl) (hpl : (backTo pos (starEach es c.X.env)).any (·.1) = false := by rfl) : EO c m (.Call (.Name x p) (e :: es) [] pos) (dCall den as) := fun σ H ρ S B0 B ow Q fr gi g =>
  PD.WE.of (pe_callS F hr hg T.g T.k T.b (fun σ => passAt tk σ) wa hdb he hpl) (call_read (fr0 := true) ha fr gi g)
end
/-! ### what is walked -/
structure WI (X : Cx) (tg iter : Expr) (σ : L2.St) (H : Hp) (R : It → Hp → Prop) : Prop where
  go : ∀ (pins : List (Addr × Obj)) (s : Shared), Inv X pins σ H s → wpAny (model X.prog X.w) X.A (eval iter X.env) (fun v s1 => wpAny (model X.prog X.w) X.A (pyIter v) (PIE X pins σ tg R) X.xe s1) X.xe s
theorem wi {X : Cx} {tg iter : Expr} : PI X tg iter (WI X tg iter) := ⟨fun pins s _ _ _ I h => h.go pins s I⟩
theorem WI.of {X : Cx} {tg iter : Expr} {t : TI} (h : PI X tg iter t) {σ : L2.St} {H : Hp} {R : It → Hp → Prop} (q : t σ H R) : WI X tg iter σ H R := ⟨fun pins s I => h.run pins s σ H R I q⟩
/-- a walk through the items ds, wherever what is frozen stays -/
def ItF (K : PySem.W.Frag) (B : List Addr) (H0 : Hp) (J : It) (ds : List PyData) : Prop := ds.length ≤ sizeLine ∧ ∀ B' H, Ex (Fz B H0) (Fz B' H) → (∀ a ∈ B', H a ≠ none) →
  (∀ (i : Nat) d, ds[i]? = some d → J.go i H ∧ ∀ x H', J.yld i H x H' → Ex H H' ∧ Is K (Fz B' H') x d) ∧ ∀ (i : Nat), ds.length ≤ i → J.stop i H
/-- .. wherever all but the shared lists and tables stays -/
def ItC (K : PySem.W.Frag) (G B : List Addr) (H0 : Hp) (J : It) (ds : List PyData) : Prop := ds.length ≤ sizeLine ∧ ∀ B' H, Evo G H0 H → Ex (Fz B H0) (Fz B' H) → (∀ a ∈ B', H a ≠ none) →
  (∀ (i : Nat) d, ds[i]? = some d → J.go i H ∧ ∀ x H', J.yld i H x H' → Ex H H' ∧ Is K (Fz B' H') x d) ∧ ∀ (i : Nat), ds.length ≤ i → J.stop i H
abbrev DI := Env → Store → R (List PyData)
def IFo (c : Cc) (m : List Md) (tg iter : Expr) (den : DI) : Prop := ∀ σ H ρ S B0 B ow (Q : It → Hp → Prop), Frame c.X.K c.g B0 B ow m ρ σ H → GI c.X.K c.g B H S →
  Goal c B H σ (den ρ S) (fun _ H' J ds => ItF c.X.K B H' J ds) Q → WI c.X tg iter σ H Q
def ICo (c : Cc) (m : List Md) (tg iter : Expr) (den : DI) : Prop := ∀ σ H ρ S B0 B ow (Q : It → Hp → Prop), Frame c.X.K c.g B0 B ow m ρ σ H → GI c.X.K c.g B H S →
  Goal c B H σ (den ρ S) (fun _ H' J ds => ItC c.X.K c.g.G B H' J ds) Q → WI c.X tg iter σ H Q
theorem ItF.c {K : PySem.W.Frag} {g : Gx} {B : List Addr} {H0 : Hp} {J : It} {ds : List PyData} (h : ItF K B H0 J ds) (hg : ∀ a ∈ g.G, a ∈ B) : ItC K g.G B H0 J ds := ⟨h.1, fun B' H _ e kn => h.2 B' H e kn⟩
theorem IFo.c {c : Cc} {m : List Md} {tg iter : Expr} {den : DI} (h : IFo c m tg iter den) : ICo c m tg iter den := fun σ H ρ S B0 B ow Q fr gi g => h σ H ρ S B0 B ow Q fr gi (g.imp fun H' J ds S' _ gi' gd k => k J (gd.c gi'.sub))
def seqD : PyData → Option (List PyData) | .list xs => some xs | .tuple xs => some xs | .str z => if sz z.length then some (signsD z) else none | _ => none
def dIter (a : DE) : DI := fun ρ S => (a ρ S).bind fun x S1 => ofO (seqD x) S1
/-- a list, a tuple, a text by its kind -/
def lstD : PyData → Option (List PyData) | .list xs => some xs | _ => none
def tupD : PyData → Option (List PyData) | .tuple xs => some xs | _ => none
def strD : PyData → Option (List PyData) | .str z => if sz z.length then some (signsD z) else none | _ => none
def dIt (F : PyData → Option (List PyData)) (a : DE) : DI := fun ρ S => (a ρ S).bind fun x S1 => ofO (F x) S1
section
variable {c : Cc} {m : List Md} {a b : Expr} {da db : DE} {tg : Expr} {p pos : Pos}
theorem itF_list {K : PySem.W.Frag} {B : List Addr} {H : Hp} {v : V} {ds : List PyData} (h : Is K (Fz B H) v (.list ds)) : ∃ a, v = .ref a ∧ (∃ xs, SqL K H a xs) ∧ ItF K B H (Itl K a) ds := by
  cases h with
  | lst h z r =>
    rename_i a vs
    refine ⟨a, rfl, ⟨vs, .inl (.inl (fz_le _ _ h))⟩, by rw [← r.length]; exact z, fun B' H' e kn => ⟨fun i d hd => ?_, fun i hi => ⟨vs, .inl (.inl (fz_le _ _ (e _ _ h))), by rw [r.length]; exact hi⟩⟩⟩
    obtain ⟨w, hw, iw⟩ := r.get hd
    have sq : SqL K H' a vs := .inl (.inl (fz_le _ _ (e _ _ h)))
    refine ⟨⟨vs, w, sq, hw⟩, fun x H2 ⟨e2, k⟩ => ?_⟩
    subst e2
    have := k vs sq
    rw [hw] at this
    cases this
    exact ⟨Ex.refl _, iw.mono e⟩
theorem itF_tup {K : PySem.W.Frag} {B : List Addr} {H : Hp} {v : V} {ds : List PyData} (h : Is K (Fz B H) v (.tuple ds)) : ∃ a, v = .ref a ∧ (∃ xs, SqT K H a xs) ∧ ItF K B H (Itt K a) ds := by
  cases h with
  | tup h z r =>
    rename_i a vs
    refine ⟨a, rfl, ⟨vs, (fz_le (H := H)).t h⟩, by rw [← r.length]; exact z, fun B' H' e kn => ⟨fun i d hd => ?_, fun i hi => ⟨vs, (fz_le).t (e.t h), by rw [r.length]; exact hi⟩⟩⟩
    obtain ⟨w, hw, iw⟩ := r.get hd
    have sq : SqT K H' a vs := (fz_le).t (e.t h)
    refine ⟨⟨vs, w, sq, hw⟩, fun x H2 ⟨e2, k⟩ => ?_⟩
    subst e2
    have := k vs sq
    rw [hw] at this
    cases this
    exact ⟨Ex.refl _, iw.mono e⟩
theorem if_list (ha : EV c m a da) : IFo c m tg a (dIt lstD da) := by
  intro σ H ρ S B0 B ow Q fr gi g
  refine WI.of (pi_list we) (ha σ H ρ S B0 B ow _ fr gi (g.bind fun d S1 v H1 _ ev1 gi1 gd1 g1 => ?_))
  unfold lstD at g1
  split at g1
  · obtain ⟨a, rfl, ex, it⟩ := itF_list gd1
    exact ⟨a, rfl, ex, g1.ok0 gi1 it⟩
  · exact absurd rfl g1.not_bad
theorem if_tup (ha : EV c m a da) : IFo c m tg a (dIt tupD da) := by
  intro σ H ρ S B0 B ow Q fr gi g
  refine WI.of (pi_tup we) (ha σ H ρ S B0 B ow _ fr gi (g.bind fun d S1 v H1 _ ev1 gi1 gd1 g1 => ?_))
  unfold tupD at g1
  split at g1
  · obtain ⟨a, rfl, ex, it⟩ := itF_tup gd1
    exact ⟨a, rfl, ex, g1.ok0 gi1 it⟩
  · exact absurd rfl g1.not_bad
/-- a list or a tuple, whichever comes -/
def sqD : PyData → Option (List PyData) | .list xs => some xs | .tuple xs => some xs | _ => none
theorem pi_or {tg e : Expr} {X : Cx} {t1 t2 : TE → TI} (h1 : ∀ {te}, PE X e te → PI X tg e (t1 te)) (h2 : ∀ {te}, PE X e te → PI X tg e (t2 te)) {te : TE} (he : PE X e te) : PI X tg e (fun σ H R => t1 te σ H R ∨ t2 te σ H R) :=
  ⟨fun pins s σ H R I h => h.elim (fun h => (h1 he).run pins s σ H R I h) fun h => (h2 he).run pins s σ H R I h⟩
theorem if_seq (ha : EV c m a da) : IFo c m tg a (dIt sqD da) := by
  intro σ H ρ S B0 B ow Q fr gi g
  have gc : ∀ x S1, da ρ S = .ok x S1 → (∃ xs, x = .list xs) ∨ ∃ xs, x = .tuple xs := fun x S1 e => by
    have nb := g.2.2
    unfold dIt at nb
    rw [e] at nb
    cases x with
    | list xs => exact .inl ⟨xs, rfl⟩
    | tuple xs => exact .inr ⟨xs, rfl⟩
    | _ => exact absurd rfl nb
  cases e : da ρ S with
  | bad => exact absurd (by unfold dIt; rw [e]; rfl) g.2.2
  | exc x S1 =>
    refine WI.of (pi_list we) (ha σ H ρ S B0 B ow _ fr gi (g.bind fun d S1 v H1 q ev1 gi1 gd1 g1 => ?_))
    rw [e] at q; cases q
  | ok x S1 =>
    rcases gc x S1 e with ⟨xs, rfl⟩ | ⟨xs, rfl⟩
    · refine WI.of (pi_list we) (ha σ H ρ S B0 B ow _ fr gi (g.bind fun d S1 v H1 q ev1 gi1 gd1 g1 => ?_))
      rw [e] at q
      cases q
      obtain ⟨a, rfl, ex, it⟩ := itF_list gd1
      exact ⟨a, rfl, ex, g1.ok0 gi1 it⟩
    · refine WI.of (pi_tup we) (ha σ H ρ S B0 B ow _ fr gi (g.bind fun d S1 v H1 q ev1 gi1 gd1 g1 => ?_))
      rw [e] at q
      cases q
      obtain ⟨a, rfl, ex, it⟩ := itF_tup gd1
      exact ⟨a, rfl, ex, g1.ok0 gi1 it⟩
/-- a list of a slot's own, in a comprehension -/
theorem ic_list (ha : EB c m a da) : ICo c m tg a (dIt lstD da) := by
  intro σ H ρ S B0 B ow Q fr gi g
  refine WI.of (pi_list we) (ha σ H ρ S B0 B ow _ fr gi (g.bind (G1 := fun _ H' v d => Is c.X.K (Fz B H') v d ∨ ∃ p, v = .ref p ∧ p ∉ c.g.G ∧ Top c.X.K B H' p d) fun d S1 v H1 _ ev1 gi1 gd1 g1 => ?_))
  unfold lstD at g1
  split at g1
  · obtain ⟨a, vs, rfl, r, st, z⟩ := Rb.lst gd1 gi1.sub
    refine ⟨a, rfl, ⟨vs, .inl (.inl (st H1 (Evo.refl _ _)))⟩, g1.ok0 gi1 ⟨by rw [← r.length]; exact z, fun B' H' e e' kn => ⟨fun i d hd => ?_, fun i hi => ⟨vs, .inl (.inl (st H' e)), by rw [r.length]; exact hi⟩⟩⟩⟩
    obtain ⟨w, hw, iw⟩ := r.get hd
    have sq : SqL c.X.K H' a vs := .inl (.inl (st H' e))
    refine ⟨⟨vs, w, sq, hw⟩, fun x H2 ⟨e2, k⟩ => ?_⟩
    subst e2
    have := k vs sq
    rw [hw] at this
    cases this
    exact ⟨Ex.refl _, iw.mono e'⟩
  · exact absurd rfl g1.not_bad
/-! range -/
def rngD (lo : Int) (n : Nat) : List PyData := (List.range n).map fun i => .int (lo + (i : Nat))
def cR (i : Int) : Bool := decide (-(2 ^ 62) ≤ i ∧ i < 2 ^ 62)
def dRng1 (a : DE) : DI := fun ρ S => (a ρ S).bind fun x S1 => match x with | .int j => if cR j && sz j.toNat then .ok (rngD 0 j.toNat) S1 else .bad | _ => .bad
def dRng2 (a b : DE) : DI := fun ρ S => (a ρ S).bind fun x S1 => (b ρ S1).bind fun y S2 => match x, y with | .int i, .int j => if cR i && cR j && sz (j - i).toNat then .ok (rngD i (j - i).toNat) S2 else .bad | _, _ => .bad
theorem itF_rng {K : PySem.W.Frag} {B : List Addr} {H : Hp} {lo : Int} {n : Nat} (hz : n ≤ sizeLine) : ItF K B H (Itr lo n) (rngD lo n) := by
  have el : (rngD lo n).length = n := by unfold rngD; rw [List.length_map, List.length_range]
  refine ⟨by rw [el]; exact hz, fun B' H' e kn => ⟨fun i d hd => ?_, fun i hi => by rw [el] at hi; exact hi⟩⟩
  have hi : i < n := by rw [← el]; exact (List.getElem?_eq_some_iff.mp hd).1
  refine ⟨hi, fun x H2 ⟨e2, k⟩ => ?_⟩
  subst e2 k
  unfold rngD at hd
  rw [List.getElem?_map, List.getElem?_range hi] at hd
  cases hd
  exact ⟨Ex.refl _, .int _⟩
theorem if_rng1 (hg : Gl c.X "range") (hm : c.X.mg "range" = none) (ha : EV c m a da) (hs : Pl a := by intro _ _; rfl) : IFo c m tg (.Call (.Name "range" p) [a] [] pos) (dRng1 da) := by
  intro σ H ρ S B0 B ow Q fr gi g
  refine WI.of (pi_range1 hg hm (pa_cons we pa_nil (hs _ _)) (hs _ _)) (ha σ H ρ S B0 B ow _ fr gi (g.bind fun d S1 v H1 _ ev1 gi1 gd1 g1 => ?_))
  cases gd1 with
  | int j =>
    simp only at g1
    split at g1
    · rename_i hc
      rw [Bool.and_eq_true] at hc
      have h1 := of_decide_eq_true hc.1
      exact ⟨j, rfl, h1.1, h1.2, g1.ok0 gi1 (itF_rng (sz_le hc.2))⟩
    · exact absurd rfl g1.not_bad
  | _ => exact absurd rfl g1.not_bad
theorem if_rng2 (hg : Gl c.X "range") (hm : c.X.mg "range" = none) (ha : EV c m a da) (hb : EV c m b db) (hs : Pl a := by intro _ _; rfl) (hs2 : Pl b := by intro _ _; rfl) : IFo c m tg (.Call (.Name "range" p) [a, b] [] pos) (dRng2 da db) := by
  intro σ H ρ S B0 B ow Q fr gi g
  refine WI.of (pi_range2 hg hm (pa_cons we (pa_cons we pa_nil (hs2 _ _)) (hs _ _)) (by rw [hs _ _, hs2 _ _]; rfl) (by rw [hs2 _ _]; rfl)) (ha σ H ρ S B0 B ow _ fr gi (g.bind fun d S1 v H1 _ ev1 gi1 gd1 g1 => ?_))
  refine hb σ H1 ρ S1 B0 B ow _ (fr.evo ev1) gi1 (g1.bind fun d2 S2 v2 H2 _ ev2 gi2 gd2 g2 => ?_)
  cases gd1 with
  | int i =>
    cases gd2 with
    | int j =>
      simp only at g2
      split at g2
      · rename_i hc
        rw [Bool.and_eq_true, Bool.and_eq_true] at hc
        have h1 := of_decide_eq_true hc.1.1
        have h2 := of_decide_eq_true hc.1.2
        exact ⟨i, j, rfl, ⟨h1.1, h1.2, h2.1, h2.2⟩, g2.ok0 gi2 (itF_rng (sz_le hc.2))⟩
      · exact absurd rfl g2.not_bad
    | _ => exact absurd rfl g2.not_bad
  | _ => exact absurd rfl g2.not_bad
end
end PD
/-! PDh: zip, enumerate, texts walked; list comprehensions. -/
namespace PD
open PySem PySem.Spec PyProof.Rows L2
section
variable {c : Cc} {m : List Md} {a b : Expr} {da db : DE} {tg : Expr} {p pos tpos : Pos} {elts : List Expr} {kk : Nat}
def zipD : List PyData → List PyData → List PyData
  | x :: xs, y :: ys => .tuple [x, y] :: zipD xs ys
  | _, _ => []
theorem zipD_len : ∀ xs ys : List PyData, (zipD xs ys).length = min xs.length ys.length
  | [], ys => by simp [zipD]
  | x :: xs, [] => by simp [zipD]
  | x :: xs, y :: ys => by simp [zipD, zipD_len xs ys]
theorem zipD_get : ∀ (xs ys : List PyData) (i : Nat) (d : PyData), (zipD xs ys)[i]? = some d → ∃ x y, xs[i]? = some x ∧ ys[i]? = some y ∧ d = .tuple [x, y]
  | [], ys, i, d, h => by simp [zipD] at h
  | x :: xs, [], i, d, h => by simp [zipD] at h
  | x :: xs, y :: ys, 0, d, h => by simp [zipD] at h; exact ⟨x, y, rfl, rfl, h.symm⟩
  | x :: xs, y :: ys, i + 1, d, h => by
    simp only [zipD, List.getElem?_cons_succ] at h
    obtain ⟨u, w, h1, h2, h3⟩ := zipD_get xs ys i d h
    exact ⟨u, w, by simpa using h1, by simpa using h2, h3⟩
def fZip : PyData → PyData → Option (List PyData)
  | .list xs, .list ys => some (zipD xs ys)
  | .tuple xs, .tuple ys => some (zipD xs ys)
  | _, _ => none
def dIt2 (F : PyData → PyData → Option (List PyData)) (a b : DE) : DI := fun ρ S => (a ρ S).bind fun x S1 => (b ρ S1).bind fun y S2 => ofO (F x y) S2
theorem pair_is {K : PySem.W.Frag} {B : List Addr} {H : Hp} {T : Addr} {v w : V} {x y : PyData} (kn : ∀ a ∈ B, H a ≠ none) (hT : H T = none) (h1 : Is K (Fz B H) v x) (h2 : Is K (Fz B H) w y) : Is K (Fz B (upd H T (.tup [v, w]))) (.ref T) (.tuple [x, y]) :=
  is_newT kn hT (by show 2 ≤ sizeLine; decide) (.cons h1 (.cons h2 .nil))
theorem if_zip (hg : Gl c.X "zip") (hm : c.X.mg "zip" = none) (ha : EV c m a da) (hb : EV c m b db) (hs : Pl a := by intro _ _; rfl) (hs2 : Pl b := by intro _ _; rfl) : IFo c m (.Tuple elts kk tpos) (.Call (.Name "zip" p) [a, b] [] pos) (dIt2 fZip da db) := by
  intro σ H ρ S B0 B ow Q fr gi g
  refine WI.of (RZ.pi_zipA hg hm (pa_cons we (pa_cons we pa_nil (hs2 _ _)) (hs _ _)) (hs _ _) (by rw [hs2 _ _]; rfl)) (ha σ H ρ S B0 B ow _ fr gi (g.bind fun d S1 v H1 _ ev1 gi1 gd1 g1 => ?_))
  refine hb σ H1 ρ S1 B0 B ow _ (fr.evo ev1) gi1 (g1.bind fun d2 S2 v2 H2 _ ev2 gi2 gd2 g2 => ?_)
  have gd1 := gd1.mono (ev2.fz gi2.sub)
  unfold fZip at g2
  split at g2
  · cases gd1 with
    | lst h1 z1 r1 =>
      rename_i a1 vs
      cases gd2 with
      | lst h2 z2 r2 =>
        rename_i a2 ws
        refine ⟨a1, a2, vs, ws, rfl, .inl ⟨.inl (.inl (fz_le _ _ h1)), .inl (.inl (fz_le _ _ h2)), g2.ok0 gi2 ⟨by rw [zipD_len, ← r1.length]; omega, fun B' H' e kn => ⟨fun i d hd => ?_, fun i hi => ?_⟩⟩⟩⟩
        · obtain ⟨x, y, e1, e2, rfl⟩ := zipD_get _ _ _ _ hd
          obtain ⟨v, hv, iv⟩ := r1.get e1
          obtain ⟨w, hw, iw⟩ := r2.get e2
          have s1 : SqL c.X.K H' a1 vs := .inl (.inl (fz_le _ _ (e _ _ h1)))
          have s2 : SqL c.X.K H' a2 ws := .inl (.inl (fz_le _ _ (e _ _ h2)))
          refine ⟨⟨vs, ws, v, w, s1, s2, hv, hw⟩, fun q H3 ⟨T, x', y', e3, hT, e4, k1, k2⟩ => ?_⟩
          subst e3 e4
          have q1 := k1 vs s1
          have q2 := k2 ws s2
          rw [hv] at q1
          rw [hw] at q2
          cases q1
          cases q2
          exact ⟨Ex.new hT, pair_is kn hT (iv.mono e) (iw.mono e)⟩
        · rw [zipD_len, ← r1.length, ← r2.length] at hi
          exact ⟨vs, ws, .inl (.inl (fz_le _ _ (e _ _ h1))), .inl (.inl (fz_le _ _ (e _ _ h2))), by omega⟩
  · cases gd1 with
    | tup h1 z1 r1 =>
      rename_i a1 vs
      cases gd2 with
      | tup h2 z2 r2 =>
        rename_i a2 ws
        refine ⟨a1, a2, vs, ws, rfl, .inr ⟨fz_le.t h1, fz_le.t h2, g2.ok0 gi2 ⟨by rw [zipD_len, ← r1.length]; omega, fun B' H' e kn => ⟨fun i d hd => ?_, fun i hi => ?_⟩⟩⟩⟩
        · obtain ⟨x, y, e1, e2, rfl⟩ := zipD_get _ _ _ _ hd
          obtain ⟨v, hv, iv⟩ := r1.get e1
          obtain ⟨w, hw, iw⟩ := r2.get e2
          have s1 : SqT c.X.K H' a1 vs := fz_le.t (e.t h1)
          have s2 : SqT c.X.K H' a2 ws := fz_le.t (e.t h2)
          refine ⟨⟨vs, ws, v, w, s1, s2, hv, hw⟩, fun q H3 ⟨T, x', y', e3, hT, e4, k1, k2⟩ => ?_⟩
          subst e3 e4
          have q1 := k1 vs s1
          have q2 := k2 ws s2
          rw [hv] at q1
          rw [hw] at q2
          cases q1
          cases q2
          exact ⟨Ex.new hT, pair_is kn hT (iv.mono e) (iw.mono e)⟩
        · rw [zipD_len, ← r1.length, ← r2.length] at hi
          exact ⟨vs, ws, fz_le.t (e.t h1), fz_le.t (e.t h2), by omega⟩
  · exact absurd rfl g2.not_bad
/-! enumerate of a list -/
def enumD (k : Int) : List PyData → List PyData
  | [] => []
  | x :: xs => .tuple [.int k, x] :: enumD (k + 1) xs
theorem enumD_len : ∀ (k : Int) (xs : List PyData), (enumD k xs).length = xs.length
  | _, [] => rfl
  | k, x :: xs => by simp [enumD, enumD_len (k + 1) xs]
theorem enumD_get : ∀ (k : Int) (xs : List PyData) (i : Nat) (d : PyData), (enumD k xs)[i]? = some d → ∃ x, xs[i]? = some x ∧ d = .tuple [.int (k + i), x]
  | k, [], i, d, h => by simp [enumD] at h
  | k, x :: xs, 0, d, h => by simp [enumD] at h; exact ⟨x, rfl, by rw [← h]; simp⟩
  | k, x :: xs, i + 1, d, h => by
    simp only [enumD, List.getElem?_cons_succ] at h
    obtain ⟨y, h1, h2⟩ := enumD_get (k + 1) xs i d h
    exact ⟨y, by simpa using h1, by rw [h2]; congr 3; push_cast; omega⟩
def fEnumL : PyData → Option (List PyData) | .list xs => some (enumD 0 xs) | _ => none
theorem if_enumL (hg : Gl c.X "enumerate") (hm : c.X.mg "enumerate" = none) (ha : EV c m a da) (hs : Pl a := by intro _ _; rfl) : IFo c m (.Tuple elts kk tpos) (.Call (.Name "enumerate" p) [a] [] pos) (dIt fEnumL da) := by
  intro σ H ρ S B0 B ow Q fr gi g
  refine WI.of (pi_enum hg hm (pa_cons we pa_nil (hs _ _)) (hs _ _)) (ha σ H ρ S B0 B ow _ fr gi (g.bind fun d S1 v H1 _ ev1 gi1 gd1 g1 => ?_))
  unfold fEnumL at g1
  split at g1
  · cases gd1 with
    | lst h1 z1 r1 =>
      rename_i a1 vs
      refine ⟨a1, vs, rfl, .inl (.inl (fz_le _ _ h1)), g1.ok0 gi1 ⟨by rw [enumD_len, ← r1.length]; exact z1, fun B' H' e kn => ⟨fun i d hd => ?_, fun i hi => ?_⟩⟩⟩
      · obtain ⟨x, e1, rfl⟩ := enumD_get _ _ _ _ hd
        obtain ⟨v, hv, iv⟩ := r1.get e1
        have s1 : SqL c.X.K H' a1 vs := .inl (.inl (fz_le _ _ (e _ _ h1)))
        refine ⟨⟨vs, v, s1, hv⟩, fun q H3 ⟨T, x', e3, hT, e4, k1⟩ => ?_⟩
        subst e3 e4
        have q1 := k1 vs s1
        rw [hv] at q1
        cases q1
        rw [Int.zero_add]
        exact ⟨Ex.new hT, pair_is kn hT (.int _) (iv.mono e)⟩
      · rw [enumD_len, ← r1.length] at hi
        exact ⟨vs, .inl (.inl (fz_le _ _ (e _ _ h1))), hi⟩
  · exact absurd rfl g1.not_bad
theorem if_str (ha : EV c m a da) : IFo c m tg a (dIt strD da) := by
  intro σ H ρ S B0 B ow Q fr gi g
  refine WI.of (pi_str we) (ha σ H ρ S B0 B ow _ fr gi (g.bind fun d S1 v H1 _ ev1 gi1 gd1 g1 => ?_))
  unfold strD at g1
  split at g1
  · rename_i z _
    split at g1
    · rename_i hz
      cases gd1
      have el : (signsD z).length = z.cps.size := by unfold signsD; rw [List.length_map, Array.length_toList]
      refine ⟨z, rfl, g1.ok0 gi1 ⟨by rw [el]; exact sz_le hz, fun B' H' e kn => ⟨fun i d hd => ?_, fun i hi => by rw [el] at hi; exact hi⟩⟩⟩
      have hi : i < z.cps.size := by rw [← el]; exact (List.getElem?_eq_some_iff.mp hd).1
      refine ⟨hi, fun x H2 ⟨e2, cc, h1, h2⟩ => ?_⟩
      subst e2 h2
      unfold signsD at hd
      rw [List.getElem?_map, Array.getElem?_toList, h1] at hd
      cases hd
      exact ⟨Ex.refl _, .str _⟩
    · exact absurd rfl g1.not_bad
  · exact absurd rfl g1.not_bad
end
/-! ### targets -/
inductive Tg where
  | nm (i : Nat)
  | tup (is : List Nat)
def setAll (ρ : Env) : List Nat → List PyData → Option Env
  | [], [] => some ρ
  | i :: is, d :: ds => setAll (ρ.set i (some d)) is ds
  | _, _ => none
def Tg.bind (t : Tg) (d : PyData) (ρ : Env) : Option Env := match t with
  | .nm i => some (ρ.set i (some d))
  | .tup is => match d with
    | .tuple ds => setAll ρ is ds
    | _ => none
def Tg.slots : Tg → List Nat | .nm i => [i] | .tup is => is
def setMd (m : List Md) (is : List Nat) (k : Md) : List Md := is.foldl (fun m i => m.set i k) m
/-- what a target does -/
def TgOk (X : Cx) (t : Tg) (tg : Expr) : Prop := match t with
  | .nm i => PG X tg (gName i)
  | .tup is => PG X tg (gTup X.K is.length (is.foldr (fun i u => gCons (gName i) u) gNil))
section
variable {K : PySem.W.Frag} {g : Gx} {B0 B : List Addr} {ow : Addr → Nat} {m : List Md} {ρ : Env} {σ : L2.St} {H : Hp}
theorem getD_set {α : Type} {l : List (Option α)} {i j : Nat} {x : Option α} (hi : i < l.length) : (l.set i x).getD j none = if i = j then x else l.getD j none := by
  rw [List.getD_eq_getElem?_getD, List.getD_eq_getElem?_getD]
  by_cases h : i = j
  · subst h
    rw [if_pos rfl, List.getElem?_set_self hi]
    rfl
  · rw [if_neg h, List.getElem?_set_ne h]
/-- a slot takes a frozen value -/
theorem Frame.put (f : Frame K g B0 B ow m ρ σ H) {i : Nat} {v : V} {d : PyData} (hi : i < m.length) (h : Is K (Fz B H) v d) : Frame K g B0 B ow (m.set i .fz) (ρ.set i (some d)) (σ.set i (some v)) H := by
  have hρ : i < ρ.length := by rw [← f.lm]; exact hi
  have hσ : i < σ.length := by rw [f.ls]; exact hρ
  refine ⟨by simp [f.lm], by simp [f.ls], f.sub, f.gsub, fun j md hj => ?_⟩
  rw [getD_set hρ, getD_set hσ]
  by_cases e : i = j
  · subst e
    rw [List.getElem?_set_self hi] at hj
    cases hj
    rw [if_pos rfl, if_pos rfl]
    exact fun d' e => ⟨v, rfl, by cases e; exact h⟩
  · rw [List.getElem?_set_ne e] at hj
    rw [if_neg e, if_neg e]
    exact f.slot j md hj
/-- a slot is forgotten -/
theorem Frame.drop (f : Frame K g B0 B ow m ρ σ H) {i : Nat} {x : Option V} {y : Option PyData} (hi : i < m.length) : Frame K g B0 B ow (m.set i .un) (ρ.set i y) (σ.set i x) H := by
  have hρ : i < ρ.length := by rw [← f.lm]; exact hi
  have hσ : i < σ.length := by rw [f.ls]; exact hρ
  refine ⟨by simp [f.lm], by simp [f.ls], f.sub, f.gsub, fun j md hj => ?_⟩
  rw [getD_set hρ, getD_set hσ]
  by_cases e : i = j
  · subst e
    rw [List.getElem?_set_self hi] at hj
    cases hj
    trivial
  · rw [List.getElem?_set_ne e] at hj
    rw [if_neg e, if_neg e]
    exact f.slot j md hj
theorem Frame.unk (f : Frame K g B0 B ow m ρ σ H) {i : Nat} {x : Option V} (hi : i < m.length) : Frame K g B0 B ow (m.set i .un) ρ (σ.set i x) H := by
  have hρ : i < ρ.length := by rw [← f.lm]; exact hi
  have hσ : i < σ.length := by rw [f.ls]; exact hρ
  refine ⟨by simp [f.lm], by simp [f.ls], f.sub, f.gsub, fun j md hj => ?_⟩
  rw [getD_set hσ]
  by_cases e : i = j
  · subst e
    rw [List.getElem?_set_self hi] at hj
    cases hj
    trivial
  · rw [List.getElem?_set_ne e] at hj
    rw [if_neg e]
    exact f.slot j md hj
theorem Frame.wipe (f : Frame K g B0 B ow m ρ σ H) : ∀ (vs : List Nat), (∀ i ∈ vs, i < m.length) → Frame K g B0 B ow (vs.foldr (fun i m => m.set i .un) m) ρ (L2.wipe σ vs) H
  | [], _ => f
  | v :: vs, h => by
    have ih := Frame.wipe f vs fun i hi => h i (List.mem_cons_of_mem _ hi)
    refine ih.unk ?_
    rw [ih.lm, ← f.lm]
    exact h v (List.mem_cons_self ..)
theorem setMd_len : ∀ (is : List Nat) (m : List Md) (k : Md), (setMd m is k).length = m.length
  | [], m, k => rfl
  | i :: is, m, k => by
    show (setMd (m.set i k) is k).length = _
    rw [setMd_len is, List.length_set]
theorem put_all : ∀ (is : List Nat) {m : List Md} {ρ : Env} {σ : L2.St} {vs : List V} {ds : List PyData} {ρ' : Env} {Q : L2.St → Hp → Prop}, Frame K g B0 B ow m ρ σ H → (∀ i ∈ is, i < m.length) → IsAll K (Fz B H) vs ds → setAll ρ is ds = some ρ' →
    (∀ σ', Frame K g B0 B ow (setMd m is .fz) ρ' σ' H → (∃ ws : List V, ws.length = is.length ∧ σ' = (is.zip ws).foldl (fun s p => s.set p.1 (some p.2)) σ) → Q σ' H) → (is.foldr (fun i u => gCons (gName i) u) gNil) vs σ H Q
  | [], m, ρ, σ, vs, ds, ρ', Q, f, _, h, e, k => by
    cases ds with
    | nil =>
      cases h
      cases e
      exact ⟨rfl, k σ f ⟨[], rfl, rfl⟩⟩
    | cons d ds => cases e
  | i :: is, m, ρ, σ, vs, ds, ρ', Q, f, hi, h, e, k => by
    cases ds with
    | nil => cases e
    | cons d ds =>
      cases h with
      | cons h1 h2 =>
        rename_i v vs
        refine ⟨v, vs, rfl, ?_⟩
        refine put_all is (f.put (hi i (List.mem_cons_self ..)) h1) (fun j hj => by rw [List.length_set]; exact hi j (List.mem_cons_of_mem _ hj)) h2 e fun σ' f' ⟨ws, hw, e'⟩ => k σ' f' ⟨v :: ws, by simp [hw], by rw [e']; rfl⟩
end
theorem Tg.put {X : Cx} {t : Tg} {tg : Expr} {K : PySem.W.Frag} {g : Gx} {B0 B : List Addr} {ow : Addr → Nat} {m : List Md} {ρ ρ' : Env} {σ : L2.St} {H : Hp} {v : V} {d : PyData} {Q : L2.St → Hp → Prop} (hK : X.K = K) (f : Frame K g B0 B ow m ρ σ H) (hi : ∀ i ∈ t.slots, i < m.length) (h : Is K (Fz B H) v d) (e : t.bind d ρ = some ρ')
    (k : ∀ σ', Frame K g B0 B ow (setMd m t.slots .fz) ρ' σ' H → (∃ ws : List V, ws.length = t.slots.length ∧ σ' = (t.slots.zip ws).foldl (fun s p => s.set p.1 (some p.2)) σ) → Q σ' H) :
    (match t with | .nm i => gName i | .tup is => gTup X.K is.length (is.foldr (fun i u => gCons (gName i) u) gNil)) v σ H Q := by
  subst hK
  cases t with
  | nm i =>
    cases e
    exact k _ (f.put (hi i (List.mem_cons_self ..)) h) ⟨[v], rfl, rfl⟩
  | tup is =>
    cases d with
    | tuple ds =>
      cases h with
      | tup h1 z r =>
        rename_i a vs
        have hl : ds.length = is.length := by
          clear k hi f r h1 z
          unfold Tg.bind at e
          simp only at e
          induction is generalizing ρ ds with
          | nil => cases ds with
            | nil => rfl
            | cons _ _ => cases e
          | cons i is ih => cases ds with
            | nil => cases e
            | cons d ds => simp [ih (ρ := ρ.set i (some d)) (ds := ds) e]
        exact ⟨a, vs, rfl, fz_le.t h1, by rw [r.length, hl], put_all is f hi r e k⟩
    | _ => cases e
end PD
/-! PDi: list comprehensions. -/
namespace PD
open PySem PySem.Spec PyProof.Rows L2
theorem wipe_in {σ : L2.St} {i : Nat} : ∀ {vs : List Nat}, i ∈ vs → (L2.wipe σ vs)[i]? = if i < σ.length then some none else none
  | [], h => by simp at h
  | v :: vs, h => by
    unfold L2.wipe
    by_cases e : v = i
    · subst e
      by_cases hv : v < σ.length
      · rw [if_pos hv, List.getElem?_set_self (by rw [wipe_length]; exact hv)]
      · rw [if_neg hv, List.getElem?_eq_none (by rw [List.length_set, wipe_length]; omega)]
    · rw [List.getElem?_set_ne e]
      exact wipe_in ((List.mem_cons.mp h).resolve_left (Ne.symm e))
theorem wipe_eq {σ τ : L2.St} {vs : List Nat} (hl : τ.length = σ.length) (h : ∀ i, i ∉ vs → τ[i]? = σ[i]?) : L2.wipe τ vs = L2.wipe σ vs := by
  apply List.ext_getElem?
  intro i
  by_cases hi : i ∈ vs
  · rw [wipe_in hi, wipe_in hi, hl]
  · rw [L2.wipe_out hi, L2.wipe_out hi, h i hi]
theorem fold_set_out : ∀ (ps : List (Nat × V)) (σ : L2.St) {i : Nat}, (∀ p ∈ ps, p.1 ≠ i) → (ps.foldl (fun s p => s.set p.1 (some p.2)) σ)[i]? = σ[i]?
  | [], σ, i, _ => rfl
  | p :: ps, σ, i, h => by
    show (ps.foldl _ (σ.set p.1 (some p.2)))[i]? = _
    rw [fold_set_out ps _ fun q hq => h q (List.mem_cons_of_mem _ hq), List.getElem?_set_ne (h p (List.mem_cons_self ..))]
theorem fold_set_len : ∀ (ps : List (Nat × V)) (σ : L2.St), (ps.foldl (fun s p => s.set p.1 (some p.2)) σ).length = σ.length
  | [], σ => rfl
  | p :: ps, σ => by
    show (ps.foldl _ (σ.set p.1 (some p.2))).length = _
    rw [fold_set_len ps, List.length_set]
theorem wipe_put {σ : L2.St} {vs is : List Nat} {ws : List V} (h : ∀ i ∈ is, i ∈ vs) : L2.wipe ((is.zip ws).foldl (fun s p => s.set p.1 (some p.2)) (L2.wipe σ vs)) vs = L2.wipe σ vs := by
  refine (wipe_eq (σ := L2.wipe σ vs) (by rw [fold_set_len]) fun i hi => fold_set_out _ _ fun p hp e => hi (by rw [← e]; exact h _ (List.of_mem_zip hp).1)).trans ?_
  exact wipe_eq (wipe_length _ _) fun i hi => L2.wipe_out hi
def compL (t : Tg) (tt : DT) (de : DE) (ρ : Env) : List PyData → List PyData → Store → R PyData
  | acc, [], S => .ok (.list acc) S
  | acc, d :: ds, S => match t.bind d ρ with
    | none => .bad
    | some ρ1 => (tt ρ1 S).calm.bind fun b S1 => if b = true then (de ρ1 S1).calm.bind fun x S2 => compL t tt de ρ (acc ++ [x]) ds S2 else compL t tt de ρ acc ds S1
theorem compL_nil (t : Tg) (tt : DT) (de : DE) (ρ : Env) (acc : List PyData) (S : Store) : compL t tt de ρ acc [] S = .ok (.list acc) S := rfl
theorem compL_cons (t : Tg) (tt : DT) (de : DE) (ρ : Env) (acc : List PyData) (d : PyData) (ds : List PyData) (S : Store) : compL t tt de ρ acc (d :: ds) S = match t.bind d ρ with
    | none => .bad
    | some ρ1 => (tt ρ1 S).calm.bind fun b S1 => if b = true then (de ρ1 S1).calm.bind fun x S2 => compL t tt de ρ (acc ++ [x]) ds S2 else compL t tt de ρ acc ds S1 := rfl
def dComp (di : DI) (t : Tg) (tt : DT) (de : DE) : DE := fun ρ S => (di ρ S).bind fun ds S1 => compL t tt de ρ [] ds S1
def dYes : DT := fun _ S => .ok true S
def blkM (m : List Md) (vs : List Nat) : List Md := vs.foldr (fun i m => m.set i .un) m
theorem blkM_len : ∀ (m : List Md) (vs : List Nat), (blkM m vs).length = m.length
  | m, [] => rfl
  | m, v :: vs => by
    show ((blkM m vs).set v .un).length = _
    rw [List.length_set, blkM_len]
/-- the contexts of a block -/
abbrev Cc.in (c : Cc) (scope : Scope) (s : Shared) (H : Hp) (C : Addr) (cl : List (Str × Addr)) (fp : List Addr) : Cc := ⟨c.g, c.X.blk s H scope (compEnvC scope cl C c.X.env) fp, fun _ _ _ _ => False⟩
/-- a list under construction stands at D -/
theorem Frame.under {K : PySem.W.Frag} {g : Gx} {B0 B : List Addr} {ow : Addr → Nat} {m : List Md} {ρ : Env} {σ : L2.St} {H H' : Hp} {D : Addr} (f : Frame K g B0 B ow m ρ σ H) (e : Ex (Fz B H) (Fz (D :: B) H')) (ev : Evo g.G H H') : Frame K g B0 (D :: B) ow m ρ σ H' :=
  ⟨f.lm, f.ls, fun a h => List.mem_cons_of_mem _ (f.sub a h), f.gsub, fun i md h => (f.slot i md h).step e (fun a h => List.mem_cons_of_mem _ h.1) fun a o h q => ev a o (fun z => h.2.1 (f.gsub a z)) q⟩
theorem GI.under {K : PySem.W.Frag} {g : Gx} {B : List Addr} {H : Hp} {S : Store} {D : Addr} {o : HO} (i : GI K g B H S) (hD : H D = none) : GI K g (D :: B) (upd H D o) S := by
  have e : Ex (Fz B H) (Fz (D :: B) (upd H D o)) := fun a u q => by
    have q := fz_some.mp q
    have ne : a ≠ D := ne_of_none q.2 hD
    exact fz_some.mpr ⟨fun z => (List.mem_cons.mp z).elim ne q.1, (Ex.new hD) a u q.2⟩
  refine ⟨Paired.imp i.st fun p xs ⟨vs, a, z, b⟩ => ⟨vs, (Ex.new hD) _ _ a, z, b.mono e⟩, i.tabs.ext (Ex.new hD), fun a ha => List.mem_cons_of_mem _ (i.sub a ha), fun a ha => ?_, i.nd, fun l hl => ⟨(Ex.new hD) _ _ (i.cd l hl).1, (i.cd l hl).2.trans e⟩⟩
  rcases List.mem_cons.mp ha with rfl | ha
  · rw [upd_same]; intro z; cases z
  · intro z
    exact i.kn a ha ((Ex.new hD).free z)
theorem fz_upd {B : List Addr} {H : Hp} {D : Addr} {o : HO} (h : D ∈ B) : Fz B (upd H D o) = Fz B H := by
  funext a
  unfold Fz
  by_cases e : a = D
  · subst e; rw [if_pos h, if_pos h]
  · rw [upd_ne e]
/-- the list under construction grows -/
theorem GI.grow {K : PySem.W.Frag} {g : Gx} {B : List Addr} {H : Hp} {S : Store} {D : Addr} {o : HO} (i : GI K g B H S) (hD : D ∈ B) (hG : D ∉ g.G) (hl : ∀ q, H D ≠ some (LamX.CodeO D q)) : GI K g B (upd H D o) S := by
  have hs : ∀ p, p ∈ g.G → p ≠ D := fun p hp e => hG (e ▸ hp)
  refine ⟨?_, ?_, i.sub, fun a ha => ?_, i.nd, fun l hl' => ⟨?_, by rw [fz_upd hD]; exact (i.cd l hl').2⟩⟩
  rotate_left 3
  · by_cases e : l.cc = D
    · exact absurd (e ▸ (i.cd l hl').1) (hl _)
    · rw [upd_ne e]; exact (i.cd l hl').1
  · have aux : ∀ {l₁ : List Addr} {l₂ : Store}, (∀ p ∈ l₁, p ∈ g.G) → Paired (fun (p : Addr) (xs : List PyData) => ∃ vs, H p = some (.lst vs) ∧ vs.length ≤ sizeLine ∧ IsAll K (Fz B H) vs xs) l₁ l₂ →
        Paired (fun (p : Addr) (xs : List PyData) => ∃ vs, upd H D o p = some (.lst vs) ∧ vs.length ≤ sizeLine ∧ IsAll K (Fz B (upd H D o)) vs xs) l₁ l₂ := by
      intro l₁ l₂ hm h
      induction h with
      | nil => exact .nil
      | cons r t ih =>
        obtain ⟨vs, a, z, b⟩ := r
        refine .cons ⟨vs, by rw [upd_ne (hs _ (hm _ (List.mem_cons_self ..)))]; exact a, z, by rw [fz_upd hD]; exact b⟩ (ih fun p hp => hm p (List.mem_cons_of_mem _ hp))
    exact aux (fun p hp => List.mem_append_left _ hp) i.st
  · intro p hp
    have hpG : p.1 ∈ g.G := List.mem_append_right _ (List.mem_map.mpr ⟨p, hp, rfl⟩)
    obtain ⟨ps, h1, h2, h3⟩ := i.tabs p hp
    refine ⟨ps, by rw [upd_ne (hs _ hpG)]; exact h1, h2, fun pos cv hc => ?_⟩
    obtain ⟨cc, e1, e2⟩ := h3 pos cv hc
    refine ⟨cc, e1, ?_⟩
    by_cases ec : cc = D
    · rw [ec] at e2
      exact absurd e2 (hl _)
    · rw [upd_ne ec]; exact e2
  · by_cases e : a = D
    · subst e; rw [upd_same]; intro z; cases z
    · rw [upd_ne e]; exact i.kn a ha
theorem lst_code {H : Hp} {D : Addr} {vs : List V} (h : H D = some (.lst vs)) (q : Str) : H D ≠ some (LamX.CodeO D q) := fun z => by
  rw [h] at z
  unfold LamX.CodeO at z
  cases z
section
variable {c : Cc} {m : List Md} {elt tg iter : Expr} {ifs : List Expr} {scope : Scope} {own : List (Str × Nat)} {pos : Pos} {di : DI} {t : Tg} {tt : DT} {de : DE}
/-- the target's reading -/
def gT (K : PySem.W.Frag) (t : Tg) : TG := match t with | .nm i => gName i | .tup is => gTup K is.length (is.foldr (fun i u => gCons (gName i) u) gNil)
theorem comp_read (hi : ICo c m tg iter di) (hsub : ∀ i ∈ t.slots, i ∈ own.map (·.2)) (hlen : ∀ i ∈ own.map (·.2), i < m.length)
    {ttw : TT} {tew : TE}
    (ht : ∀ {σ H ρ S B0 B ow Q}, Frame c.X.K c.g B0 B ow (setMd (blkM m (own.map (·.2))) t.slots .fz) ρ σ H → GI c.X.K c.g B H S → (∀ d S' v H', tt ρ S = .ok d S' → Evo c.g.G H H' → GI c.X.K c.g B H' S' → v = d → Q v H') → tt ρ S ≠ .bad → (∀ x S', tt ρ S ≠ .exc x S') → ttw σ H Q)
    (he : ∀ {σ H ρ S B0 B ow Q}, Frame c.X.K c.g B0 B ow (setMd (blkM m (own.map (·.2))) t.slots .fz) ρ σ H → GI c.X.K c.g B H S → (∀ d S' v H', de ρ S = .ok d S' → Evo c.g.G H H' → GI c.X.K c.g B H' S' → Is c.X.K (Fz B H') v d → Q v H') → de ρ S ≠ .bad → (∀ x S', de ρ S ≠ .exc x S') → tew σ H Q)
    {σ : L2.St} {H : Hp} {ρ : Env} {S : Store} {B0 B : List Addr} {ow : Addr → Nat} {Q : VK} (fr : Frame c.X.K c.g B0 B ow m ρ σ H) (gi : GI c.X.K c.g B H S)
    (g : Goal c B H σ (dComp di t tt de ρ S) (fun S' H' v d => ∃ p, v = .ref p ∧ H p = none ∧ Top c.X.K (p :: B) H' p d ∧ GI c.X.K c.g (p :: B) H' S') Q) : tLc (WI c.X tg iter) (gT c.X.K t) ttw tew (own.map (·.2)) σ H Q := by
  refine hi σ H ρ S B0 B ow _ fr gi (g.bind (G1 := fun _ H' J ds => ItC c.X.K c.g.G B H' J ds) fun ds S1 J H1 _ ev1 gi1 it g1 => ?_)
  intro D hD
  have nG : D ∉ c.g.G := fun z => gi1.kn D (gi1.sub D z) hD
  have nB : D ∉ B := new_notin gi1.kn hD
  -- what holds between two turns
  refine ⟨fun i k H2 => k = ds.length - i ∧ i ≤ ds.length ∧ ∃ (acc : List PyData) (vs : List V) (S2 : Store), Evo c.g.G H1 H2 ∧ Ex (Fz B H1) (Fz (D :: B) H2) ∧ GI c.X.K c.g (D :: B) H2 S2 ∧ H2 D = some (.lst vs) ∧ vs.length ≤ i ∧ IsAll c.X.K (Fz (D :: B) H2) vs acc ∧
    compL t tt de ρ [] ds S1 = compL t tt de ρ acc (ds.drop i) S2, ⟨ds.length, by simp, Nat.zero_le _, [], [], S1, (Ex.new hD).evo, ?_, gi1.under hD, upd_same, Nat.le_refl _, .nil, rfl⟩, ?_⟩
  · exact fun a u q => by
      have q := fz_some.mp q
      have ne : a ≠ D := ne_of_none q.2 hD
      exact fz_some.mpr ⟨fun z => (List.mem_cons.mp z).elim ne q.1, (Ex.new hD) a u q.2⟩
  · rintro i k H2 ⟨rfl, hi2, acc, vs, S2, ev2, ex2, gi2, hl, hvl, ia, eq⟩
    obtain ⟨go, stop⟩ := it.2 (D :: B) H2 ev2 ex2 gi2.kn
    by_cases hlt : i < ds.length
    · refine .inr ⟨(go i ds[i] (List.getElem?_eq_getElem hlt)).1, fun H3 => ∃ (acc : List PyData) (vs : List V) (S3 : Store), Evo c.g.G H1 H3 ∧ Ex (Fz B H1) (Fz (D :: B) H3) ∧ GI c.X.K c.g (D :: B) H3 S3 ∧ H3 D = some (.lst vs) ∧ vs.length ≤ i + 1 ∧ IsAll c.X.K (Fz (D :: B) H3) vs acc ∧
        compL t tt de ρ [] ds S1 = compL t tt de ρ acc (ds.drop (i + 1)) S3, fun H3 h3 => ⟨ds.length - (i + 1), by omega, rfl, hlt, h3⟩, fun x H3 hy => ?_⟩
      obtain ⟨ex3, ix⟩ := (go i ds[i] (List.getElem?_eq_getElem hlt)).2 x H3 hy
      rw [List.drop_eq_getElem_cons hlt, compL_cons] at eq
      have gi3 := gi2.ex ex3
      have ev3 : Evo c.g.G H1 H3 := ev2.trans ex3.evo
      have exB3 : Ex (Fz B H1) (Fz (D :: B) H3) := ex2.trans ex3.fz
      cases eb : t.bind ds[i] ρ with
      | none =>
        rw [eb] at eq
        exact absurd (by rw [eq]) g1.not_bad
      | some ρ1 =>
        rw [eb] at eq
        simp only at eq
        have fr3 : Frame c.X.K c.g B0 (D :: B) ow (blkM m (own.map (·.2))) ρ (L2.wipe σ (own.map (·.2))) H3 := ((fr.evo ev1).under exB3 ev3).wipe _ hlen
        refine Tg.put (X := c.X) (t := t) (tg := tg) rfl fr3 (fun j hj => by rw [blkM_len]; exact hlen j (hsub j hj)) ix eb fun σ2 fr4 ⟨ws, hws, e2⟩ => ?_
        refine ⟨by rw [e2]; exact wipe_put hsub, ?_⟩
        refine ht fr4 gi3 (fun b S4 v H4 eb4 ev4 gi4 ev => ?_) (fun z => ?_) (fun x' S' z => ?_)
        · subst ev
          rw [eb4] at eq
          simp only [R.calm_ok, R.bind_ok] at eq
          cases v with
          | true =>
            rw [if_pos rfl] at eq
            rw [if_pos rfl]
            refine he (fr4.evo ev4) gi4 (fun d S5 y H5 ed ev5 gi5 iy => ?_) (fun z => ?_) (fun x' S' z => ?_)
            · rw [ed] at eq
              simp only [R.calm_ok, R.bind_ok] at eq
              have hD5 : H5 D = some (.lst vs) := ev5 D _ nG (ev4 D _ nG (ex3 D _ hl))
              have zz : vs.length < sizeLine := by have := it.1; omega
              have exB5 : Ex (Fz B H1) (Fz (D :: B) H5) := (exB3.trans (ev4.fz gi4.sub)).trans (ev5.fz gi5.sub)
              refine ⟨vs, hD5, zz, acc ++ [d], vs ++ [y], S5, fun a o n q => ?_, ?_, gi5.grow (List.mem_cons_self ..) nG (lst_code hD5), upd_same, by rw [List.length_append]; simp; omega, ?_, eq⟩
              · rw [upd_ne (ne_of_none q hD)]
                exact ev5 a o n (ev4 a o n (ev3 a o n q))
              · rw [fz_upd (List.mem_cons_self ..)]
                exact exB5
              · rw [fz_upd (List.mem_cons_self ..)]
                exact ((ia.mono ex3.fz).mono ((ev4.fz gi4.sub).trans (ev5.fz gi5.sub))).append (.cons iy .nil)
            · rw [z] at eq
              exact g1.not_bad eq
            · rw [z] at eq
              exact g1.not_bad eq
          | false =>
            rw [if_neg (by simp)] at eq
            rw [if_neg (by simp)]
            have hD4 : H4 D = some (.lst vs) := ev4 D _ nG (ex3 D _ hl)
            exact ⟨acc, vs, S4, ev3.trans ev4, exB3.trans (ev4.fz gi4.sub), gi4, hD4, by omega, (ia.mono ex3.fz).mono (ev4.fz gi4.sub), eq⟩
        · rw [z] at eq
          exact g1.not_bad eq
        · rw [z] at eq
          exact g1.not_bad eq
    · have e : i = ds.length := by omega
      subst e
      refine .inl ⟨stop _ (Nat.le_refl _), ?_⟩
      rw [List.drop_length, compL_nil] at eq
      rw [eq] at g1
      refine g1.ok ev2 (gi2.less (fun a ha => List.mem_cons_of_mem _ ha) gi1.sub) ⟨D, rfl, free_back ev1 gi1 hD, .inl ⟨acc, vs, rfl, hl, by have := it.1; omega, ia⟩, gi2⟩
/-- the block's contexts ask nothing of exceptions -/
theorem goal_in {α β : Type} {X' : Cx} {B : List Addr} {H : Hp} {σ : L2.St} {r : R α} {Good : Store → Hp → β → α → Prop} {Q : β → Hp → Prop} {g : Gx} (hK : X'.K = c.X.K) (h1 : ∀ d S' v H', r = .ok d S' → Evo g.G H H' → GI c.X.K g B H' S' → Good S' H' v d → Q v H') (h2 : r ≠ .bad) (h3 : ∀ x S', r ≠ .exc x S') : Goal ⟨g, X', fun _ _ _ _ => False⟩ B H σ r Good Q :=
  ⟨fun d S' v H' e ev gi gd => h1 d S' v H' e ev (hK ▸ gi) gd, fun x S' e => absurd e (h3 x S'), h2⟩
theorem eo_lc (hc : c.X.calm = true) (hN : c.X.N.Nodup) (hi : ICo c m tg iter di) (ok : BlkOk c.X.N c.X.env.scope scope own) (hsub : ∀ i ∈ t.slots, i ∈ own.map (·.2)) (hlen : ∀ i ∈ own.map (·.2), i < m.length)
    (hg : ∀ s H C cl fp, PG (c.in scope s H C cl fp).X tg (gT c.X.K t)) (he : ∀ s H C cl fp, EV (c.in scope s H C cl fp) (setMd (blkM m (own.map (·.2))) t.slots .fz) elt de)
    (hs : ∀ x, foldedSetIterable iter c.X.env x = pure x := by intro _; rfl) : EO c m (.ListComp elt [⟨tg, iter, [], 0⟩] scope pos) (dComp di t dYes de) := by
  intro σ H ρ S B0 B ow Q fr gi g
  refine PD.WE.of (pe_lc (tt := tYes) (te := fun σ H Q => ∀ s H0 C cl fp, PD.WE (c.in scope s H0 C cl fp).X elt σ H Q) hc hN wi ok hg (fun _ _ _ _ _ => pts_nil) (fun s H0 C cl fp => ⟨fun pins s' σ H Q I h => (h s H0 C cl fp).go pins s' I⟩) hs) ?_
  refine comp_read hi hsub hlen (fun {σ H ρ S B0 B ow Q} fr gi h _ _ => h true S true H rfl (Evo.refl _ _) gi rfl) (fun {σ H ρ S B0 B ow Q} fr gi h h2 h3 s H0 C cl fp => ?_) fr gi g
  exact he s H0 C cl fp σ H ρ S B0 B ow Q fr gi (goal_in rfl h h2 h3)
theorem eo_lcIf {q : Expr} (hc : c.X.calm = true) (hN : c.X.N.Nodup) (hi : ICo c m tg iter di) (ok : BlkOk c.X.N c.X.env.scope scope own) (hsub : ∀ i ∈ t.slots, i ∈ own.map (·.2)) (hlen : ∀ i ∈ own.map (·.2), i < m.length)
    (hg : ∀ s H C cl fp, PG (c.in scope s H C cl fp).X tg (gT c.X.K t)) (ht : ∀ s H C cl fp, ET (c.in scope s H C cl fp) (setMd (blkM m (own.map (·.2))) t.slots .fz) q tt) (he : ∀ s H C cl fp, EV (c.in scope s H C cl fp) (setMd (blkM m (own.map (·.2))) t.slots .fz) elt de)
    (hs : ∀ x, foldedSetIterable iter c.X.env x = pure x := by intro _; rfl) : EO c m (.ListComp elt [⟨tg, iter, [q], 0⟩] scope pos) (dComp di t tt de) := by
  intro σ H ρ S B0 B ow Q fr gi g
  refine PD.WE.of (pe_lc (tt := fun σ H Q => ∀ s H0 C cl fp, WT (c.in scope s H0 C cl fp).X q σ H Q) (te := fun σ H Q => ∀ s H0 C cl fp, PD.WE (c.in scope s H0 C cl fp).X elt σ H Q) hc hN wi ok hg (fun s H0 C cl fp => pts_one ⟨fun pins s' σ H Q I h => (h s H0 C cl fp).go pins s' I⟩) (fun s H0 C cl fp => ⟨fun pins s' σ H Q I h => (h s H0 C cl fp).go pins s' I⟩) hs) ?_
  refine comp_read hi hsub hlen (fun {σ H ρ S B0 B ow Q} fr gi h h2 h3 s H0 C cl fp => ?_) (fun {σ H ρ S B0 B ow Q} fr gi h h2 h3 s H0 C cl fp => ?_) fr gi g
  · exact ht s H0 C cl fp σ H ρ S B0 B ow Q fr gi (goal_in rfl h h2 h3)
  · exact he s H0 C cl fp σ H ρ S B0 B ow Q fr gi (goal_in rfl h h2 h3)
end
end PD
/-! PDj: statements. -/
namespace PD
open PySem PySem.Spec PyProof.Rows L2
inductive RS where
  | nx (ρ : Env) (S : Store)
  | ret (d : PyData) (S : Store)
  | brk (ρ : Env) (S : Store)
  | exc (x : Xc) (ρ : Env) (S : Store)
  | bad
abbrev DS := Env → Store → RS
def RS.bind (r : RS) (f : Env → Store → RS) : RS := match r with
  | .nx ρ S => f ρ S
  | r => r
/-- an expression's result in a statement -/
def R.st {α : Type} (r : R α) (ρ : Env) (f : α → Store → RS) : RS := match r with
  | .ok a S => f a S
  | .exc x S => .exc x ρ S
  | .bad => .bad
@[simp] theorem RS.bind_nx (ρ : Env) (S : Store) (f : Env → Store → RS) : (RS.nx ρ S).bind f = f ρ S := rfl
@[simp] theorem RS.bind_ret (d : PyData) (S : Store) (f : Env → Store → RS) : (RS.ret d S).bind f = .ret d S := rfl
@[simp] theorem RS.bind_brk (ρ : Env) (S : Store) (f : Env → Store → RS) : (RS.brk ρ S).bind f = .brk ρ S := rfl
@[simp] theorem RS.bind_exc (x : Xc) (ρ : Env) (S : Store) (f : Env → Store → RS) : (RS.exc x ρ S).bind f = .exc x ρ S := rfl
@[simp] theorem RS.bind_bad (f : Env → Store → RS) : RS.bad.bind f = .bad := rfl
@[simp] theorem R.st_ok {α : Type} (a : α) (S : Store) (ρ : Env) (f : α → Store → RS) : (R.ok a S).st ρ f = f a S := rfl
@[simp] theorem R.st_exc {α : Type} (x : Xc) (S : Store) (ρ : Env) (f : α → Store → RS) : (R.exc x S : R α).st ρ f = .exc x ρ S := rfl
@[simp] theorem R.st_bad {α : Type} (ρ : Env) (f : α → Store → RS) : (R.bad : R α).st ρ f = .bad := rfl
/-- where a statement stands: the frame, and what was at the def's entry He -/
structure In (c : Cc) (He : Hp) (B0 B : List Addr) (ow : Addr → Nat) (m : List Md) (ρ : Env) (σ : L2.St) (H : Hp) (S : Store) : Prop where
  fr : Frame c.X.K c.g B0 B ow m ρ σ H
  gi : GI c.X.K c.g B H S
  ev : Evo c.g.G He H
  nw : ∀ p ∈ B, p ∉ B0 → He p = none
/-- what is known of the slots where an exception lies -/
def MxOk (K : PySem.W.Frag) (g : Gx) (B0 B : List Addr) (ow : Addr → Nat) (mx : Option (List Md)) (ρ : Env) (σ : L2.St) (H : Hp) : Prop := match mx with
  | none => True
  | some m => Frame K g B0 B ow m ρ σ H
/-- how a def hands back, what modes stand at a break, at an exception -/
structure Fx where
  fr : Bool
  mb : List Md
  mx : Option (List Md)
structure Wants (c : Cc) (x : Fx) (He : Hp) (B0 B : List Addr) (H : Hp) (m' : List Md) (r : RS) (D : Ends) : Prop where
  nx : ∀ ρ' S', r = .nx ρ' S' → ∀ σ' H' B' ow', In c He B0 B' ow' m' ρ' σ' H' S' → Ex (Fz B H) (Fz B' H') → D.nx σ' H'
  rt : ∀ d S', r = .ret d S' → ∀ v H', Evo c.g.G He H' → GI c.X.K c.g B0 H' S' → ResOk c.X.K c.g x.fr B0 He H' S' v d → D.rt v H'
  bk : ∀ ρ' S', r = .brk ρ' S' → ∀ σ' H' B' ow', In c He B0 B' ow' x.mb ρ' σ' H' S' → Ex (Fz B H) (Fz B' H') → D.bk σ' H'
  ex : ∀ xc ρ' S', r = .exc xc ρ' S' → ∀ σ' H' B' ow' cls dd, MxOk c.X.K c.g B0 B' ow' x.mx ρ' σ' H' → GI c.X.K c.g B' H' S' → Evo c.g.G He H' → (∀ p ∈ B', p ∉ B0 → He p = none) → (∀ a ∈ B0, a ∈ B') → Ex (Fz B H) (Fz B' H') → XcRep c.X.K c.X.mg (Fz B' H') xc cls dd → c.W cls dd σ' H'
  nb : r ≠ .bad
def SV (c : Cc) (x : Fx) (m m' : List Md) (st : Stmt) (den : DS) : Prop := ∀ He B0 B ow ρ σ H S D, In c He B0 B ow m ρ σ H S → Wants c x He B0 B H m' (den ρ S) D → WS c.X st D σ H
def SVs (c : Cc) (x : Fx) (m m' : List Md) (st : List Stmt) (den : DS) : Prop := ∀ He B0 B ow ρ σ H S D, In c He B0 B ow m ρ σ H S → Wants c x He B0 B H m' (den ρ S) D → WSs c.X st D σ H
/-- the modes at a place bear those at an exception -/
def Wk (m m' : List Md) : Bool := decide (m.length = m'.length) && (List.range m.length).all fun i => decide (m'[i]? = some .un) || decide (m'[i]? = m[i]?)
def WkX (m : List Md) (mx : Option (List Md)) : Bool := match mx with | none => true | some m' => Wk m m'
theorem Frame.weak {K : PySem.W.Frag} {g : Gx} {B0 B : List Addr} {ow : Addr → Nat} {m m' : List Md} {ρ : Env} {σ : L2.St} {H : Hp} (f : Frame K g B0 B ow m ρ σ H) (h : Wk m m' = true) : Frame K g B0 B ow m' ρ σ H := by
  unfold Wk at h
  rw [Bool.and_eq_true] at h
  have hl := of_decide_eq_true h.1
  refine ⟨by rw [← hl]; exact f.lm, f.ls, f.sub, f.gsub, fun i md hi => ?_⟩
  have hlt : i < m.length := by rw [hl]; exact (List.getElem?_eq_some_iff.mp hi).1
  have q := List.all_eq_true.mp h.2 i (List.mem_range.mpr hlt)
  rw [Bool.or_eq_true, decide_eq_true_eq, decide_eq_true_eq] at q
  rcases q with q | q
  · rw [hi] at q
    cases q
    trivial
  · exact f.slot i md (by rw [← q]; exact hi)
theorem MxOk.of {K : PySem.W.Frag} {g : Gx} {B0 B : List Addr} {ow : Addr → Nat} {m : List Md} {mx : Option (List Md)} {ρ : Env} {σ : L2.St} {H : Hp} (f : Frame K g B0 B ow m ρ σ H) (h : WkX m mx = true) : MxOk K g B0 B ow mx ρ σ H := by
  cases mx with
  | none => trivial
  | some m' => exact f.weak h
section
variable {c : Cc} {x : Fx} {m m' m1 m2 : List Md} {He : Hp} {B0 B : List Addr} {ow : Addr → Nat} {ρ : Env} {σ : L2.St} {H : Hp} {S : Store} {D : Ends}
/-- an expression's exception in a statement -/
theorem xok {α : Type} {r : R α} {f : α → Store → RS} (i : In c He B0 B ow m ρ σ H S) (hx : WkX m x.mx = true) (w : Wants c x He B0 B H m' (r.st ρ f) D) (xc : Xc) (S' : Store) (e : r = .exc xc S') : XOk c B H σ xc S' := fun cls dd H' ev gi xr =>
  w.ex xc ρ S' (by rw [e]; rfl) σ H' B ow cls dd (MxOk.of (i.fr.evo ev) hx) gi (i.ev.trans ev) i.nw i.fr.sub (ev.fz i.gi.sub) xr
/-- what an expression asks within a statement -/
theorem goalS {α β : Type} {r : R α} {f : α → Store → RS} {Good : Store → Hp → β → α → Prop} {Q : β → Hp → Prop} (i : In c He B0 B ow m ρ σ H S) (hx : WkX m x.mx = true) (w : Wants c x He B0 B H m' (r.st ρ f) D)
    (k : ∀ d S' v H', r = .ok d S' → Evo c.g.G H H' → In c He B0 B ow m ρ σ H' S' → Wants c x He B0 B H' m' (f d S') D → Good S' H' v d → Q v H') : Goal c B H σ r Good Q := by
  refine ⟨fun d S' v H' e ev gi gd => k d S' v H' e ev ⟨i.fr.evo ev, gi, i.ev.trans ev, i.nw⟩ ?_ gd, fun xc S' e => xok i hx w xc S' e, fun e => w.nb (by rw [e]; rfl)⟩
  rw [e] at w
  exact ⟨fun ρ' S'' e' σ' H'' B' ow' i' ex => w.nx ρ' S'' e' σ' H'' B' ow' i' ((ev.fz gi.sub).trans ex), w.rt, fun ρ' S'' e' σ' H'' B' ow' i' ex => w.bk ρ' S'' e' σ' H'' B' ow' i' ((ev.fz gi.sub).trans ex), fun xc ρ' S'' e' σ' H'' B' ow' cls dd m1 g1 e1 n1 s1 ex xr => w.ex xc ρ' S'' e' σ' H'' B' ow' cls dd m1 g1 e1 n1 s1 ((ev.fz gi.sub).trans ex) xr, w.nb⟩
/-- the modes weaken -/
theorem Wants.from {B' : List Addr} {H' : Hp} {r : RS} (w : Wants c x He B0 B H m' r D) (e : Ex (Fz B H) (Fz B' H')) : Wants c x He B0 B' H' m' r D :=
  ⟨fun ρ' S'' e' σ' H'' B2 ow' i' ex => w.nx ρ' S'' e' σ' H'' B2 ow' i' (e.trans ex), w.rt, fun ρ' S'' e' σ' H'' B2 ow' i' ex => w.bk ρ' S'' e' σ' H'' B2 ow' i' (e.trans ex), fun xc ρ' S'' e' σ' H'' B2 ow' cls dd m1 g1 e1 n1 s1 ex xr => w.ex xc ρ' S'' e' σ' H'' B2 ow' cls dd m1 g1 e1 n1 s1 (e.trans ex) xr, w.nb⟩
def dNx : DS := fun ρ S => .nx ρ S
def dBrk : DS := fun ρ S => .brk ρ S
/-- one behind the other -/
def dSeq (a b : DS) : DS := fun ρ S => (a ρ S).bind b
theorem svs_nil : SVs c x m m [] dNx := fun He B0 B ow ρ σ H S D i w => WSs.of pss_nil (w.nx ρ S rfl σ H B ow i (Ex.refl _))
theorem svs_cons {st : Stmt} {rest : List Stmt} {d1 d2 : DS} (h1 : SV c x m m1 st d1) (h2 : SVs c x m1 m2 rest d2) : SVs c x m m2 (st :: rest) (dSeq d1 d2) := by
  intro He B0 B ow ρ σ H S D i w
  unfold dSeq at w
  refine WSs.of (pss_cons ws wss) ?_
  refine h1 He B0 B ow ρ σ H S _ i ⟨fun ρ' S' e σ' H' B' ow' i' ex => ?_, fun d S' e => w.rt d S' (by simp only [e]; rfl), fun ρ' S' e => w.bk ρ' S' (by simp only [e]; rfl), fun xc ρ' S' e => w.ex xc ρ' S' (by simp only [e]; rfl), fun e => w.nb (by simp only [e]; rfl)⟩
  simp only [e, RS.bind_nx] at w
  exact h2 He B0 B' ow' ρ' σ' H' S' D i' (w.from ex)
theorem svs_one {st : Stmt} {d1 : DS} (h1 : SV c x m m1 st d1) : SVs c x m m1 [st] d1 := fun He B0 B ow ρ σ H S D i w => WSs.of (pss_one ws) (h1 He B0 B ow ρ σ H S D i w)
/-- slots are forgotten ahead -/
theorem sv_weak {st : Stmt} {d : DS} (h : Wk m m1 = true) (h1 : SV c x m1 m2 st d) : SV c x m m2 st d := fun He B0 B ow ρ σ H S D i w => h1 He B0 B ow ρ σ H S D ⟨i.fr.weak h, i.gi, i.ev, i.nw⟩ w
theorem svs_weak {st : List Stmt} {d : DS} (h : Wk m m1 = true) (h1 : SVs c x m1 m2 st d) : SVs c x m m2 st d := fun He B0 B ow ρ σ H S D i w => h1 He B0 B ow ρ σ H S D ⟨i.fr.weak h, i.gi, i.ev, i.nw⟩ w
/-- .. behind -/
theorem svs_weakB {st : List Stmt} {d : DS} (h : Wk m1 m2 = true) (h1 : SVs c x m m1 st d) : SVs c x m m2 st d := fun He B0 B ow ρ σ H S D i w => h1 He B0 B ow ρ σ H S D i ⟨fun ρ' S' e σ' H' B' ow' i' ex => w.nx ρ' S' e σ' H' B' ow' ⟨i'.fr.weak h, i'.gi, i'.ev, i'.nw⟩ ex, w.rt, w.bk, w.ex, w.nb⟩
/-- a slot's own list, dict is frozen -/
theorem In.freeze (i : In c He B0 B ow m ρ σ H S) {j : Nat} (hj : m[j]? = some .own) : ∃ B', In c He B0 B' ow (m.set j .fz) ρ σ H S ∧ Ex (Fz B H) (Fz B' H) := by
  obtain ⟨d, p, e1, e2, ⟨hp, hp0, how⟩, t⟩ := i.fr.slot j _ hj
  have hjl : j < m.length := (List.getElem?_eq_some_iff.mp hj).1
  have sub : ∀ a ∈ B.filter (fun a => decide (a ≠ p)), a ∈ B := fun a ha => (List.mem_filter.mp ha).1
  have ex : Ex (Fz B H) (Fz (B.filter fun a => decide (a ≠ p)) H) := fz_anti sub
  have keep : ∀ a ∈ B, a ≠ p → a ∈ B.filter (fun a => decide (a ≠ p)) := fun a ha ne => List.mem_filter.mpr ⟨ha, decide_eq_true ne⟩
  have gsub : ∀ a ∈ c.g.G, a ∈ B.filter (fun a => decide (a ≠ p)) := fun a ha => keep a (i.fr.sub a (i.fr.gsub a ha)) fun e => hp0 (e ▸ i.fr.gsub a ha)
  refine ⟨B.filter fun a => decide (a ≠ p), ⟨⟨by rw [List.length_set]; exact i.fr.lm, i.fr.ls, fun a ha => keep a (i.fr.sub a ha) fun e => hp0 (e ▸ ha), i.fr.gsub, fun k md hk => ?_⟩, i.gi.less sub gsub, i.ev, fun q hq => i.nw q (sub q hq)⟩, ex⟩
  by_cases e : j = k
  · subst e
    rw [List.getElem?_set_self hjl] at hk
    cases hk
    intro d' hd'
    rw [e1] at hd'
    cases hd'
    exact ⟨_, e2, t.is ex fun o q => fz_some.mpr ⟨fun z => by have := of_decide_eq_true (List.mem_filter.mp z).2; exact this rfl, q⟩⟩
  · rw [List.getElem?_set_ne e] at hk
    exact (i.fr.slot k md hk).step ex (fun a ha => keep a ha.1 fun z => e (by rw [← how, ← ha.2.2, z])) fun a o _ q => q
theorem sv_freeze {st : Stmt} {d : DS} {j : Nat} (hj : m[j]? = some .own) (h1 : SV c x (m.set j .fz) m2 st d) : SV c x m m2 st d := fun He B0 B ow ρ σ H S D i w => by
  obtain ⟨B', i', ex⟩ := i.freeze hj
  exact h1 He B0 B' ow ρ σ H S D i' (w.from ex)
theorem svs_freeze {st : List Stmt} {d : DS} {j : Nat} (hj : m[j]? = some .own) (h1 : SVs c x (m.set j .fz) m2 st d) : SVs c x m m2 st d := fun He B0 B ow ρ σ H S D i w => by
  obtain ⟨B', i', ex⟩ := i.freeze hj
  exact h1 He B0 B' ow ρ σ H S D i' (w.from ex)
/-- .. behind -/
theorem svs_freezeB {st : List Stmt} {d : DS} {j : Nat} (hj : m1[j]? = some .own) (h1 : SVs c x m m1 st d) : SVs c x m (m1.set j .fz) st d := fun He B0 B ow ρ σ H S D i w => h1 He B0 B ow ρ σ H S D i
  ⟨fun ρ' S' e σ' H' B' ow' i' ex => by
    obtain ⟨B2, i2, ex2⟩ := i'.freeze hj
    exact w.nx ρ' S' e σ' H' B2 ow' i2 (ex.trans ex2), w.rt, w.bk, w.ex, w.nb⟩
/-! ### stores into names -/
def dSet (i : Nat) (a : DE) : DS := fun ρ S => (a ρ S).st ρ fun d S1 => .nx (ρ.set i (some d)) S1
theorem sv_set {i : Nat} {e : Expr} {a : DE} {y : Str} {pos pos' : Pos} (ha : EV c m e a) (hi : i < m.length) (hp : PS c.X (.Assign [.Name y pos'] e pos) (tAsg (PD.WE c.X e) (gName i))) (hx : WkX m x.mx = true := by rfl) : SV c x m (m.set i .fz) (.Assign [.Name y pos'] e pos) (dSet i a) := by
  intro He B0 B ow ρ σ H S D i1 w
  refine WS.of hp (ha σ H ρ S B0 B ow _ i1.fr i1.gi (goalS i1 hx w fun d S' v H' e ev i2 w2 gd => ?_))
  exact w2.nx _ _ rfl _ H' B ow ⟨i2.fr.put hi gd, i2.gi, i2.ev, i2.nw⟩ (Ex.refl _)
/-- a new list's, dict's holder -/
theorem In.own {H0 : Hp} {S0 : Store} (i : In c He B0 B ow m ρ σ H0 S0) (ev : Evo c.g.G H0 H) {j : Nat} (hj : j < m.length) {p : Addr} {d : PyData} (hp : H0 p = none) (ht : Top c.X.K (p :: B) H p d) (gi : GI c.X.K c.g (p :: B) H S) :
    In c He B0 (p :: B) (fun a => if a = p then j else ow a) (m.set j .own) (ρ.set j (some d)) (σ.set j (some (.ref p))) H S ∧ Ex (Fz B H0) (Fz (p :: B) H) := by
  have hn : p ∉ B := new_notin i.gi.kn hp
  have ex : Ex (Fz B H0) (Fz (p :: B) H) := fun a u q => by
    have q := fz_some.mp q
    have ne : a ≠ p := ne_of_none q.2 hp
    exact fz_some.mpr ⟨fun z => (List.mem_cons.mp z).elim ne q.1, ev a u (fun z => q.1 (i.gi.sub a z)) q.2⟩
  have hρ : j < ρ.length := by rw [← i.fr.lm]; exact hj
  have hσ : j < σ.length := by rw [i.fr.ls]; exact hρ
  refine ⟨⟨⟨by simp [i.fr.lm], by simp [i.fr.ls], fun a ha => List.mem_cons_of_mem _ (i.fr.sub a ha), i.fr.gsub, fun k md hk => ?_⟩, gi, i.ev.trans ev, fun q hq hq0 => ?_⟩, ex⟩
  · rw [getD_set hρ, getD_set hσ]
    by_cases e : j = k
    · subst e
      rw [List.getElem?_set_self hj] at hk
      cases hk
      rw [if_pos rfl, if_pos rfl]
      exact ⟨d, p, rfl, rfl, ⟨List.mem_cons_self .., fun z => hn (i.fr.sub p z), if_pos rfl⟩, ht⟩
    · rw [List.getElem?_set_ne e] at hk
      rw [if_neg e, if_neg e]
      have st := (i.fr.slot k md hk).step (B' := p :: B) (H' := H) ex (fun a ha => List.mem_cons_of_mem _ ha.1) fun a o ha q => ev a o (fun z => ha.2.1 (i.fr.gsub a z)) q
      have ne : ∀ a, Own B0 (p :: B) ow k a → a ≠ p ∨ True := fun _ _ => .inr trivial
      -- the owner's name at the other addresses is as it was
      have key : ∀ a ∈ B, (if a = p then j else ow a) = ow a := fun a ha => if_neg fun (z : a = p) => hn (z ▸ ha)
      have s0 := i.fr.slot k md hk
      have own' : ∀ a, Own B0 B ow k a → Own B0 (p :: B) (fun a => if a = p then j else ow a) k a := fun a h => ⟨List.mem_cons_of_mem _ h.1, h.2.1, by show (if a = p then j else ow a) = k; rw [key a h.1]; exact h.2.2⟩
      cases md with
      | un => trivial
      | fz => exact st
      | st q => exact st
      | ea => exact st
      | lm => exact st
      | cs => exact st
      | own =>
        obtain ⟨d', p', h1, h2, h3, h4⟩ := s0
        exact ⟨d', p', h1, h2, own' _ h3, h4.mono ex fun o q => ev p' o (fun z => h3.2.1 (i.fr.gsub p' z)) q⟩
      | own2 =>
        obtain ⟨ds', p', qs, h1, h2, h3, h4, h5, h6⟩ := s0
        refine ⟨ds', p', qs, h1, h2, fun q hq => own' _ (h3 q hq), h4, ev p' _ (fun z => (h3 p' (List.mem_cons_self ..)).2.1 (i.fr.gsub p' z)) h5, ?_⟩
        have h3' : ∀ q ∈ qs, Own B0 B ow k q := fun q hq => h3 q (List.mem_cons_of_mem _ hq)
        clear h1 h2 h3 h4 h5
        induction h6 with
        | nil => exact .nil
        | cons r t ih => exact .cons (r.mono ex fun o q => ev _ o (fun z => (h3' _ (List.mem_cons_self ..)).2.1 (i.fr.gsub _ z)) q) (ih fun q hq => h3' q (List.mem_cons_of_mem _ hq))
  · rcases List.mem_cons.mp hq with rfl | hq
    · exact free_back i.ev i.gi hp
    · exact i.nw q hq hq0
end
end PD
/-! PDk: more statements. -/
namespace PD
open PySem PySem.Spec PyProof.Rows L2
section
variable {c : Cc} {x : Fx} {m m' m1 m2 : List Md} {He : Hp} {B0 B : List Addr} {ow : Addr → Nat} {ρ : Env} {σ : L2.St} {H : Hp} {S : Store} {D : Ends}
/-- x = a new list, dict of its own -/
theorem sv_seto {i : Nat} {e : Expr} {a : DE} {y : Str} {pos pos' : Pos} (ha : EO c m e a) (hi : i < m.length) (hp : PS c.X (.Assign [.Name y pos'] e pos) (tAsg (PD.WE c.X e) (gName i))) (hx : WkX m x.mx = true := by rfl) : SV c x m (m.set i .own) (.Assign [.Name y pos'] e pos) (dSet i a) := by
  intro He B0 B ow ρ σ H S D i1 w
  refine WS.of hp (ha σ H ρ S B0 B ow _ i1.fr i1.gi (goalS i1 hx w fun d S' v H' e ev i2 w2 gd => ?_))
  obtain ⟨p, rfl, hp, t, gi⟩ := gd
  obtain ⟨i3, ex⟩ := i1.own ev hi hp t gi
  refine w.nx _ _ ?_ _ H' _ _ i3 ex
  show (a ρ S).st ρ _ = _
  rw [e]
  rfl
/-- a comprehension given to a local name -/
theorem sv_setLc {i : Nat} {e : Expr} {a : DE} {y : Str} {pos pos' : Pos} (ha : ∀ {He B0 B ow ρ σ H S} {D : Ends}, In c He B0 B ow m ρ σ H S → Wants c x He B0 B H (m.set i .own) (dSet i a ρ S) D → WS c.X (.Assign [.Name y pos'] e pos) D σ H) : SV c x m (m.set i .own) (.Assign [.Name y pos'] e pos) (dSet i a) := fun He B0 B ow ρ σ H S D i1 w => ha i1 w
/-- what a comprehension asks ahead of a store into a name -/
theorem store_own {i : Nat} {a : DE} (hi : i < m.length) (hx : WkX m x.mx = true) (i1 : In c He B0 B ow m ρ σ H S) (w : Wants c x He B0 B H (m.set i .own) (dSet i a ρ S) D) :
    Goal c B H σ (a ρ S) (fun S' H' v d => ∃ p, v = .ref p ∧ H p = none ∧ Top c.X.K (p :: B) H' p d ∧ GI c.X.K c.g (p :: B) H' S') (fun v H1 => gName i v σ H1 D.nx) :=
  goalS i1 hx w fun d S' v H' e ev i2 w2 gd => by
    obtain ⟨p, rfl, hp, t, gi⟩ := gd
    obtain ⟨i3, ex⟩ := i1.own ev hi hp t gi
    refine w.nx _ _ ?_ _ H' _ _ i3 ex
    show (a ρ S).st ρ _ = _
    rw [e]
    rfl
theorem sv_lc {i : Nat} {y : Str} {py pos spos : Pos} {elt tg iter : Expr} {scope : Scope} {own : List (Str × Nat)} {di : DI} {t : Tg} {de : DE} (hi' : i < m.length) (hy : c.X.N[i]? = some y) (hyl : c.X.env.scope.names.lookup y = some .local)
    (hsw : swapsWith (.ListComp elt [⟨tg, iter, [], 0⟩] scope pos) (some (.Name y py)) spos.line c.X.env = pure true)
    (hc : c.X.calm = true) (hN : c.X.N.Nodup) (hi : ICo c m tg iter di) (ok : BlkOk c.X.N c.X.env.scope scope own) (hsub : ∀ i ∈ t.slots, i ∈ own.map (·.2)) (hlen : ∀ i ∈ own.map (·.2), i < m.length)
    (hg : ∀ s H C cl fp, PG (c.in scope s H C cl fp).X tg (gT c.X.K t)) (he : ∀ s H C cl fp, EV (c.in scope s H C cl fp) (setMd (blkM m (own.map (·.2))) t.slots .fz) elt de)
    (hs : ∀ x, foldedSetIterable iter c.X.env x = pure x := by intro _; rfl) (hx : WkX m x.mx = true := by rfl) : SV c x m (m.set i .own) (.Assign [.Name y py] (.ListComp elt [⟨tg, iter, [], 0⟩] scope pos) spos) (dSet i (dComp di t dYes de)) := by
  intro He B0 B ow ρ σ H S D i1 w
  refine WS.of (ps_setLc (tt := tYes) (te := fun σ H Q => ∀ s H0 C cl fp, PD.WE (c.in scope s H0 C cl fp).X elt σ H Q) hc hN hy hyl hsw wi ok hg (fun _ _ _ _ _ => pts_nil) (fun s H0 C cl fp => ⟨fun pins s' σ H Q I h => (h s H0 C cl fp).go pins s' I⟩) hs) ?_
  refine comp_read hi hsub hlen (fun {σ H ρ S B0 B ow Q} fr gi h _ _ => h true S true H rfl (Evo.refl _ _) gi rfl) (fun {σ H ρ S B0 B ow Q} fr gi h h2 h3 s H0 C cl fp => ?_) i1.fr i1.gi (store_own hi' hx i1 w)
  exact he s H0 C cl fp σ H ρ S B0 B ow Q fr gi (goal_in rfl h h2 h3)
theorem sv_lcIf {i : Nat} {y : Str} {py pos spos : Pos} {elt tg iter q : Expr} {scope : Scope} {own : List (Str × Nat)} {di : DI} {t : Tg} {tt : DT} {de : DE} (hi' : i < m.length) (hy : c.X.N[i]? = some y) (hyl : c.X.env.scope.names.lookup y = some .local)
    (hsw : swapsWith (.ListComp elt [⟨tg, iter, [q], 0⟩] scope pos) (some (.Name y py)) spos.line c.X.env = pure true)
    (hc : c.X.calm = true) (hN : c.X.N.Nodup) (hi : ICo c m tg iter di) (ok : BlkOk c.X.N c.X.env.scope scope own) (hsub : ∀ i ∈ t.slots, i ∈ own.map (·.2)) (hlen : ∀ i ∈ own.map (·.2), i < m.length)
    (hg : ∀ s H C cl fp, PG (c.in scope s H C cl fp).X tg (gT c.X.K t)) (ht : ∀ s H C cl fp, ET (c.in scope s H C cl fp) (setMd (blkM m (own.map (·.2))) t.slots .fz) q tt) (he : ∀ s H C cl fp, EV (c.in scope s H C cl fp) (setMd (blkM m (own.map (·.2))) t.slots .fz) elt de)
    (hs : ∀ x, foldedSetIterable iter c.X.env x = pure x := by intro _; rfl) (hx : WkX m x.mx = true := by rfl) : SV c x m (m.set i .own) (.Assign [.Name y py] (.ListComp elt [⟨tg, iter, [q], 0⟩] scope pos) spos) (dSet i (dComp di t tt de)) := by
  intro He B0 B ow ρ σ H S D i1 w
  refine WS.of (ps_setLc (tt := fun σ H Q => ∀ s H0 C cl fp, WT (c.in scope s H0 C cl fp).X q σ H Q) (te := fun σ H Q => ∀ s H0 C cl fp, PD.WE (c.in scope s H0 C cl fp).X elt σ H Q) hc hN hy hyl hsw wi ok hg (fun s H0 C cl fp => pts_one ⟨fun pins s' σ H Q I h => (h s H0 C cl fp).go pins s' I⟩) (fun s H0 C cl fp => ⟨fun pins s' σ H Q I h => (h s H0 C cl fp).go pins s' I⟩) hs) ?_
  refine comp_read hi hsub hlen (fun {σ H ρ S B0 B ow Q} fr gi h h2 h3 s H0 C cl fp => ?_) (fun {σ H ρ S B0 B ow Q} fr gi h h2 h3 s H0 C cl fp => ?_) i1.fr i1.gi (store_own hi' hx i1 w)
  · exact ht s H0 C cl fp σ H ρ S B0 B ow Q fr gi (goal_in rfl h h2 h3)
  · exact he s H0 C cl fp σ H ρ S B0 B ow Q fr gi (goal_in rfl h h2 h3)
/-- (a, b) = a tuple -/
def dTupSet (is : List Nat) (a : DE) : DS := fun ρ S => (a ρ S).st ρ fun d S1 => match (Tg.tup is).bind d ρ with | some ρ1 => .nx ρ1 S1 | none => .bad
theorem setMd_get : True := trivial
theorem sv_tup {is : List Nat} {e : Expr} {a : DE} {tg : Expr} {pos : Pos} (ha : EV c m e a) (hi : ∀ i ∈ is, i < m.length) (hp : PS c.X (.Assign [tg] e pos) (tAsg (PD.WE c.X e) (gTup c.X.K is.length (is.foldr (fun i u => gCons (gName i) u) gNil)))) (hx : WkX m x.mx = true := by rfl) : SV c x m (setMd m is .fz) (.Assign [tg] e pos) (dTupSet is a) := by
  intro He B0 B ow ρ σ H S D i1 w
  refine WS.of hp (ha σ H ρ S B0 B ow _ i1.fr i1.gi (goalS i1 hx w fun d S' v H' e ev i2 w2 gd => ?_))
  cases eb : (Tg.tup is).bind d ρ with
  | none => rw [eb] at w2; exact absurd rfl w2.nb
  | some ρ1 =>
    rw [eb] at w2
    exact Tg.put (X := c.X) (t := .tup is) (tg := tg) rfl i2.fr hi gd eb fun σ' f' _ => w2.nx _ _ rfl σ' H' B ow ⟨f', i2.gi, i2.ev, i2.nw⟩ (Ex.refl _)
/-! ### control -/
def dIfS (t : DT) (a b : DS) : DS := fun ρ S => (t ρ S).st ρ fun q S1 => if q = true then a ρ S1 else b ρ S1
theorem sv_if {q : Expr} {a b : List Stmt} {tq : DT} {da db : DS} {pos : Pos} (hq : ET c m q tq) (ha : SVs c x m m1 a da) (hb : SVs c x m m1 b db) (hx : WkX m x.mx = true := by rfl) : SV c x m m1 (.If q a b pos) (dIfS tq da db) := by
  intro He B0 B ow ρ σ H S D i1 w
  refine WS.of (ps_if wt wss wss) (hq σ H ρ S B0 B ow _ i1.fr i1.gi (goalS i1 hx w fun d S' v H' e ev i2 w2 gd => ?_))
  cases gd
  cases d with
  | true => rw [if_pos rfl] at w2 ⊢; exact ha He B0 B ow ρ σ H' S' D i2 w2
  | false => rw [if_neg (by simp)] at w2 ⊢; exact hb He B0 B ow ρ σ H' S' D i2 w2
def dRet (a : DE) : DS := fun ρ S => (a ρ S).st ρ fun d S1 => .ret d S1
theorem sv_ret {e : Expr} {a : DE} {pos : Pos} (ha : EV c m e a) (hf : x.fr = false := by rfl) (hx : WkX m x.mx = true := by rfl) : SV c x m m1 (.Return (some e) pos) (dRet a) := by
  intro He B0 B ow ρ σ H S D i1 w
  refine WS.of (ps_ret we) (ha σ H ρ S B0 B ow _ i1.fr i1.gi (goalS i1 hx w fun d S' v H' e ev i2 w2 gd => ?_))
  refine w2.rt _ _ rfl v H' i2.ev (i2.gi.less i2.fr.sub i2.fr.gsub) ?_
  unfold ResOk
  rw [if_neg (by rw [hf]; simp)]
  exact gd.mono (fz_anti i2.fr.sub)
theorem sv_reto {e : Expr} {a : DE} {pos : Pos} (ha : EO c m e a) (hf : x.fr = true := by rfl) (hx : WkX m x.mx = true := by rfl) : SV c x m m1 (.Return (some e) pos) (dRet a) := by
  intro He B0 B ow ρ σ H S D i1 w
  refine WS.of (ps_ret we) (ha σ H ρ S B0 B ow _ i1.fr i1.gi (goalS i1 hx w fun d S' v H' e ev i2 w2 gd => ?_))
  obtain ⟨p, rfl, hp, t, gi⟩ := gd
  refine w2.rt _ _ rfl _ H' i2.ev (i2.gi.less i2.fr.sub i2.fr.gsub) ?_
  unfold ResOk
  rw [if_pos hf]
  have sub : ∀ a ∈ p :: B0, a ∈ p :: B := fun a ha => (List.mem_cons.mp ha).elim (fun e => e ▸ List.mem_cons_self ..) fun h => List.mem_cons_of_mem _ (i2.fr.sub a h)
  exact ⟨p, rfl, free_back i1.ev i1.gi hp, t.mono (fz_anti sub) fun _ q => q, gi.less sub fun a ha => List.mem_cons_of_mem _ (i2.fr.gsub a ha)⟩
/-- return x, x a list of the def's own -/
theorem sv_retOwn {i : Nat} {y : Str} {p1 pos : Pos} (hm : m[i]? = some .own) (hp : PE c.X (.Name y p1) (tVar i)) (hf : x.fr = true := by rfl) : SV c x m m1 (.Return (some (.Name y p1)) pos) (dRet (dVar i)) := by
  intro He B0 B ow ρ σ H S D i1 w
  refine WS.of (ps_ret hp) ?_
  obtain ⟨d, p, e, hv, hw, t⟩ := i1.fr.slot i _ hm
  have er : dRet (dVar i) ρ S = .ret d S := by
    show (ofO (ρ.getD i none) S).st ρ _ = _
    rw [e]
    rfl
  rw [er] at w
  refine ⟨.ref p, ?_, w.rt _ _ rfl _ H i1.ev (i1.gi.less i1.fr.sub i1.fr.gsub) ?_⟩
  · rw [List.getD_eq_getElem?_getD] at hv
    cases h2 : σ[i]? with
    | none => rw [h2] at hv; cases hv
    | some o => rw [h2] at hv; rw [show o = some _ from hv]
  · unfold ResOk
    rw [if_pos hf]
    have sub : ∀ a ∈ p :: B0, a ∈ B := fun a ha => (List.mem_cons.mp ha).elim (fun e => e ▸ hw.1) fun h => i1.fr.sub a h
    exact ⟨p, rfl, i1.nw p hw.1 hw.2.1, t.mono (fz_anti sub) fun _ q => q, i1.gi.less sub fun a ha => List.mem_cons_of_mem _ (i1.fr.gsub a ha)⟩
def dDrop (a : DE) : DS := fun ρ S => (a ρ S).st ρ fun _ S1 => .nx ρ S1
theorem sv_expr {e : Expr} {a : DE} {pos : Pos} (ha : EV c m e a) (hs : swapsWith e none pos.line c.X.env = pure false := by rfl) (hx : WkX m x.mx = true := by rfl) : SV c x m m (.Expr e pos) (dDrop a) := by
  intro He B0 B ow ρ σ H S D i1 w
  refine WS.of (ps_expr we hs) (ha σ H ρ S B0 B ow _ i1.fr i1.gi (goalS i1 hx w fun d S' v H' e ev i2 w2 gd => ?_))
  exact w2.nx _ _ rfl σ H' B ow i2 (Ex.refl _)
theorem sv_pass {pos : Pos} : SV c x m m (.Pass pos) dNx := fun He B0 B ow ρ σ H S D i w => WS.of ps_pass (w.nx ρ S rfl σ H B ow i (Ex.refl _))
theorem sv_break {pos : Pos} (h : Wk m x.mb = true) : SV c x m m1 (.Break pos) dBrk := fun He B0 B ow ρ σ H S D i w => WS.of ps_break (w.bk ρ S rfl σ H B ow ⟨i.fr.weak h, i.gi, i.ev, i.nw⟩ (Ex.refl _))
/-! for: the modes at each turn's start, at the end -/
def forL (t : Tg) (body : DS) : List PyData → Env → Store → RS
  | [], ρ, S => .nx ρ S
  | d :: ds, ρ, S => match t.bind d ρ with
    | none => .bad
    | some ρ1 => match body ρ1 S with
      | .nx ρ2 S2 => forL t body ds ρ2 S2
      | .brk ρ2 S2 => .nx ρ2 S2
      | r => r
def dFor (di : DI) (t : Tg) (body : DS) : DS := fun ρ S => (di ρ S).st ρ fun ds S1 => forL t body ds ρ S1
theorem forL_nil (t : Tg) (body : DS) (ρ : Env) (S : Store) : forL t body [] ρ S = .nx ρ S := rfl
theorem forL_cons (t : Tg) (body : DS) (d : PyData) (ds : List PyData) (ρ : Env) (S : Store) : forL t body (d :: ds) ρ S = match t.bind d ρ with
    | none => .bad
    | some ρ1 => match body ρ1 S with
      | .nx ρ2 S2 => forL t body ds ρ2 S2
      | .brk ρ2 S2 => .nx ρ2 S2
      | r => r := rfl
theorem sv_for {tg iter : Expr} {body : List Stmt} {di : DI} {t : Tg} {db : DS} {pos : Pos} (hpo : PassesOwn (model c.X.prog c.X.w) c.X.A c.X.env c.X.xe) (hc : c.X.calm = true) (hi : IFo c m tg iter di) (hsl : ∀ i ∈ t.slots, i < m.length) (hg : PG c.X tg (gT c.X.K t)) (hb : SVs c { x with mb := m } (setMd m t.slots .fz) m body db) (hs : ∀ x, foldedSetIterable iter c.X.env x = pure x := by intro _; rfl) (hx : WkX m x.mx = true := by rfl) :
    SV c x m m (.For tg iter body [] pos) (dFor di t db) := by
  intro He B0 B ow ρ σ H S D i1 w
  refine WS.of (ps_for hpo hc wi hg wss (hs := hs)) ?_
  refine hi σ H ρ S B0 B ow _ i1.fr i1.gi (goalS i1 hx w fun ds S1 J H1 e ev i2 w2 it => ?_)
  refine ⟨fun i k σ2 H2 => k = ds.length - i ∧ i ≤ ds.length ∧ ∃ ρ2 S2 B2 ow2, In c He B0 B2 ow2 m ρ2 σ2 H2 S2 ∧ Ex (Fz B H1) (Fz B2 H2) ∧ forL t db ds ρ S1 = forL t db (ds.drop i) ρ2 S2, ⟨ds.length, by simp, Nat.zero_le _, ρ, S1, B, ow, i2, Ex.refl _, rfl⟩, ?_⟩
  rintro i k σ2 H2 ⟨rfl, hile, ρ2, S2, B2, ow2, i3, ex, eq⟩
  obtain ⟨go, stop⟩ := it.2 B2 H2 ex i3.gi.kn
  by_cases hlt : i < ds.length
  · refine .inr ⟨(go i ds[i] (List.getElem?_eq_getElem hlt)).1, fun σ3 H3 => ∃ ρ3 S3 B3 ow3, In c He B0 B3 ow3 m ρ3 σ3 H3 S3 ∧ Ex (Fz B H1) (Fz B3 H3) ∧ forL t db ds ρ S1 = forL t db (ds.drop (i + 1)) ρ3 S3, fun σ3 H3 h3 => ⟨ds.length - (i + 1), by omega, rfl, hlt, h3⟩, fun y H3 hy => ?_⟩
    obtain ⟨ex3, iy⟩ := (go i ds[i] (List.getElem?_eq_getElem hlt)).2 y H3 hy
    rw [List.drop_eq_getElem_cons hlt, forL_cons] at eq
    cases eb : t.bind ds[i] ρ2 with
    | none => rw [eb] at eq; exact absurd eq w2.nb
    | some ρ3 =>
      rw [eb] at eq
      simp only at eq
      have i4 : In c He B0 B2 ow2 m ρ2 σ2 H3 S2 := ⟨i3.fr.evo ex3.evo, i3.gi.ex ex3, i3.ev.trans ex3.evo, i3.nw⟩
      refine Tg.put (X := c.X) (t := t) (tg := tg) rfl i4.fr hsl iy eb fun σ4 f4 _ => ?_
      refine hb He B0 B2 ow2 ρ3 σ4 H3 S2 _ ⟨f4, i4.gi, i4.ev, i4.nw⟩ ⟨fun ρ5 S5 e5 σ5 H5 B5 ow5 i5 ex5 => ?_, fun d S5 e5 => ?_, fun ρ5 S5 e5 σ5 H5 B5 ow5 i5 ex5 => ?_, fun xc ρ5 S5 e5 => ?_, fun e5 => ?_⟩
      · rw [e5] at eq
        exact ⟨ρ5, S5, B5, ow5, i5, (ex.trans ex3.fz).trans ex5, eq⟩
      · rw [e5] at eq
        exact w2.rt d S5 eq
      · rw [e5] at eq
        exact w2.nx ρ5 S5 eq σ5 H5 B5 ow5 i5 ((ex.trans ex3.fz).trans ex5)
      · rw [e5] at eq
        exact fun σ' H' B' ow' cls dd m1 g1 e1 n1 s1 exx xr => w2.ex xc ρ5 S5 eq σ' H' B' ow' cls dd m1 g1 e1 n1 s1 ((ex.trans ex3.fz).trans exx) xr
      · rw [e5] at eq
        exact w2.nb eq
  · have e : i = ds.length := by omega
    subst e
    rw [List.drop_length, forL_nil] at eq
    exact .inl ⟨stop _ (Nat.le_refl _), w2.nx _ _ eq σ2 H2 B2 ow2 i3 ex⟩
/-! while -/
def whL (t : DT) (body : DS) : Nat → Env → Store → RS
  | 0, _, _ => .bad
  | n + 1, ρ, S => (t ρ S).st ρ fun q S1 => if q = true then (match body ρ S1 with
      | .nx ρ2 S2 => whL t body n ρ2 S2
      | .brk ρ2 S2 => .nx ρ2 S2
      | r => r) else .nx ρ S1
theorem whL_succ (t : DT) (body : DS) (n : Nat) (ρ : Env) (S : Store) : whL t body (n + 1) ρ S = (t ρ S).st ρ fun q S1 => if q = true then (match body ρ S1 with
      | .nx ρ2 S2 => whL t body n ρ2 S2
      | .brk ρ2 S2 => .nx ρ2 S2
      | r => r) else .nx ρ S1 := rfl
def dWhile (n : Nat) (t : DT) (body : DS) : DS := fun ρ S => whL t body n ρ S
theorem sv_while {n : Nat} {q : Expr} {body : List Stmt} {tq : DT} {db : DS} {pos : Pos} (hpo : PassesOwn (model c.X.prog c.X.w) c.X.A c.X.env c.X.xe) (hq : ET c m q tq) (hb : SVs c { x with mb := m } m m body db) (hx : WkX m x.mx = true := by rfl) : SV c x m m (.While q body [] pos) (dWhile n tq db) := by
  intro He B0 B ow ρ σ H S D i1 w
  refine WS.of (ps_while hpo wt wss) ?_
  refine ⟨fun k σ2 H2 => ∃ ρ2 S2 B2 ow2, In c He B0 B2 ow2 m ρ2 σ2 H2 S2 ∧ Ex (Fz B H) (Fz B2 H2) ∧ whL tq db n ρ S = whL tq db k ρ2 S2, ⟨n, ρ, S, B, ow, i1, Ex.refl _, rfl⟩, ?_⟩
  rintro k σ2 H2 ⟨ρ2, S2, B2, ow2, i2, ex, eq⟩
  cases k with
  | zero => exact absurd eq w.nb
  | succ k =>
    rw [whL_succ] at eq
    have w2 : Wants c x He B0 B2 H2 m (whL tq db n ρ S) D := Wants.from (show Wants c x He B0 B H m (whL tq db n ρ S) D from w) ex
    rw [eq] at w2
    refine hq σ2 H2 ρ2 S2 B0 B2 ow2 _ i2.fr i2.gi (goalS i2 hx w2 fun d S3 v H3 e ev i3 w3 gd => ?_)
    cases gd
    cases d with
    | true =>
      rw [if_pos rfl] at w3 ⊢
      rw [e] at eq
      simp only [R.st_ok, if_true] at eq
      refine ⟨fun σ' H' => ∃ ρ5 S5 B5 ow5, In c He B0 B5 ow5 m ρ5 σ' H' S5 ∧ Ex (Fz B H) (Fz B5 H') ∧ whL tq db n ρ S = whL tq db k ρ5 S5, fun σ' H' h => ⟨k, Nat.lt_succ_self k, h⟩, ?_⟩
      refine hb He B0 B2 ow2 ρ2 σ2 H3 S3 _ i3 ⟨fun ρ5 S5 e5 σ5 H5 B5 ow5 i5 ex5 => ?_, fun d S5 e5 => ?_, fun ρ5 S5 e5 σ5 H5 B5 ow5 i5 ex5 => ?_, fun xc ρ5 S5 e5 => ?_, fun e5 => ?_⟩
      · rw [e5] at eq
        exact ⟨ρ5, S5, B5, ow5, i5, (ex.trans (ev.fz i2.gi.sub)).trans ex5, eq⟩
      · rw [e5] at w3
        exact w3.rt d S5 rfl
      · rw [e5] at w3
        exact w3.nx ρ5 S5 rfl σ5 H5 B5 ow5 i5 ex5
      · rw [e5] at w3
        exact w3.ex xc ρ5 S5 rfl
      · rw [e5] at w3
        exact w3.nb rfl
    | false =>
      rw [if_neg (by simp)] at w3 ⊢
      exact w3.nx _ _ rfl σ2 H3 B2 ow2 i3 (Ex.refl _)
end
end PD
/-! PDl: lists changed in place, several targets, raise, a def by its body. -/
namespace PD
open PySem PySem.Spec PyProof.Rows L2
section
variable {c : Cc} {x : Fx} {m m' m1 m2 : List Md} {He : Hp} {B0 B : List Addr} {ow : Addr → Nat} {ρ : Env} {σ : L2.St} {H : Hp} {S : Store} {D : Ends}
/-- the slot's own list, dict is changed -/
theorem In.write (i : In c He B0 B ow m ρ σ H S) {j : Nat} (hj : m[j]? = some .own) {p : Addr} (hv : σ.getD j none = some (.ref p)) (hw : Own B0 B ow j p) {o : HO} {d : PyData} (hc : ∀ q, H p ≠ some (LamX.CodeO p q)) (ht : Top c.X.K B (upd H p o) p d) :
    In c He B0 B ow m (ρ.set j (some d)) σ (upd H p o) S ∧ Ex (Fz B H) (Fz B (upd H p o)) := by
  have hjl : j < m.length := (List.getElem?_eq_some_iff.mp hj).1
  have hρ : j < ρ.length := by rw [← i.fr.lm]; exact hjl
  have pG : p ∉ c.g.G := fun z => hw.2.1 (i.fr.gsub p z)
  have efz : Fz B (upd H p o) = Fz B H := fz_upd hw.1
  have ex : Ex (Fz B H) (Fz B (upd H p o)) := by rw [efz]; exact Ex.refl _
  refine ⟨⟨⟨by simp [i.fr.lm], by simp [i.fr.ls], i.fr.sub, i.fr.gsub, fun k md hk => ?_⟩, i.gi.grow hw.1 pG hc, fun a u n q => ?_, i.nw⟩, ex⟩
  · rw [getD_set hρ]
    by_cases e : j = k
    · subst e
      rw [hj] at hk
      cases hk
      rw [if_pos rfl]
      exact ⟨d, p, rfl, hv, hw, ht⟩
    · rw [if_neg e]
      exact (i.fr.slot k md hk).step ex (fun a ha => ha.1) fun a u ha q => by
        rw [upd_ne fun z => e (by rw [← hw.2.2, ← ha.2.2, z])]
        exact q
  · rw [upd_ne fun z => by rw [z, i.nw p hw.1 hw.2.1] at q; cases q]
    exact i.ev a u n q
/-- the slot's list, then the rest, then the list changed -/
def onLst (ρ : Env) (i : Nat) (k : List PyData → RS) : RS := match ρ.getD i none with | some (.list xs) => k xs | _ => .bad
def putO (ρ : Env) (i : Nat) (o : Option PyData) (S : Store) : RS := match o with | some d => .nx (ρ.set i (some d)) S | none => .bad
def fApp (xs : List PyData) (d : PyData) : Option PyData := if decide (xs.length < sizeLine) then some (.list (xs ++ [d])) else none
def dApp (i : Nat) (a : DE) : DS := fun ρ S => onLst ρ i fun xs => (a ρ S).st ρ fun d S1 => putO ρ i (fApp xs d) S1
/-- reading the slot's own list -/
theorem own_read (i1 : In c He B0 B ow m ρ σ H S) {i : Nat} (hm : m[i]? = some .own) : ∃ d p, ρ.getD i none = some d ∧ σ[i]? = some (some (.ref p)) ∧ σ.getD i none = some (.ref p) ∧ Own B0 B ow i p ∧ Top c.X.K B H p d := by
  obtain ⟨d, p, e, hv, hw, t⟩ := i1.fr.slot i _ hm
  refine ⟨d, p, e, ?_, hv, hw, t⟩
  rw [List.getD_eq_getElem?_getD] at hv
  cases h2 : σ[i]? with
  | none => rw [h2] at hv; cases hv
  | some o => rw [h2] at hv; rw [show o = some _ from hv]
theorem top_lst {K : PySem.W.Frag} {B : List Addr} {H : Hp} {p : Addr} {xs : List PyData} (t : Top K B H p (.list xs)) : ∃ vs, H p = some (.lst vs) ∧ vs.length ≤ sizeLine ∧ IsAll K (Fz B H) vs xs := by
  rcases t with ⟨ds, vs, e, a, z, b⟩ | ⟨ds, kvs, e, _⟩ | ⟨ds, kvs, e, _⟩ <;> cases e
  exact ⟨vs, a, z, b⟩
/-- the slot holds a list, for the way to go on -/
theorem on_lst {i : Nat} {d0 : PyData} {k : List PyData → RS} (e0 : ρ.getD i none = some d0) (w : Wants c x He B0 B H m' (onLst ρ i k) D) : ∃ xs, d0 = .list xs ∧ Wants c x He B0 B H m' (k xs) D := by
  unfold onLst at w
  rw [e0] at w
  cases d0 with
  | list xs => exact ⟨xs, rfl, w⟩
  | _ => exact absurd rfl w.nb
theorem top_upd {K : PySem.W.Frag} {p : Addr} {vs : List V} {xs : List PyData} (hp : p ∈ B) (hz : vs.length ≤ sizeLine) (h : IsAll K (Fz B H) vs xs) : Top K B (upd H p (.lst vs)) p (.list xs) :=
  .inl ⟨xs, vs, rfl, upd_same, hz, by rw [fz_upd hp]; exact h⟩
theorem sv_append {i : Nat} {e : Expr} {a : DE} {y : Str} {p1 p2 pos pos' : Pos} (hm : m[i]? = some .own) (ha : EV c m e a) (hp : PE c.X (.Name y p1) (tVar i))
    (hs : Pl e := by intro _ _; rfl) (hw : swapsWith (.Call (.Attribute (.Name y p1) "append" p2) [e] [] pos') none pos.line c.X.env = pure false := by rfl) (hbase : attributeBase (.Name y p1) "append" c.X.env (eval (.Name y p1) c.X.env) = eval (.Name y p1) c.X.env := by rfl)
    (hfew : ((backTo pos' (starEach [e] c.X.env)).all (fun x => !x.1) && (backToKw pos' (keywordEach [] c.X.env)).all (fun x => x.1.isSome) && decide ([e].length + ([] : List Keyword).length + (if ([] : List Keyword).isEmpty then 0 else 1) < 30)) = true := by rfl)
    (hline : (p2.endLine == pos'.line) = true := by rfl) (hx : WkX m x.mx = true := by rfl) :
    SV c x m m (.Expr (.Call (.Attribute (.Name y p1) "append" p2) [e] [] pos') pos) (dApp i a) := by
  intro He B0 B ow ρ σ H S D i1 w
  refine WS.of (ps_expr (pe_bm PySem.F.plainAttrs_list PySem.F.slot_list_append PySem.F.type_list_append mt_append hp (pa_cons we pa_nil (hs _ _)) hbase hfew hline (hs _ _) (by rw [show starEach [] c.X.env = [] from rfl]; rfl)) hw) ?_
  obtain ⟨d0, p, e0, hv, hv', hw', t⟩ := own_read i1 hm
  obtain ⟨xs, rfl, w⟩ := on_lst e0 w
  obtain ⟨vs, h1, hz, r⟩ := top_lst t
  refine ⟨.ref p, hv, .inl ⟨rfl, vs, .inl (.inl h1)⟩, ?_⟩
  refine ha σ H ρ S B0 B ow _ i1.fr i1.gi (goalS i1 hx w fun d S' v H' e ev i2 w2 gd => ?_)
  have pG : p ∉ c.g.G := fun z => hw'.2.1 (i1.fr.gsub p z)
  have h2 : H' p = some (.lst vs) := ev p _ pG h1
  unfold putO fApp at w2
  by_cases hlt : xs.length < sizeLine
  · rw [if_pos (decide_eq_true hlt)] at w2
    refine ⟨p, vs, v, rfl, rfl, h2, by rw [r.length]; exact hlt, ?_⟩
    obtain ⟨i3, ex⟩ := i2.write hm hv' hw' (lst_code h2) (top_upd (vs := vs ++ [v]) (xs := xs ++ [d]) hw'.1 (by rw [List.length_append, r.length]; show _ + 1 ≤ _; omega) ((r.mono (ev.fz i1.gi.sub)).append (.cons gd .nil)))
    exact w2.nx _ _ rfl σ _ B ow i3 ex
  · rw [if_neg (by simpa using hlt)] at w2
    exact absurd rfl w2.nb
def fExt (xs : List PyData) : PyData → Option PyData | .list ys => if sz (xs.length + ys.length) then some (.list (xs ++ ys)) else none | _ => none
def dExt (i : Nat) (a : DE) : DS := fun ρ S => onLst ρ i fun xs => (a ρ S).st ρ fun d S1 => putO ρ i (fExt xs d) S1
theorem sv_extend {i : Nat} {e : Expr} {a : DE} {y : Str} {p1 p2 pos pos' : Pos} (hm : m[i]? = some .own) (ha : EB c m e a) (hp : PE c.X (.Name y p1) (tVar i))
    (hs : Pl e := by intro _ _; rfl) (hw : swapsWith (.Call (.Attribute (.Name y p1) "extend" p2) [e] [] pos') none pos.line c.X.env = pure false := by rfl) (hbase : attributeBase (.Name y p1) "extend" c.X.env (eval (.Name y p1) c.X.env) = eval (.Name y p1) c.X.env := by rfl)
    (hfew : ((backTo pos' (starEach [e] c.X.env)).all (fun x => !x.1) && (backToKw pos' (keywordEach [] c.X.env)).all (fun x => x.1.isSome) && decide ([e].length + ([] : List Keyword).length + (if ([] : List Keyword).isEmpty then 0 else 1) < 30)) = true := by rfl)
    (hline : (p2.endLine == pos'.line) = true := by rfl) (hx : WkX m x.mx = true := by rfl) :
    SV c x m m (.Expr (.Call (.Attribute (.Name y p1) "extend" p2) [e] [] pos') pos) (dExt i a) := by
  intro He B0 B ow ρ σ H S D i1 w
  refine WS.of (ps_expr (pe_bm PySem.F.plainAttrs_list PySem.F.slot_list_extend PySem.F.type_list_extend mt_extend hp (pa_cons we pa_nil (hs _ _)) hbase hfew hline (hs _ _) (by rw [show starEach [] c.X.env = [] from rfl]; rfl)) hw) ?_
  obtain ⟨d0, p, e0, hv, hv', hw', t⟩ := own_read i1 hm
  obtain ⟨xs, rfl, w⟩ := on_lst e0 w
  obtain ⟨vs, h1, hz, r⟩ := top_lst t
  refine ⟨.ref p, hv, .inl ⟨rfl, vs, .inl (.inl h1)⟩, ?_⟩
  refine ha σ H ρ S B0 B ow _ i1.fr i1.gi (goalS i1 hx w fun d S' v H' e ev i2 w2 gd => ?_)
  have pG : p ∉ c.g.G := fun z => hw'.2.1 (i1.fr.gsub p z)
  have h2 : H' p = some (.lst vs) := ev p _ pG h1
  unfold putO fExt at w2
  cases d with
  | list ys =>
    simp only at w2
    obtain ⟨b, ws, rfl, rb, sb, zb⟩ := Rb.lst gd i2.gi.sub
    by_cases hlt : xs.length + ys.length ≤ sizeLine
    · rw [if_pos (show sz _ = true from decide_eq_true hlt)] at w2
      refine ⟨p, b, vs, ws, rfl, rfl, h2, sb H' (Evo.refl _ _), by rw [r.length, rb.length]; exact hlt, ?_⟩
      obtain ⟨i3, ex⟩ := i2.write hm hv' hw' (lst_code h2) (top_upd (vs := vs ++ ws) (xs := xs ++ ys) hw'.1 (by rw [List.length_append, r.length, rb.length]; exact hlt) ((r.mono (ev.fz i1.gi.sub)).append rb))
      exact w2.nx _ _ rfl σ _ B ow i3 ex
    · rw [if_neg (by simpa [sz] using hlt)] at w2
      exact absurd rfl w2.nb
  | _ => exact absurd rfl w2.nb
/-- target = x.pop() -/
def dPop (t : Tg) (i : Nat) : DS := fun ρ S => onLst ρ i fun xs => match xs.getLast? with
  | none => .bad
  | some d => match t.bind d (ρ.set i (some (.list xs.dropLast))) with | some ρ1 => .nx ρ1 S | none => .bad
theorem sv_pop {i : Nat} {t : Tg} {tg : Expr} {y : Str} {p1 p2 pos pos' : Pos} (hm : m[i]? = some .own) (hp : PE c.X (.Name y p1) (tVar i)) (hsl : ∀ j ∈ t.slots, j < m.length)
    (hq : ∀ te, PE c.X (.Call (.Attribute (.Name y p1) "pop" p2) [] [] pos') te → PS c.X (.Assign [tg] (.Call (.Attribute (.Name y p1) "pop" p2) [] [] pos') pos) (tAsg te (gT c.X.K t)))
    (hbase : attributeBase (.Name y p1) "pop" c.X.env (eval (.Name y p1) c.X.env) = eval (.Name y p1) c.X.env := by rfl) (hline : (p2.endLine == pos'.line) = true := by rfl) :
    SV c x m (setMd m t.slots .fz) (.Assign [tg] (.Call (.Attribute (.Name y p1) "pop" p2) [] [] pos') pos) (dPop t i) := by
  intro He B0 B ow ρ σ H S D i1 w
  refine WS.of (hq _ (pe_bm0 PySem.F.plainAttrs_list PySem.F.slot_list_pop PySem.F.type_list_pop mt_pop hp hbase hline)) ?_
  obtain ⟨d0, p, e0, hv, hv', hw', tp⟩ := own_read i1 hm
  obtain ⟨xs, rfl, w⟩ := on_lst e0 w
  obtain ⟨vs, h1, hz, r⟩ := top_lst tp
  refine ⟨.ref p, hv, .inl ⟨rfl, vs, .inl (.inl h1)⟩, ?_⟩
  cases el : xs.getLast? with
  | none => simp only [el] at w; exact absurd rfl w.nb
  | some d =>
    simp only [el] at w
    rw [List.getLast?_eq_getElem?] at el
    obtain ⟨v, hv2, iv⟩ := r.get el
    refine ⟨p, vs, v, rfl, rfl, h1, by rw [r.length]; exact hv2, ?_⟩
    obtain ⟨i3, ex⟩ := i1.write hm hv' hw' (lst_code h1) (top_upd (vs := vs.dropLast) (xs := xs.dropLast) hw'.1 (by rw [List.length_dropLast]; omega) r.dropLast)
    cases eb : t.bind d (ρ.set i (some (.list xs.dropLast))) with
    | none => rw [eb] at w; exact absurd rfl w.nb
    | some ρ1 =>
      rw [eb] at w
      exact Tg.put (X := c.X) (t := t) (tg := tg) rfl i3.fr hsl (iv.mono ex) eb fun σ' f' _ => w.nx _ _ rfl σ' _ B ow ⟨f', i3.gi, i3.ev, i3.nw⟩ ex
/-- a plain subscript as a target -/
def PlainSub (X : Cx) (o i : Expr) (pos : Pos) : Prop := ∀ v, assign (.Subscript o i pos) X.env v = (do
      let ov ← holding [v] (eval o X.env)
      let iv ← holding [v, ov] (eval i X.env)
      standAt pos
      holding [v, ov, iv] (setItem ov iv v)
      release [v, ov, iv] [])
/-- x[k] = e, x a list of the slot's own -/
def fSetI (xs : List PyData) (k d : PyData) : Option PyData := match k with | .int k => (ixN xs.length k).map fun j => .list (xs.set j d) | _ => none
def dSetI (i : Nat) (k a : DE) : DS := fun ρ S => onLst ρ i fun xs => (a ρ S).st ρ fun d S1 => (k ρ S1).st ρ fun j S2 => putO ρ i (fSetI xs j d) S2
theorem sv_setI {i : Nat} {e k : Expr} {a dk : DE} {y : Str} {p1 p2 pos : Pos} (hm : m[i]? = some .own) (ha : EV c m e a) (hk : EV c m k dk) (hp : PE c.X (.Name y p1) (tVar i))
    (hq : ∀ te g, PE c.X e te → PG c.X (.Subscript (.Name y p1) k p2) g → PS c.X (.Assign [.Subscript (.Name y p1) k p2] e pos) (tAsg te g)) (hps : PlainSub c.X (.Name y p1) k p2 := by intro _; rfl) (hx : WkX m x.mx = true := by rfl) :
    SV c x m m (.Assign [.Subscript (.Name y p1) k p2] e pos) (dSetI i dk a) := by
  intro He B0 B ow ρ σ H S D i1 w
  refine WS.of (hq _ _ we (pg_sub hp we set_list hps)) ?_
  obtain ⟨d0, p, e0, hv, hv', hw', t⟩ := own_read i1 hm
  obtain ⟨xs, rfl, w⟩ := on_lst e0 w
  obtain ⟨vs, h1, hz, r⟩ := top_lst t
  have pG : p ∉ c.g.G := fun z => hw'.2.1 (i1.fr.gsub p z)
  refine ha σ H ρ S B0 B ow _ i1.fr i1.gi (goalS i1 hx w fun d S1 v H1 e ev i2 w2 gd => ?_)
  refine ⟨.ref p, hv, ?_⟩
  refine hk σ H1 ρ S1 B0 B ow _ i2.fr i2.gi (goalS i2 hx w2 fun d2 S2 v2 H2 e2 ev2 i3 w3 gd2 => ?_)
  have h2 : H2 p = some (.lst vs) := ev2 p _ pG (ev p _ pG h1)
  unfold putO fSetI at w3
  cases gd2 with
  | int k =>
    simp only at w3
    cases q : ixN xs.length k with
    | none => rw [q] at w3; exact absurd rfl w3.nb
    | some j =>
      rw [q] at w3
      refine ⟨p, vs, k, j, rfl, rfl, h2, by rw [r.length]; exact q, ?_⟩
      obtain ⟨i4, ex⟩ := i3.write hm hv' hw' (lst_code h2) (top_upd (vs := vs.set j v) (xs := xs.set j d) hw'.1 (by rw [List.length_set]; exact hz) (((r.mono (ev.fz i1.gi.sub)).mono (ev2.fz i2.gi.sub)).set j (gd.mono (ev2.fz i2.gi.sub))))
      exact w3.nx _ _ rfl σ _ B ow i4 ex
  | _ => exact absurd rfl w3.nb
/-! the lists that all share -/
theorem paired_get {α β : Type} {F : α → β → Prop} : ∀ {l₁ : List α} {l₂ : List β} {k : Nat} {a : α}, Paired F l₁ l₂ → l₁[k]? = some a → ∃ b, l₂[k]? = some b ∧ F a b
  | _, _, _, _, .nil, h => by simp at h
  | _, _, 0, a, .cons r _, h => by simp at h; subst h; exact ⟨_, rfl, r⟩
  | _, _, k + 1, a, .cons _ t, h => by
    obtain ⟨b, h1, h2⟩ := paired_get (k := k) (a := a) t (by simpa using h)
    exact ⟨b, by simpa using h1, h2⟩
theorem paired_set {α β : Type} {F G : α → β → Prop} : ∀ {l₁ : List α} {l₂ : List β} {k : Nat} {a : α} {b : β}, Paired F l₁ l₂ → l₁.Nodup → l₁[k]? = some a → G a b → (∀ a' b', a' ≠ a → a' ∈ l₁ → F a' b' → G a' b') → Paired G l₁ (l₂.set k b)
  | _, _, _, _, _, .nil, _, h, _, _ => by simp at h
  | a0 :: l₁, _, 0, a, b, .cons r t, nd, h, hg, f => by
    simp at h
    subst h
    have nd' := List.nodup_cons.mp nd
    refine .cons hg ?_
    have aux : ∀ {l1 : List α} {l2 : List β}, (∀ y ∈ l1, y ≠ a0 ∧ y ∈ a0 :: l₁) → Paired F l1 l2 → Paired G l1 l2 := by
      intro l1 l2 hm hh
      induction hh with
      | nil => exact .nil
      | cons r t ih => exact .cons (f _ _ (hm _ (List.mem_cons_self ..)).1 (hm _ (List.mem_cons_self ..)).2 r) (ih fun y hy => hm y (List.mem_cons_of_mem _ hy))
    exact aux (fun y hy => ⟨fun e => nd'.1 (e ▸ hy), List.mem_cons_of_mem _ hy⟩) t
  | a0 :: l₁, _, k + 1, a, b, .cons r t, nd, h, hg, f => by
    have nd' := List.nodup_cons.mp nd
    have hk : l₁[k]? = some a := by simpa using h
    have ha : a ∈ l₁ := List.mem_of_getElem? hk
    exact .cons (f _ _ (fun e => nd'.1 (e ▸ ha)) (List.mem_cons_self ..) r) (paired_set t nd'.2 hk hg fun a' b' n hm => f a' b' n (List.mem_cons_of_mem _ hm))
/-- a shared list is changed -/
theorem GI.put {K : PySem.W.Frag} {g : Gx} {k : Nat} {p : Addr} (i : GI K g B H S) (hk : g.SA[k]? = some p) {vs : List V} {xs : List PyData} (hz : vs.length ≤ sizeLine) (h : IsAll K (Fz B H) vs xs) (hl : ∃ ws, H p = some (.lst ws)) : GI K g B (upd H p (.lst vs)) (S.set k xs) := by
  have hpS : p ∈ g.SA := List.mem_of_getElem? hk
  have hpB : p ∈ B := i.sub p (List.mem_append_left _ hpS)
  have nd := List.nodup_append.mp i.nd
  refine ⟨paired_set i.st nd.1 hk ⟨vs, upd_same, hz, by rw [fz_upd hpB]; exact h⟩ fun a' b' n _ ⟨ws, e1, e2, e3⟩ => ⟨ws, by rw [upd_ne n]; exact e1, e2, by rw [fz_upd hpB]; exact e3⟩, ?_, i.sub, fun a ha => ?_, i.nd, fun l hl' => ⟨by
    obtain ⟨ws, hw⟩ := hl
    rw [upd_ne fun e => absurd (e ▸ (i.cd l hl').1) (lst_code hw _)]
    exact (i.cd l hl').1, by rw [fz_upd hpB]; exact (i.cd l hl').2⟩⟩
  · intro q hq
    have ne : q.1 ≠ p := fun e => nd.2.2 p hpS q.1 (List.mem_map.mpr ⟨q, hq, rfl⟩) e.symm
    obtain ⟨ps, h1, h2, h3⟩ := i.tabs q hq
    refine ⟨ps, by rw [upd_ne ne]; exact h1, h2, fun pos cv hc => ?_⟩
    obtain ⟨cc, e1, e2⟩ := h3 pos cv hc
    refine ⟨cc, e1, ?_⟩
    obtain ⟨ws, hw⟩ := hl
    rw [upd_ne fun e => absurd (e ▸ e2) (lst_code hw _)]
    exact e2
  · by_cases e : a = p
    · subst e; rw [upd_same]; intro z; cases z
    · rw [upd_ne e]; exact i.kn a ha
theorem In.putS (i : In c He B0 B ow m ρ σ H S) {k : Nat} {p : Addr} (hk : c.g.SA[k]? = some p) {vs : List V} {xs : List PyData} (hz : vs.length ≤ sizeLine) (h : IsAll c.X.K (Fz B H) vs xs) (hl : ∃ ws, H p = some (.lst ws)) :
    In c He B0 B ow m ρ σ (upd H p (.lst vs)) (S.set k xs) ∧ Ex (Fz B H) (Fz B (upd H p (.lst vs))) := by
  have hpG : p ∈ c.g.G := List.mem_append_left _ (List.mem_of_getElem? hk)
  have ev : Evo c.g.G H (upd H p (.lst vs)) := fun a o n q => by rw [upd_ne fun (e : a = p) => n (e ▸ hpG)]; exact q
  exact ⟨⟨i.fr.evo ev, i.gi.put hk hz h hl, i.ev.trans ev, i.nw⟩, ev.fz i.gi.sub⟩
/-- x[j], x the list at place k -/
def dStIx (k : Nat) (j : DE) : DE := fun ρ S => (j ρ S).bind fun y S1 => match S1[k]? with | some xs => ofO (fIx (.list xs) y) S1 | none => .bad
theorem ev_stIx {i k : Nat} {e : Expr} {a : DE} {y : Str} {p1 pos : Pos} (hm : m[i]? = some (.st k)) (hp : PE c.X (.Name y p1) (tVar i)) (ha : EV c m e a) (hs : PlainIx e) : EV c m (.Subscript (.Name y p1) e pos) (dStIx k a) := by
  intro σ H ρ S B0 B ow Q fr gi g
  refine PD.WE.of (pe_ix ix_list hp we hs) ?_
  obtain ⟨p, hk, hv⟩ := fr.slot i _ hm
  refine ⟨.ref p, ?_, ?_⟩
  · rw [List.getD_eq_getElem?_getD] at hv
    cases h2 : σ[i]? with
    | none => rw [h2] at hv; cases hv
    | some o => rw [h2] at hv; rw [show o = some _ from hv]
  · refine ha σ H ρ S B0 B ow _ fr gi (g.bind fun d S1 v H1 _ ev1 gi1 gd1 g1 => ?_)
    obtain ⟨xs, hx, vs, h1, hz, r⟩ := paired_get gi1.st hk
    rw [hx] at g1
    simp only at g1
    cases gd1 with
    | int j =>
      cases q : fIx (.list xs) (.int j) with
      | none => rw [q] at g1; exact absurd rfl g1.not_bad
      | some z =>
        rw [q] at g1
        obtain ⟨w, hw, iw⟩ := r.atI (i := j) (d := z) q
        exact ⟨p, vs, j, w, rfl, rfl, .inl (.inl h1), hw, g1.ok0 gi1 iw⟩
    | _ => exact absurd rfl g1.not_bad
/-- x[j] = e, x the list at place k -/
def dStSet (k : Nat) (j a : DE) : DS := fun ρ S => (a ρ S).st ρ fun d S1 => (j ρ S1).st ρ fun y S2 => match S2[k]? with
  | some xs => (match fSetI xs y d with | some (.list ys) => .nx ρ (S2.set k ys) | _ => .bad)
  | none => .bad
theorem sv_stSet {i k : Nat} {e j : Expr} {a dj : DE} {y : Str} {p1 p2 pos : Pos} (hm : m[i]? = some (.st k)) (hp : PE c.X (.Name y p1) (tVar i)) (ha : EV c m e a) (hj : EV c m j dj)
    (hq : ∀ te g, PE c.X e te → PG c.X (.Subscript (.Name y p1) j p2) g → PS c.X (.Assign [.Subscript (.Name y p1) j p2] e pos) (tAsg te g)) (hps : PlainSub c.X (.Name y p1) j p2 := by intro _; rfl) (hx : WkX m x.mx = true := by rfl) :
    SV c x m m (.Assign [.Subscript (.Name y p1) j p2] e pos) (dStSet k dj a) := by
  intro He B0 B ow ρ σ H S D i1 w
  refine WS.of (hq _ _ we (pg_sub hp we set_list hps)) ?_
  refine ha σ H ρ S B0 B ow _ i1.fr i1.gi (goalS i1 hx w fun d S1 v H1 e ev i2 w2 gd => ?_)
  obtain ⟨p, hk, hv⟩ := i2.fr.slot i _ hm
  refine ⟨.ref p, ?_, ?_⟩
  · rw [List.getD_eq_getElem?_getD] at hv
    cases h2 : σ[i]? with
    | none => rw [h2] at hv; cases hv
    | some o => rw [h2] at hv; rw [show o = some _ from hv]
  · refine hj σ H1 ρ S1 B0 B ow _ i2.fr i2.gi (goalS i2 hx w2 fun d2 S2 v2 H2 e2 ev2 i3 w3 gd2 => ?_)
    obtain ⟨xs, hx2, vs, h1, hz, r⟩ := paired_get i3.gi.st hk
    rw [hx2] at w3
    simp only at w3
    cases gd2 with
    | int q =>
      unfold fSetI at w3
      simp only at w3
      cases q2 : ixN xs.length q with
      | none => rw [q2] at w3; exact absurd rfl w3.nb
      | some n =>
        rw [q2] at w3
        refine ⟨p, vs, q, n, rfl, rfl, h1, by rw [r.length]; exact q2, ?_⟩
        obtain ⟨i4, ex⟩ := i3.putS hk (vs := vs.set n v) (xs := xs.set n d) (by rw [List.length_set]; exact hz) (r.set n (gd.mono (ev2.fz i2.gi.sub))) ⟨vs, h1⟩
        exact w3.nx _ _ rfl σ _ B ow i4 ex
    | _ => exact absurd rfl w3.nb
end
end PD
/-! PDm: raise, try, an exception in hand. -/
namespace PD
open PySem PySem.Spec PyProof.Rows L2
/-- C() -/
theorem pmk_own0 {X : Cx} {C : Addr} {bmB : List Value} {B newId initId : String} {x : Str} {p pos : Pos} (F : ExcBaseFacts B newId initId bmB) (q : PySem.W.excIn X.K C bmB newId = true) (gC : X.mg x = some (.ref C)) (kC : PySem.W.keepIn X.K (.ref C) = true) (r : Raises X (.ref C)) (hg : Gl X x)
    (hdb : (x == ("__debug__" : Str)) = false := by decide) : PMk X (.Call (.Name x p) [] [] pos) (fun _ H Q => Q (.ref C) none H) := by
  intro pins s σ H Q I h
  refine wpAny_Call_Name_kw (ld_glob I hg gC ?_ hdb)
  refine PySem.W.callWith_K0 I.kIn kC ?_
  show wpAny _ _ (call (.ref C) []) _ _ _
  obtain ⟨bm, N, nm, qn, bs, hdct, sn, sub, ab, col, dd, k0, k1, k2, k3, k5, mN, hC, hN, hni, T⟩ := exc_obj I.kIn q
  refine wpAny_call_exc_subT F T hC hN hni (fun h' e hm => ?_) (Nat.zero_le _)
  exact mk_of I hm r h (I.hok.gone hm.new)
/-- a class of errors without fields -/
structure Ex0 (K : PySem.W.Frag) (mg : Str → Option Value) (x : Str) (C : Addr) : Prop where
  q : PySem.W.excIn K C [.type "ValueError", .type "Exception", .type "BaseException", .type "object"] "ValueError.__new__" = true
  g : mg x = some (.ref C)
  k : PySem.W.keepIn K (.ref C) = true
  b : PySem.W.subIn K (.ref C) (.type "BaseException") = some true
  t : PySem.W.typeIn K (.ref C) = some (.type "type")
section
variable {c : Cc} {x : Fx} {m m' m1 m2 : List Md} {He : Hp} {B0 B : List Addr} {ow : Addr → Nat} {ρ : Env} {σ : L2.St} {H : Hp} {S : Store} {D : Ends}
def dRaise0 (n : Str) : DS := fun ρ S => .exc ⟨n, []⟩ ρ S
theorem sv_raise0 {n : Str} {C : Addr} {p pos pos2 : Pos} (T : Ex0 c.X.K c.X.mg n C) (hc : c.X.calm = true) (tk : Takes c.X c.W) (hg : Gl c.X n) (hdb : (n == ("__debug__" : Str)) = false := by decide) (hx : WkX m x.mx = true := by rfl) :
    SV c x m m1 (.Raise (some (.Call (.Name n p) [] [] pos)) none pos2) (dRaise0 n) := by
  intro He B0 B ow ρ σ H S D i w
  refine WS.of (ps_raise hc tk (pmk_own0 PySem.F.excBase_ValueError T.q T.g T.k (raises_own T.b T.t) hg hdb)) ?_
  exact w.ex _ _ _ rfl σ H B ow _ _ (MxOk.of i.fr hx) i.gi i.ev i.nw i.fr.sub (Ex.refl _) ⟨C, T.g, rfl, .inl ⟨rfl, rfl⟩⟩
/-! errors with one field -/
/-- __init__'s promise: self.f = the argument -/
def spInit (K : PySem.W.Frag) (C : Addr) (f : Str) : Sp := fun vs H Q _ => ∃ (a : Addr) (v : V), vs = [.ref a, v] ∧ OexC K C ∧ PySem.W.findIn K (.ref C) f = some none ∧ H a = some (exo a C none) ∧
  ∀ dx, H dx = none → dx ≠ a → Q .non (upd (upd H dx (exd dx [(f, v)])) a (exo a C (some dx)))
/-- a class of errors with the field f -/
structure Ex1 (X : Cx) (k : Nat) (n : Str) (C fI : Addr) (fd : FuncData) (f : Str) (ps : List Str) : Prop where
  T : OexC X.K C
  g : X.mg n = some (.ref C)
  i : PySem.W.findIn X.K (.ref C) "__init__" = some (some (.ref fI))
  ti : PySem.W.typeIn X.K (.ref fI) = some (.type "function")
  no : PySem.W.findIn X.K (.ref C) f = some none
  F : FnOk X.prog X.w X.K X.mg X.base CX0 k fI fd ps (spInit X.K C f)
  b : Binds X.K fd ps []
def dRaise1 (n f : Str) (a : DE) : DS := fun ρ S => (a ρ S).st ρ fun d S1 => .exc ⟨n, [(f, d)]⟩ ρ S1
theorem sv_raise1 {n f : Str} {C fI : Addr} {fd : FuncData} {ps : List Str} {k : Nat} {e : Expr} {a : DE} {p pos pos2 : Pos} (T : Ex1 c.X k n C fI fd f ps) (hr : Room (k + 1) c.X.A) (hc : c.X.calm = true) (tk : Takes c.X c.W) (hg : Gl c.X n) (ha : EV c m e a) (hs : Pl e := by intro _ _; rfl) (hdb : (n == ("__debug__" : Str)) = false := by decide) (hx : WkX m x.mx = true := by rfl) :
    SV c x m m1 (.Raise (some (.Call (.Name n p) [e] [] pos)) none pos2) (dRaise1 n f a) := by
  intro He B0 B ow ρ σ H S D i w
  refine WS.of (ps_raise hc tk (pmk_oex T.T T.i T.ti T.F hr T.b .nil (fun _ _ _ _ _ _ _ h => h.elim) hg T.g (pa_cons we pa_nil (hs _ _)) hdb (hs _ _) (by rw [show starEach [] c.X.env = [] from rfl]; rfl))) ?_
  refine ha σ H ρ S B0 B ow _ i.fr i.gi (goalS i hx w fun d S' v H' e ev i2 w2 gd => ?_)
  refine ⟨(by show 1 ≤ 1000; decide), fun q hq => ⟨q, v, rfl, T.T, T.no, upd_same, fun dx hdx ne => ⟨rfl, dx, [(f, v)], upd_same, by rw [upd_ne ne, upd_same], ?_, ?_⟩⟩⟩
  · rw [upd_ne ne] at hdx
    exact hdx
  · rw [upd_ne ne] at hdx
    -- the heap behind it: H', and the exception's own dict
    have eH : upd (del (upd (upd (upd H' q (exo q C none)) dx (exd dx [(f, v)])) q (exo q C (some dx))) q) dx (.xd [(f, v)]) = upd H' dx (.xd [(f, v)]) := by
      funext b
      by_cases e1 : b = dx
      · subst e1; rw [upd_same, upd_same]
      · rw [upd_ne e1, upd_ne e1]
        by_cases e2 : b = q
        · subst e2; rw [del_same, hq]
        · rw [del_ne e2, upd_ne e2, upd_ne e1, upd_ne e2]
    rw [eH]
    have ex := Ex.new (o := HO.xd [(f, v)]) hdx
    refine w2.ex _ _ _ rfl σ _ B ow _ _ (MxOk.of (i2.fr.evo ex.evo) hx) (i2.gi.ex ex) (i2.ev.trans ex.evo) i2.nw i2.fr.sub ex.fz ⟨C, T.g, rfl, .inr ⟨dx, [(f, v)], rfl, fz_new i2.gi.kn hdx, rfl, .cons (gd.mono ex.fz) .nil⟩⟩
/-- __init__(self, f): self.f = f -/
theorem init_ok {P : Program} {w : World} {K : PySem.W.Frag} {mg : Str → Option Value} {base : Heap} {C fI : Addr} {fd : FuncData} {qual f a1 a2 : Str} {st : Stmt} {p1 p2 p3 p4 pos : Pos} (F : Fun K "__init__" qual st fI fd) (S : FnScope [a1, a2] [a1, a2] (defScope st))
    (hb : defBody st = [.Assign [.Attribute (.Name a1 p1) f p2] (.Name a2 p3) p4]) (h1 : Vis (defScope st) a1) (h2 : Vis (defScope st) a2) (d1 : (a1 == ("__debug__" : Str)) = false) (d2 : (a2 == ("__debug__" : Str)) = false) (e1 : (a1 == ("__classdict__" : Str)) = false) (e2 : (a2 == ("__classdict__" : Str)) = false) :
    FnOk P w K mg base CX0 1 fI fd [a1, a2] (spInit K C f) := by
  refine F.ok S (fun vs H Q E h => ?_) (fun cdv A outer s H vs Q E hr h => ?_)
  · obtain ⟨a, v, rfl, _⟩ := h
    rfl
  · obtain ⟨a, v, rfl, T, no, ha, q⟩ := h
    rw [hb]
    refine ⟨_, pss_one (ps_ost (pe_var (i := 0) rfl h1 d1 e1) (pe_var (i := 1) rfl h2 d2 e2)), ?_⟩
    exact ⟨v, rfl, .ref a, rfl, a, C, rfl, T, no, .inl ⟨ha, fun dx n ne => q dx n ne⟩⟩
/-! ### try .. except C as n -/
/-- exceptions are not let out -/
def RS.calm (r : RS) : RS := match r with | .exc _ _ _ => .bad | .brk _ _ => .bad | r => r
/-- what a clause takes: the names known, which of them it takes -/
def dTry (cs : List Str) (sub : Str → Bool) (db : DS) (dh : Xc → DS) : DS := fun ρ S => match db ρ S with
  | .exc xc ρ' S' => if cs.contains xc.cls then (if sub xc.cls = true then (dh xc ρ' S').calm else .exc xc ρ' S') else .bad
  | r => r
def noEa (m : List Md) : Bool := m.all fun k => decide (k ≠ .ea)
theorem Frame.setE {K : PySem.W.Frag} {g g' : Gx} (hS : g'.SA = g.SA) (hG : g'.G = g.G) (hL : g'.L = g.L) (f : Frame K g B0 B ow m ρ σ H) (h : noEa m = true) : Frame K g' B0 B ow m ρ σ H := by
  refine ⟨f.lm, f.ls, f.sub, by rw [hG]; exact f.gsub, fun i md hi => ?_⟩
  have q := f.slot i md hi
  have ne := of_decide_eq_true (List.all_eq_true.mp h md (List.mem_of_getElem? hi))
  cases md with
  | ea => exact absurd rfl ne
  | st k => obtain ⟨p, h1, h2⟩ := q; exact ⟨p, by rw [hS]; exact h1, h2⟩
  | lm => obtain ⟨l, h1, h2⟩ := q; exact ⟨l, by rw [hL]; exact h1, h2⟩
  | _ => exact q
theorem GI.setE {K : PySem.W.Frag} {g g' : Gx} (hS : g'.SA = g.SA) (hT : g'.T = g.T) (hL : g'.L = g.L) (i : GI K g B H S) : GI K g' B H S := by
  have hG : g'.G = g.G := by unfold Gx.G; rw [hS, hT]
  exact ⟨by rw [hS]; exact i.st, by rw [hT]; exact i.tabs, by rw [hG]; exact i.sub, i.kn, by rw [hG]; exact i.nd, by rw [hL]; exact i.cd⟩
abbrev Gx.withE (g : Gx) (a : Addr) (xc : Xc) (d : Option Addr) : Gx := ⟨g.SA, g.T, some (a, xc, d), g.L⟩
/-- the context of an except suite -/
abbrev Cc.suite (c : Cc) (a : Addr) (oe : Obj) (d : Option Addr) (pn : List (Addr × Obj)) (xc : Xc) : Cc := ⟨c.g.withE a xc d, c.X.suite a ((a, oe) :: pn), fun _ _ _ _ => False⟩
theorem sv_tryAs {n : Str} {en : Str} {CA : Addr} {i : Nat} {cs : List Str} {sub : Str → Bool} {body suite : List Stmt} {b₀ : Stmt} {np pos pos' : Pos} {db : DS} {dh : Xc → DS} {mh : List Md}
    (hst : c.X.stack = c.X.env :: c.X.outer) (hf : c.X.env.frame = some c.X.env.locals) (hN : c.X.N.Nodup) (hi : c.X.N[i]? = some n) (hln : c.X.env.kindOf n = some .local) (hc : Names c.X en (.ref CA)) (tk : Takes c.X c.W) (hil : i < mh.length)
    (hsub : ∀ y ∈ cs, ∀ E, c.X.mg y = some (.ref E) → PySem.W.exmOne c.X.K (.ref E) (.ref CA) = some (sub y)) (hno : noEa mh = true)
    (hb : ∀ W pn xe, Takes (c.X.tr pn xe) W → PassesOwn (model c.X.prog c.X.w) c.X.A c.X.env xe → SVs ⟨c.g, c.X.tr pn xe, W⟩ { x with mx := some mh } m m' body db)
    (hd : ∀ a oe d pn xc E, Zc (.ref E) d oe → (∃ vs, oe.data = .fields vs) → c.X.mg xc.cls = some (.ref E) → xc.cls ∈ cs → SVs (c.suite a oe d pn xc) { x with mx := none } (mh.set i .ea) m2 (b₀ :: suite) (dh xc))
    (hm2 : Wk (m2.set i .un) m' = true) (hno2 : noEa (m2.set i .un) = true) (hi2 : i < m2.length) (hx : WkX mh x.mx = true) :
    SV c x m m' (.Try body [.ExceptHandler (some (.Name en np)) (some n) (b₀ :: suite) pos'] [] [] pos) (dTry cs sub db dh) := by
  intro He B0 B ow ρ σ H S D i1 w
  refine WS.of (ps_try_as (tb := fun W D σ H => ∀ pn xe, Takes (c.X.tr pn xe) W → PassesOwn (model c.X.prog c.X.w) c.X.A c.X.env xe → WSs (c.X.tr pn xe) body D σ H)
    (ts := fun a cls d D σ H => ∀ oe pn, Zc cls d oe → (∃ vs, oe.data = .fields vs) → WSs (c.X.suite a ((a, oe) :: pn)) (b₀ :: suite) D σ H) hst hf hN hi hln hc tk
    (fun W pn xe t po => ⟨fun pins s σ H D I h => (h pn xe t po).go pins s I⟩) (fun a oe cls d pn hz hv => ⟨fun pins s σ H D I h => (h oe pn hz hv).go pins s I⟩)) ?_
  intro pn xe t po
  refine hb _ pn xe t po He B0 B ow ρ σ H S _ ⟨i1.fr, i1.gi, i1.ev, i1.nw⟩ ⟨fun ρ' S' e σ' H' B' ow' i2 ex => ?_, fun d S' e => ?_, fun ρ' S' e σ' H' B' ow' i2 ex => ?_, fun xc ρ' S' e σ' H' B' ow' cls dd mxo gi ev nw sb exx xr => ?_, fun e => ?_⟩
  · exact w.nx ρ' S' (by simp only [dTry, e]) σ' H' B' ow' ⟨i2.fr, i2.gi, i2.ev, i2.nw⟩ ex
  · exact w.rt d S' (by simp only [dTry, e])
  · exact w.bk ρ' S' (by simp only [dTry, e]) σ' H' B' ow' ⟨i2.fr, i2.gi, i2.ev, i2.nw⟩ ex
  · -- the exception has come
    obtain ⟨E, g1, rfl, fsr⟩ := xr
    have nb := w.nb
    by_cases hcs : xc.cls ∈ cs
    · refine ⟨sub xc.cls, hsub _ hcs E g1, fun hs a ha oe pn2 hz hv => ?_, fun hs => ?_⟩
      · have er : dTry cs sub db dh ρ S = (dh xc ρ' S').calm := by
          simp only [dTry, e]
          rw [if_pos (List.contains_iff_mem.mpr hcs), if_pos hs]
        rw [er] at w
        have fr' : Frame c.X.K (c.g.withE a xc dd) B0 B' ow' mh ρ' σ' H' := Frame.setE (g := c.g) rfl rfl rfl mxo hno
        have gi' : GI c.X.K (c.g.withE a xc dd) B' H' S' := GI.setE (g := c.g) rfl rfl rfl gi
        have hρ : i < ρ'.length := by rw [← mxo.lm]; exact hil
        have hσ : i < σ'.length := by rw [mxo.ls]; exact hρ
        have fr2 : Frame c.X.K (c.g.withE a xc dd) B0 B' ow' (mh.set i .ea) ρ' (σ'.set i (some (.ref a))) H' := by
          refine ⟨by rw [List.length_set]; exact fr'.lm, by rw [List.length_set]; exact fr'.ls, fr'.sub, fr'.gsub, fun j md hj => ?_⟩
          rw [getD_set hσ]
          by_cases ej : i = j
          · subst ej
            rw [List.getElem?_set_self hil] at hj
            cases hj
            rw [if_pos rfl]
            exact ⟨a, xc, dd, rfl, rfl, fsr⟩
          · rw [List.getElem?_set_ne ej] at hj
            rw [if_neg ej]
            exact fr'.slot j md hj
        refine hd a oe dd pn2 xc E hz hv g1 hcs He B0 B' ow' ρ' _ H' S' _ ⟨fr2, gi', ev, nw⟩ ⟨fun ρ3 S3 e3 σ3 H3 B3 ow3 i3 ex3 => ?_, fun d S3 e3 v H3 ev3 gi3 rs => ?_, fun ρ3 S3 e3 σ3 H3 B3 ow3 i3 ex3 => ?_, fun xc3 ρ3 S3 e3 => ?_, fun e3 => ?_⟩
        · refine w.nx ρ3 S3 (by rw [e3]; rfl) _ H3 B3 ow3 ⟨(Frame.setE (g := c.g.withE a xc dd) (g' := c.g) rfl rfl rfl (i3.fr.unk hi2) hno2).weak hm2, GI.setE (g := c.g.withE a xc dd) (g' := c.g) rfl rfl rfl i3.gi, i3.ev, i3.nw⟩ (exx.trans ex3)
        · refine w.rt d S3 (by rw [e3]; rfl) v H3 ev3 (GI.setE (g := c.g.withE a xc dd) (g' := c.g) rfl rfl rfl gi3) ?_
          unfold ResOk at rs ⊢
          split at rs
          · rename_i q
            rw [if_pos q]
            obtain ⟨p, r1, r2, r3, r4⟩ := rs
            exact ⟨p, r1, r2, r3, GI.setE (g := c.g.withE a xc dd) (g' := c.g) rfl rfl rfl r4⟩
          · rename_i q
            rw [if_neg q]
            exact rs
        · exact absurd (by rw [e3]; rfl) w.nb
        · exact absurd (by rw [e3]; rfl) w.nb
        · exact absurd (by rw [e3]; rfl) w.nb
      · have er : dTry cs sub db dh ρ S = .exc xc ρ' S' := by
          simp only [dTry, e]
          rw [if_pos (List.contains_iff_mem.mpr hcs), if_neg (by rw [hs]; simp)]
        exact w.ex xc ρ' S' er σ' H' B' ow' _ dd (MxOk.of mxo hx) gi ev nw sb exx ⟨E, g1, rfl, fsr⟩
    · exact absurd (by simp only [dTry, e]; rw [if_neg (fun z => hcs (List.contains_iff_mem.mp z))]) nb
  · exact w.nb (by simp only [dTry, e])
/-! ### an exception in hand -/
theorem call_isX {X : Cx} {a D : Addr} {oe : Obj} {d : Option Addr} {pn : List (Addr × Obj)} (C : ExcC X.K D) (hz : Zc (.ref D) d oe) (hf : ∃ vs, oe.data = .fields vs) :
    CallR (X.suite a ((a, oe) :: pn)) (.builtin "isinstance") (fun xs H Q => (∀ dd, d = some dd → ∃ fs, H dd = some (.xd fs)) ∧ rIsE X.K D a xs H Q) := by
  intro pins s σ H xs us Q I r h
  obtain ⟨hdd, c, cv, b, rfl, hcv, e, q⟩ := h
  cases r with
  | cons rx rr =>
    cases rr with
    | cons rt rr =>
      cases rr
      cases rx
      have ec := hcv _ rt
      subst ec
      obtain ⟨hget, _⟩ := I.pin (a, oe) (List.mem_append.mpr (.inl List.mem_cons_self))
      obtain ⟨vs, hv⟩ := hf
      have J : ∃ od, PySem.W.InstAt s.heap a oe D od := by
        cases d with
        | none =>
          refine ⟨none, hget, hz.1, by unfold PySem.W.notCls; rw [hv] <;> rfl, ?_⟩
          rw [hz.2]
          trivial
        | some dd =>
          obtain ⟨fs, hfs⟩ := hdd dd rfl
          have hx : ObjOk X.prog X.w H s.heap dd (.xd fs) := I.hok dd _ hfs
          obtain ⟨mA, hns, hr⟩ := hx
          obtain ⟨od, ho, hl⟩ := lookIn_ns hns
          refine ⟨some od, hget, hz.1, by unfold PySem.W.notCls; rw [hv] <;> rfl, ?_⟩
          rw [hz.2]
          exact ho
      obtain ⟨od, J⟩ := J
      have hcl : (PySem.W.clsIn X.K D).isSome = true := by
        obtain ⟨cd, hc, _⟩ := PySem.W.any_some C.hd
        rw [hc]; rfl
      exact PySem.W.kia_one (PySem.W.kitx_exc hcl C.hg C.hk C.hs C.ha C.hn C.ht C.hm) I.kIn J e (fun z => nomatch z) fun tk => ⟨.bl b, H, I.kept (t' := tk) fun _ _ z => z, rfl, q⟩
/-- the slot that holds the exception -/
theorem ea_read {K : PySem.W.Frag} {g : Gx} {a : Addr} {xc : Xc} {d : Option Addr} (fr : Frame K (g.withE a xc d) B0 B ow m ρ σ H) {i : Nat} (hm : m[i]? = some .ea) : σ[i]? = some (some (.ref a)) ∧ FsRep K (Fz B H) xc d := by
  obtain ⟨a', x', d', e, hv, f⟩ := fr.slot i _ hm
  cases e
  refine ⟨?_, f⟩
  rw [List.getD_eq_getElem?_getD] at hv
  cases h2 : σ[i]? with
  | none => rw [h2] at hv; cases hv
  | some o => rw [h2] at hv; rw [show o = some _ from hv]
def dXc (v : Option PyData) : DE := fun _ S => ofO v S
/-- isinstance(e, C) -/
theorem ev_isX {a D : Addr} {oe : Obj} {d : Option Addr} {pn : List (Addr × Obj)} {xc : Xc} {i : Nat} {y C : Str} {v : V} {cv : Value} {b : Bool} {p1 p2 p pos : Pos} (T : ExcC c.X.K D) (hz : Zc (.ref D) d oe) (hf : ∃ vs, oe.data = .fields vs)
    (hm : m[i]? = some .ea) (hp : PE (c.suite a oe d pn xc).X (.Name y p1) (tVar i)) (hC : PE (c.suite a oe d pn xc).X (.Name C p2) (tC v)) (hr : ∀ u, RelV v u → u = cv) (hk : PySem.W.kitOne c.X.K (.ref D) cv = some b)
    (hg : Gl (c.suite a oe d pn xc).X "isinstance") (hmg : c.X.mg "isinstance" = none) : EV (c.suite a oe d pn xc) m (.Call (.Name "isinstance" p) [.Name y p1, .Name C p2] [] pos) (dXc (some (.bool b))) := by
  intro σ H ρ S B0 B ow Q fr gi g
  refine PD.WE.of (pe_callB (call_isX T hz hf) hg hmg PyProof.Rows.boot_isinstance (pa_cons hp (pa_cons hC pa_nil))) ?_
  obtain ⟨h1, h2⟩ := ea_read fr hm
  refine ⟨.ref a, h1, ?_⟩
  refine ⟨fun dd e => ?_, v, cv, b, rfl, hr, hk, g.ok0 gi (.bl b)⟩
  rcases h2 with ⟨_, e2⟩ | ⟨d', fs, e2, e3, _⟩
  · rw [e2] at e; cases e
  · rw [e2] at e; cases e
    exact ⟨fs, fz_le _ _ e3⟩
theorem lookup_is {K : PySem.W.Frag} {f : Str} : ∀ {fs : List (Str × V)} {gs : List (Str × PyData)} {d : PyData}, fs.map (·.1) = gs.map (·.1) → IsAll K H (fs.map (·.2)) (gs.map (·.2)) → gs.lookup f = some d → ∃ v, fs.lookup f = some v ∧ Is K H v d
  | [], [], d, _, _, h => by cases h
  | [], _ :: _, d, e, _, _ => by cases e
  | _ :: _, [], d, e, _, _ => by cases e
  | (n, v) :: fs, (n', d') :: gs, d, e, h, l => by
    simp only [List.map_cons, List.cons.injEq] at e h
    obtain ⟨rfl, e⟩ := e
    cases h with
    | cons h1 h2 =>
      rw [List.lookup_cons] at l ⊢
      cases q : (f == n) with
      | true => rw [q] at l; cases l; exact ⟨v, rfl, h1⟩
      | false => rw [q] at l; exact lookup_is e h2 l
/-- e.f -/
theorem ev_fld {a D : Addr} {oe : Obj} {d : Option Addr} {pn : List (Addr × Obj)} {xc : Xc} {i : Nat} {y f : Str} {p1 pos : Pos} (T : XfC c.X.K D) (hno : PySem.W.findIn c.X.K (.ref D) f = some none) (hz : Zc (.ref D) d oe) (hf : ∃ vs, oe.data = .fields vs)
    (hm : m[i]? = some .ea) (hp : PE (c.suite a oe d pn xc).X (.Name y p1) (tVar i)) (hb : attributeBase (.Name y p1) f c.X.env (eval (.Name y p1) c.X.env) = eval (.Name y p1) c.X.env := by rfl) : EV (c.suite a oe d pn xc) m (.Attribute (.Name y p1) f pos) (dXc (xc.fs.lookup f)) := by
  intro σ H ρ S B0 B ow Q fr gi g
  refine PD.WE.of (pe_xf T hno hz hf hp hb) ?_
  obtain ⟨h1, h2⟩ := ea_read fr hm
  refine ⟨.ref a, h1, rfl, rfl, ?_⟩
  unfold dXc at g
  cases l : xc.fs.lookup f with
  | none => rw [l] at g; exact absurd rfl g.not_bad
  | some z =>
    rw [l] at g
    rcases h2 with ⟨e1, _⟩ | ⟨dd, fs, e2, e3, e4, e5⟩
    · rw [e1] at l; cases l
    · obtain ⟨v, l2, iv⟩ := lookup_is e4 e5 l
      exact ⟨dd, fs, v, e2, fz_le _ _ e3, l2, g.ok0 gi iv⟩
end
end PD
/-! PDn: defs; lambdas handed in. -/
namespace PD
open PySem PySem.Spec PyProof.Rows L2
def RS.fin (fr : Bool) : RS → R PyData
  | .ret d S => .ok d S
  | .nx _ S => if fr = true then .bad else .ok .none S
  | .brk _ _ => .bad
  | .exc x _ S => .exc x S
  | .bad => .bad
def env0 (n : Nat) (ds : List PyData) : Env := ds.map some ++ List.replicate (n - ds.length) none
def mds0 (n : Nat) (ks : List Md) : List Md := ks ++ List.replicate (n - ks.length) .fz
theorem env0_out {n i : Nat} {ds : List PyData} (h : ds.length ≤ i) : (env0 n ds).getD i none = none := by
  unfold env0
  rw [List.getD_eq_getElem?_getD, List.getElem?_append_right (by simpa using h), List.getElem?_replicate]
  split <;> rfl
def dFn (fr : Bool) (n : Nat) (body : DS) : List PyData → Store → R PyData := fun ds S => (body (env0 n ds) S).fin fr
/-- modes that an argument may have -/
def argMd : Md → Bool | .fz => true | .st _ => true | .cs => true | _ => false
theorem ArgsOk.lenD {K : PySem.W.Frag} {g : Gx} {B : List Addr} {H : Hp} : ∀ {ks : List Md} {vs : List V} {ds : List PyData}, ArgsOk K g B H ks vs ds → ds.length = ks.length
  | _, _, _, .nil => rfl
  | _, _, _, .cons _ r => by simp [ArgsOk.lenD r]
theorem ArgsOk.slot {K : PySem.W.Frag} {g : Gx} {B0 B : List Addr} {ow : Addr → Nat} {H : Hp} : ∀ {ks : List Md} {vs : List V} {ds : List PyData} {i j : Nat} {md : Md}, ArgsOk K g B H ks vs ds → ks.all argMd = true → ks[i]? = some md → SlotOk K g B0 B ow H j md ((ds.map some)[i]?.getD none) ((vs.map some)[i]?.getD none)
  | _, _, _, i, j, md, .nil, _, h => by simp at h
  | _, _, _, 0, j, md, .cons h r, ha, e => by
    simp only [List.getElem?_cons_zero, Option.some.injEq] at e
    subst e
    rename_i k ks v vs d ds
    rw [List.all_cons, Bool.and_eq_true] at ha
    cases k with
    | fz => intro d' e'; cases e'; exact ⟨v, rfl, h⟩
    | st k => obtain ⟨rfl, p, h1, h2⟩ := h; exact ⟨p, h1, by rw [h2]; rfl⟩
    | cs => obtain ⟨a, vs', ds', rfl, rfl, h1, h2, h3⟩ := h; exact ⟨a, vs', ds', rfl, rfl, h1, h2, h3⟩
    | _ => exact absurd ha.1 (by simp [argMd])
  | _, _, _, i + 1, j, md, .cons h r, ha, e => by
    rw [List.all_cons, Bool.and_eq_true] at ha
    simpa using ArgsOk.slot (i := i) (j := j) r ha.2 (by simpa using e)
theorem frame0 {K : PySem.W.Frag} {g : Gx} {B : List Addr} {H : Hp} {S : Store} {ks : List Md} {vs : List V} {ds : List PyData} {N : List Str} (gi : GI K g B H S) (a : ArgsOk K g B H ks vs ds) (ha : ks.all argMd = true) (hn : ks.length ≤ N.length) :
    Frame K g B B (fun _ => 0) (mds0 N.length ks) (env0 N.length ds) (L2.start N vs) H := by
  have l1 := a.length
  have l2 := a.lenD
  refine ⟨?_, ?_, fun _ h => h, gi.sub, fun i md hi => ?_⟩
  · unfold mds0 env0; simp [l2]
  · unfold env0 L2.start; simp [l1, l2]
  · by_cases h : i < ks.length
    · have e1 : ks[i]? = some md := by
        unfold mds0 at hi
        rwa [List.getElem?_append_left h] at hi
      have := a.slot (B0 := B) (ow := fun _ => 0) (j := i) ha e1
      unfold env0 L2.start
      rw [List.getD_eq_getElem?_getD, List.getD_eq_getElem?_getD, List.getElem?_append_left (by simp [l2]; exact h), List.getElem?_append_left (by simp [l1]; exact h)]
      exact this
    · have : md = .fz := by
        unfold mds0 at hi
        rw [List.getElem?_append_right (by omega), List.getElem?_replicate] at hi
        split at hi
        · cases hi; rfl
        · cases hi
      subst this
      intro d e
      rw [env0_out (by omega)] at e
      cases e
/-- the context of a def's body -/
abbrev fnC (g : Gx) (P : Program) (w : World) (K : PySem.W.Frag) (mg : Str → Option Value) (base : Heap) (N : List Str) (qual : Str) (st : Stmt) (f : Addr) (cdv : Value) (A : Around) (outer : List PySem.Env) (s : Shared) (H : Hp) (E : XK) : Cc :=
  ⟨g, cxOf (L2.CX P w) P w K mg base N qual (defScope st) f cdv A outer s H E, fun cls d _ H' => E cls d H'⟩
/-- as Fun, the code object told -/
structure FunC (K : PySem.W.Frag) (x qual : Str) (st : Stmt) (f : Addr) (fd : FuncData) (cA : Addr) : Prop where
  ex : ∃ (oc : Value) (od : Option Addr) (kV doc pm : Value) (an : Option Addr) (ct : Value) (osl : Array (Option Value)),
    fd = PySem.W.fnOf x qual (defArgs st) (defBody st) (defScope st) .none kV doc pm an (.ref cA) ct ∧ K.lookup f = some ⟨oc, od, .func fd, osl⟩ ∧ PySem.W.codeIn K (.ref cA) qual = true
  kp : PySem.W.keepIn K (.ref f) = true
theorem FunC.fn {K : PySem.W.Frag} {x qual : Str} {st : Stmt} {f : Addr} {fd : FuncData} {cA : Addr} (F : FunC K x qual st f fd cA) : Fun K x qual st f fd := by
  obtain ⟨⟨oc, od, kV, doc, pm, an, ct, osl, e, lk, hc⟩, kp⟩ := F
  exact ⟨⟨oc, od, kV, doc, pm, an, _, ct, osl, e, lk, hc⟩, kp⟩
theorem func_mk {K : PySem.W.Frag} {x qual : Str} {st : Stmt} {f cA : Addr} {oc : Value} {od an : Option Addr} {osl : Array (Option Value)} {kV doc pm ct : Value} (l : K.lookup f = some ⟨oc, od, .func (PySem.W.fnOf x qual (defArgs st) (defBody st) (defScope st) .none kV doc pm an (.ref cA) ct), osl⟩)
    (c : PySem.W.codeIn K (.ref cA) qual = true) (k : PySem.W.keepIn K (.ref f) = true) : FunC K x qual st f (PySem.W.fnOf x qual (defArgs st) (defBody st) (defScope st) .none kV doc pm an (.ref cA) ct) cA := ⟨⟨oc, od, kV, doc, pm, an, ct, osl, rfl, l, c⟩, k⟩
theorem FunC.okX {P : Program} {w : World} {K : PySem.W.Frag} {mg : Str → Option Value} {base : Heap} {x qual : Str} {st : Stmt} {f cA : Addr} {fd : FuncData} {N ps : List Str} {k : Nat} {sp : Sp} (F : FunC K x qual st f fd cA) (S : FnScope N ps (defScope st)) (len : ∀ vs H Q E, sp vs H Q E → vs.length = ps.length)
    (hbody : ∀ (A : Around) (outer : List PySem.Env) (s : Shared) (H : Hp) (vs : List V) (Q : VK) (E : XK), Room k (A.deeper (envOfC qual (defScope st) s.heap.objs.size f (.ref cA))) → sp vs H Q E →
      ∃ t, PSs (cxOf (L2.CX P w) P w K mg base N qual (defScope st) f (.ref cA) A outer s H E) (defBody st) t ∧ t { nx := fun _ H' => Q .non H', rt := Q } (L2.start N vs) H) : FnOk P w K mg base (L2.CX P w) (k + 1) f fd ps sp := by
  obtain ⟨oc, od, kV, doc, pm, an, ct, osl, rfl, lk, hcd⟩ := F.ex
  exact fn_of lk hcd S len fun A outer s H vs Q E hr hsp => hbody A outer s H vs Q E hr hsp
theorem fn_den {P : Program} {w : World} {K : PySem.W.Frag} {mg : Str → Option Value} {base : Heap} {g : Gx} {x qual : Str} {st : Stmt} {f : Addr} {fd : FuncData} {N ps : List Str} {k : Nat} {ks : List Md} {fr : Bool} {m1 : List Md} {db : DS}
    (F : Fun K x qual st f fd) (S : FnScope N ps (defScope st)) (hks : ks.length = ps.length) (ha : ks.all argMd = true) (hn : ks.length ≤ N.length)
    (hbody : ∀ (cdv : Value) (A : Around) (outer : List PySem.Env) (s : Shared) (H : Hp) (E : XK), Room k (A.deeper (envOfC qual (defScope st) s.heap.objs.size f cdv)) →
      SVs (fnC g P w K mg base N qual st f cdv A outer s H E) ⟨fr, [], none⟩ (mds0 N.length ks) m1 (defBody st) db) :
    FnOk P w K mg base (L2.CX P w) (k + 1) f fd ps (spD K mg g ks fr (dFn fr N.length db)) := by
  refine F.okX S (fun vs H Q E h => ?_) (fun cdv A outer s H vs Q E hr h => ⟨_, wss, ?_⟩)
  · obtain ⟨ds, S0, B, a, _⟩ := h
    rw [a.length, hks]
  · obtain ⟨ds, S0, B, a, gi, h1, h2, h3⟩ := h
    refine hbody cdv A outer s H E hr H B B (fun _ => 0) _ _ H S0 _ ⟨frame0 gi a ha hn, gi, Evo.refl _ _, fun p h n => absurd h n⟩ ⟨fun ρ' S' e σ' H' B' ow' i ex => ?_, fun d S' e v H' ev gi' rs => ?_, fun ρ' S' e => ?_, fun xc ρ' S' e σ' H' B' ow' cls dd mx gi' ev nw sb ex xr => ?_, fun e => ?_⟩
    · cases fr with
      | true => exact absurd (by unfold dFn; rw [e]; rfl) h3
      | false =>
        refine h1 .none S' .non H' (by unfold dFn; rw [e]; rfl) i.ev (i.gi.less i.fr.sub i.fr.gsub) ?_
        exact Is.non
    · exact h1 d S' v H' (by unfold dFn; rw [e]; rfl) ev gi' rs
    · exact absurd (by unfold dFn; rw [e]; rfl) h3
    · refine h2 xc S' cls dd H' (by unfold dFn; rw [e]; rfl) ev (gi'.less sb gi.sub) (xr.mono (fz_anti sb))
    · exact absurd (by unfold dFn; rw [e]; rfl) h3
end PD
/-! PDo: lambdas without parameters handed to a def. -/
namespace PD
open PySem PySem.Spec PyProof.Rows L2 LamX
section
variable {X : Cx} {pins : List (Addr × Obj)} {σ : L2.St} {H HZ : Hp} {s s1 : Shared}
/-- the lambda is made; all but the table at P stays -/
theorem lam_make3 {T : List (Addr × Str)} {c P : Addr} {params : Arguments} {body : Expr} {scope : Scope} {pos : Pos} {E : Value → Shared → Prop} {Q : Value → Shared → Prop} (I : Inv X pins σ H s) (TB : TabB X.base X.mg c P) (hcode : X.env.code = .ref c)
    (hm : (P, X.env.qual ++ "<lambda>") ∈ T) (hu : ∀ p ∈ T, p.1 = P → p.2 = X.env.qual ++ "<lambda>") (hT : Tabs T H) (hdef : defaultsOf params X.env = ([], [])) (hfree : ∀ y ∈ scope.names, y.2 = .free → ∃ c, X.env.cells.lookup y.1 = some c)
    (h : ∀ (f c' : Addr) (pm ctv : Value) (H1 : Hp) (s' : Shared), Inv X pins σ H1 s' → Evo [P] H H1 → Tabs T H1 →
      s'.heap.get? f = some (PySem.W.kla_obj "<lambda>" (X.env.qual ++ "<lambda>") params body scope (cloFrom X.env.cells scope.names []) pm c' ctv) → H1 f = none → f ∉ frs X.stack → H1 c' = some (CodeO c' (X.env.qual ++ "<lambda>")) → Q (.ref f) s') :
    wpAny (model X.prog X.w) X.A (eval (.Lambda params body scope pos) X.env) Q E s := by
  obtain ⟨ps, hP, ht, ha⟩ := hT _ hm
  refine PySem.W.kla_eval hdef ?_
  have bP : s.heap.BuiltinsAt X.mg P := TB.bm.keeps I.bk
  have hP' : s.heap.get? P = some { cls := .none, data := .fields ps } := I.hok P _ hP
  have nofr : ∀ f, s.heap.objs.size ≤ f → f ∉ frs X.stack := fun f hf z => by
    rcases List.mem_cons.mp (I.stkSub _ z) with e | e
    · have h1 := I.lt
      rw [← e] at h1
      exact Nat.lt_irrefl _ (Nat.lt_of_lt_of_le h1 hf)
    · exact I.nofs hf e
  cases hc : codeAmong pos ps.toList with
  | none =>
    refine PySem.W.kla_makeFunction (mg := X.mg) (c := c) (P := P) (ps := ps) (closure_ok hfree) I.ok.glob (I.mod.glob.keeps I.bk) hcode (TB.code.keeps I.bk) hP' ht hc TB.gP bP fun c' ctv h' tk hx hge hlt hrec htb => ?_
    obtain ⟨c2, oc, vs, t, e2, hoc, hd, hv⟩ := hrec
    cases e2
    have hsz : s.heap.objs.size ≤ h'.objs.size := Nat.le_trans hge (Nat.le_of_lt hlt)
    have nC : H c' = none := I.hok.fresh hge
    have I1 := inv_table (t' := tk) (more := #[rawInt pos.line, rawInt pos.col, .ref c']) (h' := h'.push (PySem.W.kla_obj "<lambda>" (X.env.qual ++ "<lambda>") params body scope (cloFrom X.env.cells scope.names []) ((X.mg "__name__").getD .none) c' ctv)) I hP
      (fun b o hb e => Heap.get?_push_of_some _ (hx b o hb e)) (Heap.get?_push_of_some _ htb) hge ⟨oc, vs, t, Heap.get?_push_of_some _ hoc, hd, hv⟩
    have hE : Evo [P] H (upd (upd H P (.tbl (ps ++ #[rawInt pos.line, rawInt pos.col, .ref c']))) c' (CodeO c' (X.env.qual ++ "<lambda>"))) := fun b o n e => by
      rw [upd_ne (ne_of_none e nC), upd_ne (fun z => n (by rw [z]; exact List.mem_cons_self ..))]
      exact e
    have eL : (ps ++ #[rawInt pos.line, rawInt pos.col, .ref c']).toList = ps.toList ++ [rawInt pos.line, rawInt pos.col, .ref c'] := by simp
    have codeK : ∀ {c0 : Addr} {q : Str}, H c0 = some (CodeO c0 q) → upd (upd H P (.tbl (ps ++ #[rawInt pos.line, rawInt pos.col, .ref c']))) c' (CodeO c' (X.env.qual ++ "<lambda>")) c0 = some (CodeO c0 q) := fun {c0 q} e2 => hE _ _ (fun z => by
      obtain rfl := List.mem_singleton.mp z
      rw [hP] at e2
      exact codeO_ne _ (Option.some.inj e2).symm) e2
    refine h h'.objs.size c' ((X.mg "__name__").getD .none) ctv _ _ I1 hE (fun p hp => ?_) (Heap.get?_push_size _ rfl) ?_ (nofr _ hsz) upd_same
    · by_cases hb : p.1 = P
      · rw [hu p hp hb, hb]
        refine ⟨_, by rw [upd_ne (ne_of_none hP nC), upd_same], by rw [eL]; exact PySem.TriplesOk_snoc _ _ _ _ ht, fun p' cv hcv => ?_⟩
        rw [eL] at hcv
        rcases among_app _ ht hcv with z | z
        · obtain ⟨c0, e1, e2⟩ := ha p' cv z
          exact ⟨c0, e1, codeK e2⟩
        · exact ⟨c', z, upd_same⟩
      · obtain ⟨ps', a1, a2, a3⟩ := hT p hp
        refine ⟨ps', by rw [upd_ne (ne_of_none a1 nC), upd_ne hb]; exact a1, a2, fun p' cv hcv => ?_⟩
        obtain ⟨c0, e1, e2⟩ := a3 p' cv hcv
        exact ⟨c0, e1, codeK e2⟩
    · have n1 : h'.objs.size ≠ c' := Nat.ne_of_gt hlt
      have n2 : h'.objs.size ≠ P := Nat.ne_of_gt (Nat.lt_of_lt_of_le (Heap.lt_size hP') hsz)
      rw [upd_ne n1, upd_ne n2]
      exact I.hok.fresh hsz
  | some cv =>
    obtain ⟨c', e, hco⟩ := ha pos cv hc
    subst e
    refine PySem.W.kla_makeFunctionHit (mg := X.mg) (c := c) (P := P) (ps := ps) (closure_ok hfree) I.ok.glob (I.mod.glob.keeps I.bk) hcode (TB.code.keeps I.bk) hP' ht hc bP fun ctv h' tk hx hsz => ?_
    have I1 : Inv X pins σ H { s with heap := h'.push (PySem.W.kla_obj "<lambda>" (X.env.qual ++ "<lambda>") params body scope (cloFrom X.env.cells scope.names []) ((X.mg "__name__").getD .none) c' ctv), toks := tk } := I.kept fun b o e => Heap.get?_push_of_some _ (hx b o e)
    exact h h'.objs.size c' ((X.mg "__name__").getD .none) ctv H _ I1 (Evo.refl _ H) hT (Heap.get?_push_size _ rfl) (I.hok.fresh hsz) (nofr _ hsz) hco
/-- x(), in the def that got the lambda: what it lets out is asked at the very slots -/
theorem pe_act3 {CXg : CXT} {Eg : XK} {Ng : List Str} {qg : Str} {sg : Scope} {g f c' : Addr} {cdg pm ctv : Value} {params : Arguments} {body : Expr} {scope : Scope} {k i : Nat} {a : Str} {pn : List (Addr × Obj)} {xe : Value → Shared → Prop} {W : WX} {t : XK → TE} {p1 p2 : Pos}
    (I : Inv X pins σ H s) (L : LamS X.env.scope scope) (hf : s.heap.get? f = some (PySem.W.kla_obj "<lambda>" (X.env.qual ++ "<lambda>") params body scope (cloFrom X.env.cells scope.names []) pm c' ctv)) (hfn : H f = none) (hfr : f ∉ frs X.stack)
    (hbind : bindArgs (PySem.W.kla_fn "<lambda>" (X.env.qual ++ "<lambda>") params body scope (cloFrom X.env.cells scope.names []) pm (.ref c') ctv) ⟨[], []⟩ = pure [])
    (tk : Takes ((cxOf CXg X.prog X.w X.K X.mg X.base Ng qg sg g cdg X.A X.stack s H Eg).tr pn xe) W) (hr : Room (k + 1) (X.A.deeper (envOfC qg sg s.heap.objs.size g cdg)))
    (hbody : ∀ (A : Around) (outer : List PySem.Env) (s : Shared) (H : Hp) (E : XK), Room k (A.deeper (lamEnv X scope s.heap.objs.size f c')) → PE (lamCx X A outer s H E scope f c') body (t E))
    (hN : Ng[i]? = some a) (hv : Vis sg a) (hd : (a == ("__debug__" : Str)) = false := by decide) (hcd : (a == ("__classdict__" : Str)) = false := by decide) :
    PE ((cxOf CXg X.prog X.w X.K X.mg X.base Ng qg sg g cdg X.A X.stack s H Eg).tr pn xe) (.Call (.Name a p1) [] [] p2)
      (fun σZ HZ Q => σZ[i]? = some (some (.ref f)) ∧ HZ c' = some (CodeO c' (X.env.qual ++ "<lambda>")) ∧ t (fun cls d H' => W cls d σZ H') σ HZ Q) := by
  refine ⟨fun pinsZ sZ σZ HZ Q IZ h => ?_⟩
  obtain ⟨hs, hc, ht⟩ := h
  refine wpAny_Call_Name_kw (thn ((pe_var (pos := p1) (i := i) hN hv hd hcd).run pinsZ sZ σZ HZ (fun v H1 => v = .ref f ∧ H1 = HZ) IZ ⟨.ref f, hs, rfl, rfl⟩) fun u s1 ⟨v, H1, I1, r1, q1⟩ => ?_)
  obtain ⟨ev, eH⟩ := q1
  subst ev
  rw [eH] at I1
  obtain rfl : u = Value.ref f := r1
  have of1 : s1.heap.get? f = some (PySem.W.kla_obj "<lambda>" (X.env.qual ++ "<lambda>") params body scope (cloFrom X.env.cells scope.names []) pm c' ctv) := I1.base.keep f _ hf hfn hfr (fun z => nomatch (show f ∈ ([] : List Addr) from z))
  refine PySem.W.callWith_F0 ⟨_, _, _, _, of1⟩ ?_
  have un : Un (frs X.stack) [] H HZ s.heap s1.heap := I1.base
  obtain ⟨⟨oc, vs, t', hoc, hdc, hvc⟩, _, _⟩ := I1.hok c' _ hc
  have rc : codeAny (model X.prog X.w) (X.A.deeper (envOfC qg sg s.heap.objs.size g cdg)) (.call (.ref f) ⟨[], []⟩) (CR (L2.CX X.prog X.w) (envOfC qg sg s.heap.objs.size g cdg :: X.stack) X.prog X.w HZ s1 Q (fun cls d H' => W cls d σZ H')) s1 := by
    refine PySem.W.kla_callFunE hr.depth of1 rfl L.co L.gen rfl ⟨c', oc, vs, t', rfl, hoc, hdc, hvc⟩ ?_
    rw [hbind]
    refine wpAny_pure (wpAny_newFunctionEnv (fun y hy => (L.own y hy).2) (fun y hy => absurd hy (by simp)) (fun h₁ hns hsb => ⟨I1.nolimit.fresh _ hsb, ?_⟩) L.kind)
    show codeAny _ _ (.expr body (lamEnv X scope s1.heap.objs.size f c')) _ _
    have kp : ∀ b o, s1.heap.get? b = some o → h₁.get? b = some o := fun b o e => hsb.extBut b o (Nat.ne_of_lt (Heap.lt_size e)) (Heap.get?_push_of_some _ e)
    have J : Inv (lamCx X (X.A.deeper (envOfC qg sg s.heap.objs.size g cdg)) (envOfC qg sg s.heap.objs.size g cdg :: X.stack) s1 HZ (fun cls d H' => W cls d σZ H') scope f c') [] σ HZ { s1 with heap := h₁, toks := s1.toks + ([] : List (Str × Value)).length } :=
      lam_start2 I L I1.env0 hr.hd un hns kp
    refine PySem.W.kla_codeExpr (wpAny_mono ((hbody _ _ s1 HZ (fun cls d H' => W cls d σZ H') (hr.deeper _)).run [] _ _ HZ Q J ht) (fun v s' hq => ?_) fun e s' hq => hq)
    obtain ⟨w', H', J', rv, q⟩ := hq
    exact ⟨w', H', J'.os, J'.bare, J'.base, J'.hok, rv, q⟩
  have hx := passAt tk σZ
  refine wpAny_call (codeAny_mono rc fun r s' hq => ?_)
  cases r with
  | error e => exact hx pinsZ HZ s1 e s' I1 hq
  | ok fl =>
    cases fl with
    | ret u => exact I1.after hq
    | next => exact False.elim hq
    | brk => exact False.elim hq
    | cont => exact False.elim hq
end
/-- what the def makes of the lambda -/
def Gives3 (X : Cx) (Ng : List Str) (x : Str) (sg : Scope) (g : Addr) (cdg : Value) (bg : List Stmt) (a : Str) (q : Str) (TT : (XK → Hp → VK → Prop) → Hp → VK → Prop) : Prop :=
  ∀ (f c' : Addr) (s : Shared) (H : Hp) (Q : VK) (tl : XK → Hp → VK → Prop),
    (∀ (W : WX) (pn : List (Addr × Obj)) (xe : Value → Shared → Prop) (p1 p2 : Pos), Takes ((cxOf C8.CX0 X.prog X.w X.K X.mg X.base Ng x sg g cdg X.A X.stack s H C8.E0).tr pn xe) W →
      PE ((cxOf C8.CX0 X.prog X.w X.K X.mg X.base Ng x sg g cdg X.A X.stack s H C8.E0).tr pn xe) (.Call (.Name a p1) [] [] p2) (fun σZ HZ Q => σZ[0]? = some (some (.ref f)) ∧ HZ c' = some (CodeO c' q) ∧ tl (fun cls d H' => W cls d σZ H') HZ Q)) →
    H c' = some (CodeO c' q) → Room 1 (X.A.deeper (envOfC x sg s.heap.objs.size g cdg)) → TT tl H Q →
    ∃ t, PSs (cxOf C8.CX0 X.prog X.w X.K X.mg X.base Ng x sg g cdg X.A X.stack s H C8.E0).nox bg t ∧ t { nx := fun _ H' => Q .non H', rt := Q } (L2.start Ng [.ref f]) H
def tLam3 (T : List (Addr × Str)) (P : Addr) (TT : (XK → Hp → VK → Prop) → Hp → VK → Prop) (t : XK → TE) : TE := fun σ H Q => Tabs T H ∧ ∀ H1, Evo [P] H H1 → Tabs T H1 → TT (fun E H' Q' => t E σ H' Q') H1 Q
section
variable {X : Cx}
theorem pe_lamcall3 {T : List (Addr × Str)} {TT : (XK → Hp → VK → Prop) → Hp → VK → Prop} {x a : Str} {g c P : Addr} {k : Nat} {pg : Arguments} {bg : List Stmt} {sg : Scope} {dV kV doc pm cdv ct oc : Value} {an od : Option Addr} {osl : Array (Option Value)} {Ng : List Str}
    {params : Arguments} {body : Expr} {scope : Scope} {t : XK → TE} {p lpos pos : Pos} (hg : Gl X x) (hm : X.mg x = some (.ref g)) (hk : PySem.W.keepIn X.K (.ref g) = true)
    (lk : X.K.lookup g = some ⟨oc, od, .func (PySem.W.fnOf x x pg bg sg dV kV doc pm an cdv ct), osl⟩) (hcg : PySem.W.codeIn X.K cdv x = true) (hb : L2.Binds X.K (PySem.W.fnOf x x pg bg sg dV kV doc pm an cdv ct) [a] []) (Sg : FnScope Ng [a] sg) (hNg : Ng[0]? = some a) (hva : Vis sg a)
    (hG : Gives3 X Ng x sg g cdv bg a (X.env.qual ++ "<lambda>") TT)
    (TB : TabB X.base X.mg c P) (hcode : X.env.code = .ref c) (hmT : (P, X.env.qual ++ "<lambda>") ∈ T) (hu : ∀ p ∈ T, p.1 = P → p.2 = X.env.qual ++ "<lambda>") (hr : Room (k + 2) X.A) (L : LamS X.env.scope scope) (hdef : defaultsOf params X.env = ([], []))
    (hbind : ∀ (q : Str) (cl : List (Str × Addr)) (pm cv ctv : Value), bindArgs (PySem.W.kla_fn "<lambda>" q params body scope cl pm cv ctv) ⟨[], []⟩ = pure [])
    (hbody : ∀ (A : Around) (outer : List PySem.Env) (s : Shared) (H : Hp) (E : XK) (f c' : Addr), Room k (A.deeper (lamEnv X scope s.heap.objs.size f c')) → PE (lamCx X A outer s H E scope f c') body (t E))
    (hdb : (x == ("__debug__" : Str)) = false := by decide) (hd : (a == ("__debug__" : Str)) = false := by decide) (hcd : (a == ("__classdict__" : Str)) = false := by decide) :
    PE X (.Call (.Name x p) [.Lambda params body scope lpos] [] pos) (tLam3 T P TT t) := by
  refine ⟨fun pins s σ H Q I h => ?_⟩
  obtain ⟨hT, h⟩ := h
  refine wpAny_Call_Name_kw (ld_glob I hg hm ?_ hdb)
  refine PySem.W.callWith_K (h₀ := X.base) I.ok.mod.kin hk ?_ (by rfl) (by rfl)
  show wpAny _ _ (spliced ((false, eval (.Lambda params body scope lpos) X.env) :: backTo pos (starEach [] X.env))) _ _ s
  refine Calls.spliced_cons (lam_make3 I TB hcode hmT hu hT hdef (L.has I.ok) fun f c' pm' ctv H1 s' I1 eN T1 hf hfn hfr hco => ?_)
  refine Calls.spliced_nil ⟨I1.kIn, ?_⟩
  have rc : codeAny (model X.prog X.w) X.A (.call (.ref g) ⟨[.ref f], []⟩) (CR C8.CX0 X.stack X.prog X.w H1 s' Q C8.E0) s' := by
    refine run_ofS (N := Ng) (ps := [a]) (us := [.ref f]) (vs := [.ref f]) lk hcg Sg hr I1.env0 (hb s' [.ref f] I1.kIn rfl) (.cons rfl .nil) rfl fun hr' => ?_
    obtain ⟨t', ht', hq'⟩ := hG f c' s' H1 Q (fun E H' Q' => t E σ H' Q') (fun W pn xe p1 p2 tk => pe_act3 (i := 0) I1 L hf hfn hfr (hbind _ _ _ _ _) tk hr' (fun A outer s H E hr2 => hbody A outer s H E f c' hr2) hNg hva hd hcd) hco (hr'.mono (by omega)) (h H1 eN T1)
    exact ⟨t', ht'.nox, hq'⟩
  refine wpAny_call (codeAny_mono rc fun r s2 hq => ?_)
  cases r with
  | error e => exact (show False from hq).elim
  | ok fl =>
    cases fl with
    | ret u => exact I1.after hq
    | next => exact False.elim hq
    | brk => exact False.elim hq
    | cont => exact False.elim hq
end
/-! ### by denotation -/
abbrev Gx.withL (g : Gx) (l : Lm) : Gx := ⟨g.SA, g.T, g.E, some l⟩
/-- the context in which a def without exceptions of its own runs -/
abbrev nxCx (P : Program) (w : World) (K : PySem.W.Frag) (mg : Str → Option Value) (base : Heap) (Ng : List Str) (x : Str) (sg : Scope) (gA : Addr) (cdg : Value) (A : Around) (stack : List PySem.Env) (s : Shared) (H : Hp) : Cx :=
  cxOf C8.CX0 P w K mg base Ng x sg gA cdg A stack s H C8.E0
/-- the def that gets a lambda and calls it: its body by denotation, dl0 the lambda's -/
def LamFn (P : Program) (w : World) (K : PySem.W.Frag) (mg : Str → Option Value) (base : Heap) (g : Gx) (x a : Str) (Ng : List Str) (sg : Scope) (gA : Addr) (cdg : Value) (bg : List Stmt) (db : (Store → R PyData) → DS) : Prop :=
  ∀ (A : Around) (stack : List PySem.Env) (s : Shared) (H : Hp) (l : Lm) (dl0 : Store → R PyData), Room 1 (A.deeper (envOfC x sg s.heap.objs.size gA cdg)) →
    (∀ W pn xe p1 p2 m, Takes ((nxCx P w K mg base Ng x sg gA cdg A stack s H).tr pn xe) W → m[0]? = some .lm → EV ⟨g.withL l, (nxCx P w K mg base Ng x sg gA cdg A stack s H).tr pn xe, W⟩ m (.Call (.Name a p1) [] [] p2) (fun _ S => dl0 S)) →
    ∃ m1, SVs ⟨g.withL l, (nxCx P w K mg base Ng x sg gA cdg A stack s H).nox, fun _ _ _ _ => False⟩ ⟨false, [], none⟩ (mds0 Ng.length [.lm]) m1 bg (db dl0)
/-- the def's reading of the lambda's -/
def TTD (K : PySem.W.Frag) (mg : Str → Option Value) (g : Gx) (n : Nat) (db : (Store → R PyData) → DS) : (XK → Hp → VK → Prop) → Hp → VK → Prop := fun tl H Q =>
  ∃ B S dl0, GI K g B H S ∧
    (∀ B' S' HZ E Q', Ex (Fz B H) (Fz B' HZ) → GI K g B' HZ S' → (∀ d S2 v H2, dl0 S' = .ok d S2 → Evo g.G HZ H2 → GI K g B' H2 S2 → Is K (Fz B' H2) v d → Q' v H2) →
      (∀ x S2 cls dd H2, dl0 S' = .exc x S2 → Evo g.G HZ H2 → GI K g B' H2 S2 → XcRep K mg (Fz B' H2) x cls dd → E cls dd H2) → dl0 S' ≠ .bad → tl E HZ Q') ∧
    (∀ d S' v H', (db dl0 (env0 n [.none]) S).fin false = .ok d S' → Evo g.G H H' → GI K g B H' S' → Is K (Fz B H') v d → Q v H') ∧ ((db dl0 (env0 n [.none]) S).fin false).calm ≠ .bad
theorem GI.withL {K : PySem.W.Frag} {g : Gx} {B : List Addr} {H : Hp} {S : Store} {l : Lm} (i : GI K g B H S) (h1 : H l.cc = some (CodeO l.cc l.q)) (h2 : Ex (Fz l.B l.H) (Fz B H)) : GI K (g.withL l) B H S :=
  ⟨i.st, i.tabs, i.sub, i.kn, i.nd, fun l' e => by cases e; exact ⟨h1, h2⟩⟩
theorem GI.noL {K : PySem.W.Frag} {g : Gx} {B : List Addr} {H : Hp} {S : Store} {l : Lm} (hL : g.L = none) (i : GI K (g.withL l) B H S) : GI K g B H S :=
  ⟨i.st, i.tabs, i.sub, i.kn, i.nd, fun l' e => by rw [hL] at e; cases e⟩
theorem lam_gives {X : Cx} {g : Gx} {x a : Str} {Ng : List Str} {sg : Scope} {gA : Addr} {cdg : Value} {bg : List Stmt} {db : (Store → R PyData) → DS} (hL : g.L = none) (hn : 1 ≤ Ng.length) (h : LamFn X.prog X.w X.K X.mg X.base g x a Ng sg gA cdg bg db) (q : Str) :
    Gives3 X Ng x sg gA cdg bg a q (TTD X.K X.mg g Ng.length db) := by
  intro f c' s H Q tl act hc hroom ⟨B, S, dl0, gi, htl, hq, hb⟩
  have key := h X.A X.stack s H ⟨f, c', q, B, H⟩ dl0 hroom
  have act2 : ∀ W pn xe p1 p2 m, Takes ((nxCx X.prog X.w X.K X.mg X.base Ng x sg gA cdg X.A X.stack s H).tr pn xe) W → m[0]? = some .lm → EV ⟨g.withL ⟨f, c', q, B, H⟩, (nxCx X.prog X.w X.K X.mg X.base Ng x sg gA cdg X.A X.stack s H).tr pn xe, W⟩ m (.Call (.Name a p1) [] [] p2) (fun _ S => dl0 S) := ?act
  · obtain ⟨m1, hs⟩ := key act2
    refine ⟨_, wss, ?_⟩
    refine hs H B B (fun _ => 0) (env0 Ng.length [.none]) _ H S _ ⟨⟨?_, ?_, fun _ h => h, gi.sub, fun i md hi => ?_⟩, gi.withL hc (Ex.refl _), Evo.refl _ _, fun p h n => absurd h n⟩ ⟨fun ρ' S' e σ' H' B' ow' i ex => ?_, fun d S' e v H' ev gi' rs => ?_, fun ρ' S' e => ?_, fun xc ρ' S' e => ?_, fun e => ?_⟩
    · unfold mds0 env0; simp
    · unfold env0 L2.start; simp
    · by_cases h0 : i < 1
      · obtain rfl : i = 0 := by omega
        unfold mds0 at hi
        simp at hi
        subst hi
        exact ⟨_, rfl, rfl⟩
      · have : md = .fz := by
          unfold mds0 at hi
          rw [List.getElem?_append_right (by simp; omega), List.getElem?_replicate] at hi
          split at hi
          · cases hi; rfl
          · cases hi
        subst this
        intro d e
        rw [env0_out (by simp; omega)] at e
        cases e
    · exact hq .none S' .non H' (by rw [e]; rfl) i.ev ((i.gi.noL hL).less i.fr.sub gi.sub) .non
    · exact hq d S' v H' (by rw [e]; rfl) ev (gi'.noL hL) rs
    · exact absurd (by rw [e]; rfl) hb
    · exact absurd (by rw [e]; rfl) hb
    · exact absurd (by rw [e]; rfl) hb
  · intro W pn xe p1 p2 m tk hm σZ HZ ρ SZ B0 B' ow Q' fr gi' go
    refine PD.WE.of (act W pn xe p1 p2 tk) ?_
    obtain ⟨l, e1, hv⟩ := fr.slot 0 _ hm
    cases e1
    refine ⟨?_, (gi'.cd _ rfl).1, htl B' SZ HZ _ _ (gi'.cd _ rfl).2 (gi'.noL hL) (fun d S2 v H2 e ev gi2 iv => go.1 d S2 v H2 e ev ?_ iv) (fun x S2 cls dd H2 e ev gi2 xr => go.2.1 x S2 e cls dd H2 ev ?_ xr) go.2.2⟩
    · rw [List.getD_eq_getElem?_getD] at hv
      cases h2 : σZ[0]? with
      | none => rw [h2] at hv; cases hv
      | some o => rw [h2] at hv; rw [show o = some _ from hv]
    all_goals
      have ncc : c' ∉ g.G := fun z => by
        have z' := gi'.cd _ rfl
        have z1 : HZ c' = some (CodeO c' q) := z'.1
        rcases List.mem_append.mp z with z | z
        · have : ∀ {l₁ : List Addr} {l₂ : Store}, Paired (fun (p : Addr) (xs : List PyData) => ∃ vs, HZ p = some (.lst vs) ∧ vs.length ≤ sizeLine ∧ IsAll X.K (Fz B' HZ) vs xs) l₁ l₂ → c' ∉ l₁ := by
            intro l₁ l₂ hp
            induction hp with
            | nil => simp
            | cons r t ih =>
              intro hm
              rcases List.mem_cons.mp hm with rfl | hm
              · obtain ⟨vs, e, _⟩ := r
                exact lst_code e _ z1
              · exact ih hm
          exact this gi'.st z
        · obtain ⟨p, hp, e⟩ := List.mem_map.mp z
          obtain ⟨ps, e2, _⟩ := gi'.tabs p hp
          rw [e, z1] at e2
          exact codeO_ne _ (Option.some.inj e2)
      exact gi2.withL (ev _ _ ncc (gi'.cd _ rfl).1) ((gi'.cd _ rfl).2.trans (ev.fz (gi'.noL hL).sub))
/-- no slot with a list of its own -/
def noOwn (m : List Md) : Bool := m.all fun k => decide (k ≠ .own) && decide (k ≠ .own2)
theorem Frame.far {K : PySem.W.Frag} {g : Gx} {B0 B B' : List Addr} {ow : Addr → Nat} {m : List Md} {ρ : Env} {σ : L2.St} {H H' : Hp} (f : Frame K g B0 B ow m ρ σ H) (hn : noOwn m = true) (e : Ex (Fz B H) (Fz B' H')) (hs : ∀ a ∈ g.G, a ∈ B') : Frame K g g.G B' ow m ρ σ H' := by
  refine ⟨f.lm, f.ls, hs, fun _ h => h, fun i md hi => ?_⟩
  have q := f.slot i md hi
  have ne := List.all_eq_true.mp hn md (List.mem_of_getElem? hi)
  rw [Bool.and_eq_true] at ne
  have n1 := of_decide_eq_true ne.1
  have n2 := of_decide_eq_true ne.2
  cases md with
  | un => trivial
  | fz => exact fun d hd => let ⟨v, a, b⟩ := q d hd; ⟨v, a, b.mono e⟩
  | own => exact absurd rfl n1
  | own2 => exact absurd rfl n2
  | st k => exact q
  | lm => exact q
  | cs => exact let ⟨a, vs, ds, h1, h2, h3, h4, h5⟩ := q; ⟨a, vs, ds, h1, h2, e.l h3, h4, h5.mono e⟩
  | ea => exact let ⟨a, x, d, h1, h2, h3⟩ := q; ⟨a, x, d, h1, h2, h3.mono e⟩
/-- a table grows -/
theorem GI.table {K : PySem.W.Frag} {g : Gx} {B : List Addr} {H H1 : Hp} {S : Store} {P : Addr} {q : Str} (i : GI K g B H S) (hL : g.L = none) (hP : (P, q) ∈ g.T) (ev : Evo [P] H H1) (ht : Tabs g.T H1) : GI K g B H1 S ∧ Evo g.G H H1 := by
  have hPG : P ∈ g.G := List.mem_append_right _ (List.mem_map.mpr ⟨_, hP, rfl⟩)
  have evG : Evo g.G H H1 := fun a o n e => ev a o (fun z => n (by rw [List.mem_singleton.mp z]; exact hPG)) e
  have nd := List.nodup_append.mp i.nd
  refine ⟨⟨?_, ht, i.sub, fun a ha z => ?_, i.nd, fun l e => by rw [hL] at e; cases e⟩, evG⟩
  · have aux : ∀ {l₁ : List Addr} {l₂ : Store}, (∀ p ∈ l₁, p ≠ P) → Paired (fun (p : Addr) (xs : List PyData) => ∃ vs, H p = some (.lst vs) ∧ vs.length ≤ sizeLine ∧ IsAll K (Fz B H) vs xs) l₁ l₂ →
        Paired (fun (p : Addr) (xs : List PyData) => ∃ vs, H1 p = some (.lst vs) ∧ vs.length ≤ sizeLine ∧ IsAll K (Fz B H1) vs xs) l₁ l₂ := by
      intro l₁ l₂ hm h
      induction h with
      | nil => exact .nil
      | cons r t ih =>
        obtain ⟨vs, a, z, b⟩ := r
        exact .cons ⟨vs, ev _ _ (fun z => hm _ (List.mem_cons_self ..) (List.mem_singleton.mp z)) a, z, b.mono (evG.fz i.sub)⟩ (ih fun p hp => hm p (List.mem_cons_of_mem _ hp))
    exact aux (fun p hp e => nd.2.2 p hp P (List.mem_map.mpr ⟨_, hP, rfl⟩) e) i.st
  · by_cases e : a = P
    · subst e
      obtain ⟨ps, h1, _⟩ := ht _ hP
      rw [h1] at z
      cases z
    · cases q' : H a with
      | none => exact i.kn a ha q'
      | some o => rw [ev a o (fun z => e (List.mem_singleton.mp z)) q'] at z; cases z
def dLam (n : Nat) (db : (Store → R PyData) → DS) (dl : DE) : DE := fun ρ S => ((db (fun S' => dl ρ S') (env0 n [.none]) S).fin false).calm
/-- x(lambda: body) -/
theorem ev_lam {c : Cc} {m m' : List Md} {x a : Str} {gA cA P : Addr} {k : Nat} {pg : Arguments} {bg : List Stmt} {sg : Scope} {dV kV doc pm cdv ct oc : Value} {an od : Option Addr} {osl : Array (Option Value)} {Ng : List Str}
    {params : Arguments} {body : Expr} {scope : Scope} {db : (Store → R PyData) → DS} {dl : DE} {p lpos pos : Pos} (hL : c.g.L = none) (hw : Wk m m' = true) (hno : noOwn m' = true) (hg : Gl c.X x) (hm : c.X.mg x = some (.ref gA)) (hk : PySem.W.keepIn c.X.K (.ref gA) = true)
    (lk : c.X.K.lookup gA = some ⟨oc, od, .func (PySem.W.fnOf x x pg bg sg dV kV doc pm an cdv ct), osl⟩) (hcg : PySem.W.codeIn c.X.K cdv x = true) (hb : L2.Binds c.X.K (PySem.W.fnOf x x pg bg sg dV kV doc pm an cdv ct) [a] []) (Sg : FnScope Ng [a] sg) (hNg : Ng[0]? = some a) (hva : Vis sg a)
    (hG : LamFn c.X.prog c.X.w c.X.K c.X.mg c.X.base c.g x a Ng sg gA cdv bg db)
    (TB : TabB c.X.base c.X.mg cA P) (hcode : c.X.env.code = .ref cA) (hmT : (P, c.X.env.qual ++ "<lambda>") ∈ c.g.T) (hu : ∀ p ∈ c.g.T, p.1 = P → p.2 = c.X.env.qual ++ "<lambda>") (hr : Room (k + 2) c.X.A) (L : LamS c.X.env.scope scope) (hdef : defaultsOf params c.X.env = ([], []))
    (hbind : ∀ (q : Str) (cl : List (Str × Addr)) (pm cv ctv : Value), bindArgs (PySem.W.kla_fn "<lambda>" q params body scope cl pm cv ctv) ⟨[], []⟩ = pure [])
    (hbody : ∀ (A : Around) (outer : List PySem.Env) (s : Shared) (H : Hp) (E : XK) (f c' : Addr), Room k (A.deeper (lamEnv c.X scope s.heap.objs.size f c')) → EV ⟨c.g, lamCx c.X A outer s H E scope f c', fun cls d _ H' => E cls d H'⟩ m' body dl)
    (hdb : (x == ("__debug__" : Str)) = false := by decide) (hd : (a == ("__debug__" : Str)) = false := by decide) (hcd : (a == ("__classdict__" : Str)) = false := by decide) :
    EV c m (.Call (.Name x p) [.Lambda params body scope lpos] [] pos) (dLam Ng.length db dl) := by
  intro σ H ρ S B0 B ow Q fr gi go
  have hn1 : 1 ≤ Ng.length := by
    have := (List.getElem?_eq_some_iff.mp hNg).1
    omega
  refine PD.WE.of (pe_lamcall3 (t := fun E σ H Q => ∀ A outer s H0 f c', Room k (A.deeper (lamEnv c.X scope s.heap.objs.size f c')) → PD.WE (lamCx c.X A outer s H0 E scope f c') body σ H Q) hg hm hk lk hcg hb Sg hNg hva
    (lam_gives hL hn1 hG _) TB hcode hmT hu hr L hdef hbind (fun A outer s H0 E f c' hr2 => ⟨fun pins s' σ H Q I h => (h A outer s H0 f c' hr2).go pins s' I⟩) hdb hd hcd) ?_
  refine ⟨gi.tabs, fun H1 ev1 ht1 => ?_⟩
  obtain ⟨gi1, evG1⟩ := gi.table hL hmT ev1 ht1
  have fr1 := (fr.weak hw).evo evG1
  refine ⟨B, S, fun S' => dl ρ S', gi1, fun B' S' HZ E Q' ex gi' h1 h2 h3 A outer s H0 f c' hr2 => ?_, fun d S' v H' e ev gi' iv => go.1 d S' v H' ?_ (evG1.trans ev) gi' iv, fun e => go.2.2 e⟩
  · exact hbody A outer s H0 E f c' hr2 σ HZ ρ S' c.g.G B' ow Q' (fr1.far hno ex gi'.sub) gi' ⟨fun d S2 v H2 e ev gi2 iv => h1 d S2 v H2 e ev gi2 iv, fun xx S2 e cls dd H2 ev gi2 xr => h2 xx S2 cls dd H2 e ev gi2 xr, h3⟩
  · show R.calm _ = _
    rw [e]
    rfl
end PD
/-! PDp: the script, the tape, a law's end. -/
namespace PD
open PySem PySem.Spec PyProof.Rows L2 LamX
theorem getD_of {α : Type} {l : List (Option α)} {i : Nat} {x : α} (h : l.getD i none = some x) : l[i]? = some (some x) := by
  rw [List.getD_eq_getElem?_getD] at h
  cases h2 : l[i]? with
  | none => rw [h2] at h; cases h
  | some o => rw [h2] at h; rw [show o = some _ from h]
section
variable {c : Cc} {m : List Md} {ks : List Md} {es : List Expr} {r : DA} {i : Nat} {x : Str} {pos p p2 : Pos}
theorem em_cs (hm : m[i]? = some .cs) (hp : PE c.X (.Name x pos) (tVar i)) (hr : EM c m ks es r) : EM c m (.cs :: ks) (.Name x pos :: es) (dCons (dVar i) r) := by
  intro σ H ρ S B0 B ow Q fr gi g
  refine WA.of (pa_cons hp wa rfl) ?_
  obtain ⟨a, vs, ds, hd, hv, h3, h4, h5⟩ := fr.slot i _ hm
  refine ⟨.ref a, getD_of hv, ?_⟩
  have e : dVar i ρ S = .ok (.list ds) S := by unfold dVar; rw [hd]; rfl
  refine hr σ H ρ S B0 B ow _ fr gi (Goal.bind (r := r ρ S) (k := fun xs S2 => R.ok (PyData.list ds :: xs) S2) (by unfold dCons at g; rw [e] at g; exact g) fun es S2 ws H2 _ ev2 gi2 gd2 g2 => ?_)
  have ex := ev2.fz gi2.sub
  exact g2.ok0 gi2 (.cons ⟨a, vs, ds, rfl, rfl, ex.l h3, h4, h5.mono ex⟩ gd2)
/-- the script's piece -/
theorem eo_csSl {lo hi : Option Expr} {dl dh : DP} (hm : m[i]? = some .cs) (hp : PE c.X (.Name x p) (tVar i)) (hl : EP_ c m lo dl) (hh : EP_ c m hi dh) : EO c m (.Subscript (.Name x p) (.Slice lo hi none p2) pos) (dSl fSlL (dVar i) dl dh) := by
  intro σ H ρ S B0 B ow Q fr gi g
  refine PD.WE.of (pe_slice sl_list hp wo wo) ?_
  obtain ⟨a, vs, ds, hd, hv, h3, h4, h5⟩ := fr.slot i _ hm
  have e : dVar i ρ S = .ok (.list ds) S := by unfold dVar; rw [hd]; rfl
  refine ⟨.ref a, getD_of hv, ?_⟩
  have g : Goal c B H σ ((dl ρ S).bind fun l S2 => (dh ρ S2).bind fun h S3 => ofO (fSlL (.list ds) l h) S3) (fun S' H' v d => ∃ p, v = V.ref p ∧ H p = none ∧ Top c.X.K (p :: B) H' p d ∧ GI c.X.K c.g (p :: B) H' S') Q := by
    unfold dSl at g
    rw [e] at g
    exact g
  refine hl σ H ρ S B0 B ow _ fr gi (g.bind fun l S2 l' H2 _ ev2 gi2 gd2 g2 => ?_)
  cases gd2
  refine hh σ H2 ρ S2 B0 B ow _ (fr.evo ev2) gi2 (g2.bind fun h S3 h' H3 _ ev3 gi3 gd3 g3 => ?_)
  cases gd3
  have ex := (ev2.fz gi2.sub).trans (ev3.fz gi3.sub)
  have s3 := fz_le.l (ex.l h3)
  unfold fSlL at g3
  exact ⟨a, vs, rfl, s3, fun q hq => g3.ok (Ex.new hq).evo (gi3.ex (Ex.new hq)) ⟨q, rfl, free_back ev2 gi2 (free_back ev3 gi3 hq), top_newL hq (Nat.le_trans (cutV_length _ _ _) h4) ((h5.mono ex).cut l h), gi3.fresh (Ex.new hq) hq (by rw [upd_same]; intro z; cases z)⟩⟩
end
/-! ### a new list that all may change from now on -/
def adL (i : Nat) (rest : DS) (ρ : Env) (d : PyData) : RS := match d with | .list xs => rest (ρ.set i (some .none)) [xs] | _ => .bad
def dAdopt (i : Nat) (a : DE) (rest : DS) : DS := fun ρ S => (a ρ S).st ρ fun d _ => adL i rest ρ d
abbrev gTape (g : Gx) (p : Addr) : Gx := ⟨[p], g.T, g.E, g.L⟩
/-- what a law is asked at: the script, the tables of code objects, empty -/
def spLaw (K : PySem.W.Frag) (g : Gx) (n : Nat) : Sp := fun vs H Q _ => ∃ (a : Addr) (ns : List Int), vs = [.ref a] ∧ ns.length ≤ n ∧ (∀ z ∈ ns, Builtin.Int.intBits z ≤ 1048576) ∧ SqL K H a (ns.map V.int) ∧ (∀ p ∈ g.T, H p.1 = some (.tbl #[])) ∧ ∀ H', Q (.bl true) H'
theorem law_ok {P : Program} {w : World} {K : PySem.W.Frag} {mg : Str → Option Value} {base : Heap} {g : Gx} {st : Stmt} {f cA : Addr} {fd : FuncData} {N : List Str} {k n i : Nat} {m2 : List Md} {e : Expr} {y : Str} {pos pos' : Pos} {rest : List Stmt} {a : DE} {dr : DS}
    (hS : g.SA = []) (hL : g.L = none) (hT : (g.T.map (·.1)).Nodup) (hz : n ≤ sizeLine) (F : FunC K "law" "law" st f fd cA) (S : FnScope N ["script"] (defScope st)) (hN : 1 ≤ N.length) (hi : i < N.length)
    (hb : defBody st = .Assign [.Name y pos'] e pos :: rest)
    (hbody : ∀ (A : Around) (outer : List PySem.Env) (s : Shared) (H : Hp) (E : XK), Room k (A.deeper (envOfC "law" (defScope st) s.heap.objs.size f (.ref cA))) →
      EO (fnC g P w K mg base N "law" st f (.ref cA) A outer s H E) (mds0 N.length [.cs]) e a ∧ PS (fnC g P w K mg base N "law" st f (.ref cA) A outer s H E).X (.Assign [.Name y pos'] e pos) (tAsg (PD.WE (fnC g P w K mg base N "law" st f (.ref cA) A outer s H E).X e) (gName i)) ∧
      ∀ p, SVs (fnC (gTape g p) P w K mg base N "law" st f (.ref cA) A outer s H E) ⟨false, [], none⟩ ((mds0 N.length [.cs]).set i (.st 0)) m2 rest dr)
    (pure : ∀ ns : List Int, ns.length ≤ n → (∀ z ∈ ns, Builtin.Int.intBits z ≤ 1048576) → ∃ S', (dAdopt i a dr (env0 N.length [.list (ns.map .int)]) []).fin false = .ok (.bool true) S') :
    FnOk P w K mg base (L2.CX P w) (k + 1) f fd ["script"] (spLaw K g n) := by
  refine F.okX S (fun vs H Q E h => ?_) (fun A outer s H vs Q E hr h => ⟨_, wss, ?_⟩)
  · obtain ⟨a, ns, rfl, _⟩ := h
    rfl
  obtain ⟨p0, ns, rfl, hlen, hbits, hs, htb, hq⟩ := h
  obtain ⟨S', hpure⟩ := pure ns hlen hbits
  obtain ⟨ha, hp, hrest⟩ := hbody A outer s H E hr
  rw [hb]
  have eG : g.G = g.T.map (·.1) := by unfold Gx.G; rw [hS]; rfl
  have hkn : ∀ b ∈ g.G, H b ≠ none := fun b hb z => by
    rw [eG] at hb
    obtain ⟨p, hp, e⟩ := List.mem_map.mp hb
    rw [← e, htb p hp] at z
    cases z
  have gi : GI K g g.G H [] := ⟨by rw [hS]; exact .nil, fun p hp => TabS.nil (htb p hp), fun _ h => h, hkn, by rw [eG]; exact hT, fun l e => by rw [hL] at e; cases e⟩
  have nT : ∀ o : HO, (∀ ps, o ≠ .tbl ps) → H p0 = some o → p0 ∉ g.G := fun o ho e z => by
    have z : p0 ∈ g.T.map (·.1) := eG ▸ z
    obtain ⟨p, hp, e2⟩ := List.mem_map.mp z
    rw [← e2, htb p hp] at e
    exact ho _ (Option.some.inj e).symm
  have hs' : SqL K (Fz g.G H) p0 (ns.map V.int) := by
    rcases hs with (h | ⟨o, h⟩) | h
    · exact .inl (.inl (fz_some.mpr ⟨nT _ (fun _ z => by cases z) h, h⟩))
    · exact .inl (.inr ⟨o, fz_some.mpr ⟨nT _ (fun _ z => by cases z) h, h⟩⟩)
    · exact .inr h
  have fr : Frame K g g.G g.G (fun _ => 0) (mds0 N.length [.cs]) (env0 N.length [.list (ns.map .int)]) (L2.start N [.ref p0]) H :=
    frame0 gi (.cons ⟨p0, _, _, rfl, rfl, hs', by rw [List.length_map]; omega, IsAll.of_ints⟩ .nil) rfl hN
  refine WSs.of (pss_cons hp wss) ?_
  have ne : dAdopt i a dr (env0 N.length [.list (ns.map .int)]) [] ≠ .bad := fun z => by rw [z] at hpure; cases hpure
  cases ea : a (env0 N.length [.list (ns.map .int)]) [] with
  | bad => exact absurd (by unfold dAdopt; rw [ea]; rfl) ne
  | exc x S1 => rw [show dAdopt i a dr (env0 N.length [.list (ns.map .int)]) [] = .exc x _ S1 from by unfold dAdopt; rw [ea]; rfl] at hpure; cases hpure
  | ok d S1 =>
    have ead : dAdopt i a dr (env0 N.length [.list (ns.map .int)]) [] = adL i dr (env0 N.length [.list (ns.map .int)]) d := by unfold dAdopt; rw [ea]; rfl
    rw [ead] at hpure ne
    refine ha _ H _ [] g.G g.G _ _ fr gi ⟨fun d' S2 v H1 e1 ev gi1 gd => ?_, fun x S2 e1 => (by rw [ea] at e1; cases e1), fun z => (by rw [ea] at z; cases z)⟩
    rw [ea] at e1
    cases e1
    obtain ⟨p, rfl, hpn, ht, gi2⟩ := gd
    cases d with
    | list xs =>
      have hpure : (dr ((env0 N.length [.list (ns.map .int)]).set i (some .none)) [xs]).fin false = .ok (.bool true) S' := hpure
      have ne : dr ((env0 N.length [.list (ns.map .int)]).set i (some .none)) [xs] ≠ .bad := ne
      obtain ⟨vs, hpv, hvz, hvi⟩ := top_lst ht
      have npG : p ∉ g.G := fun z => gi.kn p z hpn
      have eT : (gTape g p).G = p :: g.G := by unfold Gx.G; rw [hS]; rfl
      have hlt : i < (mds0 N.length [.cs]).length := by unfold mds0; simp; omega
      have gi3 : GI K (gTape g p) (p :: g.G) H1 [xs] := ⟨.cons ⟨vs, hpv, hvz, hvi⟩ .nil, gi2.tabs, by rw [eT]; exact fun _ h => h, gi2.kn, by rw [eT]; exact List.nodup_cons.mpr ⟨npG, by rw [eG]; exact hT⟩, fun l e => by rw [show (gTape g p).L = g.L from rfl, hL] at e; cases e⟩
      have ex : Ex (Fz g.G H) (Fz (p :: g.G) H1) := fun b o q => by
        have q := fz_some.mp q
        exact fz_some.mpr ⟨fun z => (List.mem_cons.mp z).elim (ne_of_none q.2 hpn) q.1, ev b o q.1 q.2⟩
      have hρ : i < (env0 N.length [.list (ns.map .int)]).length := by rw [← fr.lm]; exact hlt
      have hσ : i < (L2.start N [.ref p0]).length := by rw [fr.ls]; exact hρ
      have fr3 : Frame K (gTape g p) (p :: g.G) (p :: g.G) (fun _ => 0) ((mds0 N.length [.cs]).set i (.st 0)) ((env0 N.length [.list (ns.map .int)]).set i (some .none)) ((L2.start N [.ref p0]).set i (some (.ref p))) H1 := by
        refine ⟨by rw [List.length_set, List.length_set]; exact fr.lm, by rw [List.length_set, List.length_set]; exact fr.ls, fun _ h => h, by rw [eT]; exact fun _ h => h, fun j md hj => ?_⟩
        rw [getD_set hρ, getD_set hσ]
        by_cases ej : i = j
        · subst ej
          rw [List.getElem?_set_self hlt] at hj
          cases hj
          rw [if_pos rfl, if_pos rfl]
          exact ⟨p, rfl, rfl⟩
        · rw [List.getElem?_set_ne ej] at hj
          rw [if_neg ej, if_neg ej]
          have q := fr.slot j md hj
          have hj2 : md = .cs ∨ (md = .fz ∧ 1 ≤ j) := by
            unfold mds0 at hj
            rcases j with _ | j
            · cases hj; exact .inl rfl
            · rw [show ([Md.cs] ++ List.replicate (N.length - [Md.cs].length) Md.fz)[j + 1]? = (List.replicate (N.length - [Md.cs].length) Md.fz)[j]? from rfl, List.getElem?_replicate] at hj
              split at hj
              · cases hj; exact .inr ⟨rfl, by omega⟩
              · cases hj
          rcases hj2 with rfl | ⟨rfl, h1⟩
          · exact let ⟨a, vs, ds, h1, h2, h3, h4, h5⟩ := q; ⟨a, vs, ds, h1, h2, ex.l h3, h4, h5.mono ex⟩
          · intro d e
            rw [env0_out (by simpa using h1)] at e
            cases e
      refine hrest p H1 (p :: g.G) (p :: g.G) _ _ _ H1 [xs] _ ⟨fr3, gi3, Evo.refl _ _, fun a h n => absurd h n⟩ ⟨fun ρ' S' e => ?_, fun d S' e v H' ev gi' rs => ?_, fun ρ' S' e => ?_, fun xc ρ' S' e => ?_, fun e => ne e⟩
      · rw [e] at hpure; cases hpure
      · rw [e] at hpure
        cases hpure
        have rs : Is K (Fz _ H') v (.bool true) := rs
        cases rs
        exact hq H'
      · rw [e] at hpure; cases hpure
      · rw [e] at hpure; cases hpure
    | _ => exact absurd rfl ne
end PD
/-! PDq: several names given at once. -/
namespace PD
open PySem PySem.Spec PyProof.Rows L2
section
variable {K : PySem.W.Frag} {g : Gx} {B0 B B' : List Addr} {ow ow' : Addr → Nat} {m : List Md} {ρ : Env} {σ : L2.St} {H H' : Hp} {i : Nat}
theorem SlotOk.relabel {md : Md} {od : Option PyData} {ov : Option V} (h : SlotOk K g B0 B ow H i md od ov) (e : Ex (Fz B H) (Fz B' H')) (hB : ∀ a ∈ B, a ∈ B') (hO : ∀ a, Own B0 B ow i a → ow' a = i) (ho : ∀ a o, Own B0 B ow i a → H a = some o → H' a = some o) : SlotOk K g B0 B' ow' H' i md od ov := by
  have k : ∀ {a}, Own B0 B ow i a → Own B0 B' ow' i a := fun {a} q => ⟨hB a q.1, q.2.1, hO a q⟩
  cases md with
  | un => trivial
  | fz => exact fun d hd => let ⟨v, a, b⟩ := h d hd; ⟨v, a, b.mono e⟩
  | own =>
    obtain ⟨d, p, h1, h2, h3, h4⟩ := h
    exact ⟨d, p, h1, h2, k h3, h4.mono e fun o q => ho p o h3 q⟩
  | own2 =>
    obtain ⟨ds, p, qs, h1, h2, h3, h4, h5, h6⟩ := h
    refine ⟨ds, p, qs, h1, h2, fun q hq => k (h3 q hq), h4, ho p _ (h3 p (List.mem_cons_self ..)) h5, ?_⟩
    have h3' : ∀ q ∈ qs, Own B0 B ow i q := fun q hq => h3 q (List.mem_cons_of_mem _ hq)
    clear h1 h2 h3 h4 h5
    induction h6 with
    | nil => exact .nil
    | cons r t ih => exact .cons (r.mono e fun o q => ho _ o (h3' _ (List.mem_cons_self ..)) q) (ih fun q hq => h3' q (List.mem_cons_of_mem _ hq))
  | st k => exact h
  | ea => exact let ⟨a, x, d, h1, h2, h3⟩ := h; ⟨a, x, d, h1, h2, h3.mono e⟩
  | lm => exact h
  | cs => exact let ⟨a, vs, ds, h1, h2, h3, h4, h5⟩ := h; ⟨a, vs, ds, h1, h2, e.l h3, h4, h5.mono e⟩
theorem under_ex {p : Addr} (ev : Evo g.G H H') (hp : H p = none) (hs : ∀ a ∈ g.G, a ∈ B) : Ex (Fz B H) (Fz (p :: B) H') := fun a u q => by
  have q := fz_some.mp q
  have ne : a ≠ p := ne_of_none q.2 hp
  exact fz_some.mpr ⟨fun z => (List.mem_cons.mp z).elim ne q.1, ev a u (fun z => q.1 (hs a z)) q.2⟩
/-- a new address, no slot's yet -/
theorem Frame.hold (f : Frame K g B0 B ow m ρ σ H) {p : Addr} (ev : Evo g.G H H') (hs : ∀ a ∈ g.G, a ∈ B) (hp : H p = none) (hn : p ∉ B) : Frame K g B0 (p :: B) (fun a => if a = p then m.length else ow a) m ρ σ H' :=
  ⟨f.lm, f.ls, fun a h => List.mem_cons_of_mem _ (f.sub a h), f.gsub, fun i md h => (f.slot i md h).relabel (under_ex ev hp hs) (fun a h => List.mem_cons_of_mem _ h)
    (fun a h => by
      show (if a = p then m.length else ow a) = i
      rw [if_neg fun (z : a = p) => hn (z ▸ h.1)]
      exact h.2.2) fun a o h q => ev a o (fun z => h.2.1 (f.gsub a z)) q⟩
/-- a slot takes a held list -/
theorem Frame.take (f : Frame K g B0 B ow m ρ σ H) {j : Nat} {p : Addr} {d : PyData} (hj : j < m.length) (hp : p ∈ B ∧ p ∉ B0 ∧ ow p = m.length) (ht : Top K B H p d) : Frame K g B0 B (fun a => if a = p then j else ow a) (m.set j .own) (ρ.set j (some d)) (σ.set j (some (.ref p))) H := by
  have hρ : j < ρ.length := by rw [← f.lm]; exact hj
  have hσ : j < σ.length := by rw [f.ls]; exact hρ
  refine ⟨by simp [f.lm], by simp [f.ls], f.sub, f.gsub, fun k md hk => ?_⟩
  rw [getD_set hρ, getD_set hσ]
  by_cases e : j = k
  · subst e
    rw [List.getElem?_set_self hj] at hk
    cases hk
    rw [if_pos rfl, if_pos rfl]
    exact ⟨d, p, rfl, rfl, ⟨hp.1, hp.2.1, if_pos rfl⟩, ht⟩
  · rw [List.getElem?_set_ne e] at hk
    rw [if_neg e, if_neg e]
    have hkl : k < m.length := (List.getElem?_eq_some_iff.mp hk).1
    refine (f.slot k md hk).relabel (Ex.refl _) (fun _ h => h) (fun a h => ?_) fun a o _ q => q
    show (if a = p then j else ow a) = k
    rw [if_neg fun (z : a = p) => by rw [z] at h; have := h.2.2; omega]
    exact h.2.2
/-- what several expressions gave: frozen values, new lists (at ps) -/
inductive Its (K : PySem.W.Frag) (B : List Addr) (H : Hp) : List Bool → List V → List PyData → List Addr → Prop
  | nil : Its K B H [] [] [] []
  | fz {ks : List Bool} {v : V} {vs : List V} {d : PyData} {ds : List PyData} {ps : List Addr} : Is K (Fz B H) v d → Its K B H ks vs ds ps → Its K B H (false :: ks) (v :: vs) (d :: ds) ps
  | own {ks : List Bool} {p : Addr} {vs : List V} {d : PyData} {ds : List PyData} {ps : List Addr} : Top K B H p d → p ∉ ps → Its K B H ks vs ds ps → Its K B H (true :: ks) (.ref p :: vs) (d :: ds) (p :: ps)
theorem Its.mono (e : Ex (Fz B H) (Fz B H')) (hx : Ex H H') {ks : List Bool} {vs : List V} {ds : List PyData} {ps : List Addr} (h : Its K B H ks vs ds ps) : Its K B H' ks vs ds ps := by
  induction h with
  | nil => exact .nil
  | fz h _ ih => exact .fz (h.mono e) ih
  | own h n _ ih => exact .own (h.mono e fun o q => hx _ o q) n ih
theorem Its.len {ks : List Bool} {vs : List V} {ds : List PyData} {ps : List Addr} (h : Its K B H ks vs ds ps) : vs.length = ks.length := by
  induction h with
  | nil => rfl
  | fz _ _ ih => simp [ih]
  | own _ _ _ ih => simp [ih]
def setMds (m : List Md) : List Nat → List Bool → List Md
  | i :: is, k :: ks => setMds (m.set i (if k = true then .own else .fz)) is ks
  | _, _ => m
theorem Frame.puts : ∀ {is : List Nat} {ks : List Bool} {vs : List V} {ds : List PyData} {ps : List Addr} {ow : Addr → Nat} {m : List Md} {ρ ρ' : Env} {σ : L2.St}, Its K B H ks vs ds ps → Frame K g B0 B ow m ρ σ H → (∀ i ∈ is, i < m.length) → (∀ p ∈ ps, p ∈ B ∧ p ∉ B0 ∧ ow p = m.length) → setAll ρ is ds = some ρ' →
    ∃ ow', Frame K g B0 B ow' (setMds m is ks) ρ' ((is.zip vs).foldl (fun s p => s.set p.1 (some p.2)) σ) H
  | [], ks, vs, ds, ps, ow, m, ρ, ρ', σ, h, f, hi, hp, e => by
    cases h with
    | nil => cases e; exact ⟨ow, f⟩
    | fz _ _ => cases e
    | own _ _ _ => cases e
  | i :: is, ks, vs, ds, ps, ow, m, ρ, ρ', σ, h, f, hi, hp, e => by
    cases h with
    | nil => cases e
    | fz h1 h2 =>
      obtain ⟨ow', q⟩ := Frame.puts (is := is) h2 (f.put (hi i (List.mem_cons_self ..)) h1) (fun j hj => by rw [List.length_set]; exact hi j (List.mem_cons_of_mem _ hj)) (fun p hq => by rw [List.length_set]; exact hp p hq) e
      exact ⟨ow', q⟩
    | own h1 h2 h3 =>
      obtain ⟨ow', qq⟩ := Frame.puts (is := is) h3 (f.take (hi i (List.mem_cons_self ..)) (hp _ (List.mem_cons_self ..)) h1) (fun j hj => by rw [List.length_set]; exact hi j (List.mem_cons_of_mem _ hj)) (fun q hq => by
        rw [List.length_set]
        obtain ⟨q1, q2, q3⟩ := hp q (List.mem_cons_of_mem _ hq)
        exact ⟨q1, q2, (if_neg (by intro z; subst z; exact h2 hq)).trans q3⟩) e
      exact ⟨ow', qq⟩
theorem gfold : ∀ {is : List Nat} {vs : List V} {σ : L2.St} {Q : L2.St → Hp → Prop}, vs.length = is.length → Q ((is.zip vs).foldl (fun s p => s.set p.1 (some p.2)) σ) H → (is.foldr (fun i u => gCons (gName i) u) gNil) vs σ H Q
  | [], [], σ, Q, _, q => ⟨rfl, q⟩
  | [], _ :: _, σ, Q, h, q => by cases h
  | _ :: _, [], σ, Q, h, q => by cases h
  | i :: is, v :: vs, σ, Q, h, q => ⟨v, vs, rfl, gfold (is := is) (by simpa using h) q⟩
end
/-- several expressions, one behind the other -/
def EQ (c : Cc) (m : List Md) (ks : List Bool) (es : List Expr) (den : DA) : Prop := ∀ σ H ρ S B0 B ow (Q : List V → Hp → Prop), Frame c.X.K c.g B0 B ow m ρ σ H → GI c.X.K c.g B H S →
  (∀ ds S' vs H' B' ow' ps, den ρ S = .ok ds S' → Evo c.g.G H H' → GI c.X.K c.g B' H' S' → Frame c.X.K c.g B0 B' ow' m ρ σ H' → Its c.X.K B' H' ks vs ds ps → (∀ p ∈ ps, p ∈ B' ∧ H p = none ∧ ow' p = m.length) → Ex (Fz B H) (Fz B' H') → (∀ a ∈ B, a ∈ B' ∧ ow' a = ow a) → (∀ a ∈ B', a ∉ B → H a = none) → Q vs H') →
  (∀ x S', den ρ S = .exc x S' → XOk c B H σ x S') → den ρ S ≠ .bad → WA c.X es σ H Q
section
variable {c : Cc} {x : Fx} {m m' m1 m2 : List Md} {He : Hp} {B0 B : List Addr} {ow : Addr → Nat} {ρ : Env} {σ : L2.St} {H : Hp} {S : Store} {D : Ends} {ks : List Bool} {e : Expr} {es : List Expr} {a : DE} {r : DA}
theorem eq_nil : EQ c m [] [] dNil := fun σ H ρ S B0 B ow Q fr gi k _ _ => WA.of pa_nil (k [] S [] H B ow [] rfl (Evo.refl _ _) gi fr .nil (fun _ h => by cases h) (Ex.refl _) (fun a h => ⟨h, rfl⟩) (fun a h n => absurd h n))
theorem eq_val (ha : EV c m e a) (hr : EQ c m ks es r) (hs : Pl e := by intro _ _; rfl) : EQ c m (false :: ks) (e :: es) (dCons a r) := by
  intro σ H ρ S B0 B ow Q fr gi k kx kb
  refine WA.of (pa_cons we wa (hs _ _)) (ha σ H ρ S B0 B ow _ fr gi ⟨fun d S1 v H1 e1 ev gi1 gd => ?_, fun x S' e1 => kx x S' (by unfold dCons; rw [e1]; rfl), fun e1 => kb (by unfold dCons; rw [e1]; rfl)⟩)
  refine hr σ H1 ρ S1 B0 B ow _ (fr.evo ev) gi1 (fun ds S' vs H' B' ow' ps e2 ev2 gi2 fr2 it hp ex hB hn => ?_) (fun x S' e2 cls dd H' ev2 gi2 xr => ?_) (fun e2 => kb (by unfold dCons; rw [e1]; simp only [R.bind_ok]; rw [e2]; rfl))
  · exact k (d :: ds) S' (v :: vs) H' B' ow' ps (by unfold dCons; rw [e1]; simp only [R.bind_ok]; rw [e2]; rfl) (ev.trans ev2) gi2 fr2 (.fz (gd.mono ex) it) (fun p hq => ⟨(hp p hq).1, free_back ev gi1 (hp p hq).2.1, (hp p hq).2.2⟩) ((ev.fz gi.sub).trans ex) hB (fun a ha n => free_back ev gi1 (hn a ha n))
  · exact kx x S' (by unfold dCons; rw [e1]; simp only [R.bind_ok]; rw [e2]; rfl) cls dd H' (ev.trans ev2) gi2 xr
theorem eq_own (ha : EO c m e a) (hr : EQ c m ks es r) (hs : Pl e := by intro _ _; rfl) : EQ c m (true :: ks) (e :: es) (dCons a r) := by
  intro σ H ρ S B0 B ow Q fr gi k kx kb
  refine WA.of (pa_cons we wa (hs _ _)) (ha σ H ρ S B0 B ow _ fr gi ⟨fun d S1 v H1 e1 ev gi1 gd => ?_, fun x S' e1 => kx x S' (by unfold dCons; rw [e1]; rfl), fun e1 => kb (by unfold dCons; rw [e1]; rfl)⟩)
  obtain ⟨p, rfl, hp0, ht, gi1'⟩ := gd
  have hn0 : p ∉ B := new_notin gi.kn hp0
  have exP := under_ex ev hp0 gi.sub
  have hpG : p ∉ c.g.G := fun z => hn0 (gi.sub p z)
  refine hr σ H1 ρ S1 B0 (p :: B) _ _ (fr.hold ev gi.sub hp0 hn0) gi1' (fun ds S' vs H' B' ow' ps e2 ev2 gi2 fr2 it hp ex hB hn => ?_) (fun x S' e2 cls dd H' ev2 gi2 xr => ?_) (fun e2 => kb (by unfold dCons; rw [e1]; simp only [R.bind_ok]; rw [e2]; rfl))
  · have hBp := hB p (List.mem_cons_self ..)
    have nps : p ∉ ps := fun z => ht.some (hp p z).2.1
    refine k (d :: ds) S' (.ref p :: vs) H' B' ow' (p :: ps) (by unfold dCons; rw [e1]; simp only [R.bind_ok]; rw [e2]; rfl) (ev.trans ev2) gi2 fr2 (.own (ht.mono ex fun o q => ev2 p o hpG q) nps it) (fun q hq => ?_) (exP.trans ex) (fun a ha => ?_) (fun a ha n => ?_)
    · rcases List.mem_cons.mp hq with rfl | hq
      · exact ⟨hBp.1, hp0, hBp.2.trans (if_pos rfl)⟩
      · exact ⟨(hp q hq).1, free_back ev gi1 (hp q hq).2.1, (hp q hq).2.2⟩
    · have q := hB a (List.mem_cons_of_mem _ ha)
      exact ⟨q.1, q.2.trans (if_neg fun (z : a = p) => hn0 (z ▸ ha))⟩
    · by_cases z : a = p
      · rw [z]; exact hp0
      · exact free_back ev gi1 (hn a ha fun q => (List.mem_cons.mp q).elim z n)
  · exact kx x S' (by unfold dCons; rw [e1]; simp only [R.bind_ok]; rw [e2]; rfl) cls dd H' (ev.trans ev2) (gi2.less (fun a h => List.mem_cons_of_mem _ h) gi.sub) (xr.mono (fz_anti fun a h => List.mem_cons_of_mem _ h))
def dPar (is : List Nat) (as : DA) : DS := fun ρ S => (as ρ S).st ρ fun ds S1 => match setAll ρ is ds with | some ρ1 => .nx ρ1 S1 | none => .bad
theorem sv_parG {is : List Nat} {as : DA} {st : Stmt} {F : Ends → L2.St → List V → Hp → Prop} (ha : EQ c m ks es as) (hi : ∀ i ∈ is, i < m.length) (hl : is.length = ks.length)
    (hp : ∀ ta, PA c.X es ta → PS c.X st (fun D σ H => ta σ H (F D σ)))
    (hF : ∀ D σ vs H1, vs.length = is.length → (∀ Hx, (∀ a o, H1 a = some o → Hx a = some o) → D.nx ((is.zip vs).foldl (fun s p => s.set p.1 (some p.2)) σ) Hx) → F D σ vs H1)
    (hx : WkX m x.mx = true := by rfl) : SV c x m (setMds m is ks) st (dPar is as) := by
  intro He B0 B ow ρ σ H S D i1 w
  refine WS.of (hp _ wa) ?_
  refine ha σ H ρ S B0 B ow _ i1.fr i1.gi (fun ds S' vs H' B' ow' ps e ev gi' fr' it hps ex hB hn => hF _ _ _ _ (by rw [it.len, hl]) fun Hx hxx => ?_) (fun xc S' e => xok i1 hx w xc S' e) (fun e => w.nb (by unfold dPar; rw [e]; rfl))
  cases es' : setAll ρ is ds with
  | none => exact absurd (by unfold dPar; rw [e]; simp only [R.st_ok, es']) w.nb
  | some ρ1 =>
    have exx : Ex H' Hx := hxx
    have frx := fr'.evo exx.evo
    have itx : Its c.X.K B' Hx ks vs ds ps := it.mono exx.fz exx
    obtain ⟨ow2, fr2⟩ := Frame.puts itx frx hi (fun p hq => ⟨(hps p hq).1, fun z => by
      have := i1.gi.kn p (i1.fr.sub p z)
      exact this (hps p hq).2.1, (hps p hq).2.2⟩) es'
    refine w.nx ρ1 S' (by unfold dPar; rw [e]; simp only [R.st_ok, es']) _ Hx B' ow2 ⟨fr2, gi'.ex exx, i1.ev.trans (ev.trans exx.evo), fun p hq hq0 => ?_⟩ (ex.trans exx.fz)
    by_cases hb : p ∈ B
    · exact i1.nw p hb hq0
    · exact free_back i1.ev i1.gi (hn p hq hb)
/-- two, three at once -/
theorem sv_par2 {i j : Nat} {as : DA} {tgs : List Expr} {kt k0 : Nat} {q1 q2 q3 : Pos} {k1 k2 : Bool} (ha : EQ c m [k1, k2] es as) (hi : ∀ k ∈ [i, j], k < m.length) (hp : ∀ ta, PA c.X es ta → PS c.X (.Assign [.Tuple tgs kt q1] (.Tuple es k0 q2) q3) (tPar i j ta)) (hx : WkX m x.mx = true := by rfl) : SV c x m (setMds m [i, j] [k1, k2]) (.Assign [.Tuple tgs kt q1] (.Tuple es k0 q2) q3) (dPar [i, j] as) :=
  sv_parG (F := fun D σ vs H1 => ∃ v w, vs = [v, w] ∧ D.nx ((σ.set i (some v)).set j (some w)) H1) ha hi rfl hp (fun D σ vs H1 hl k => by
    match vs, hl with
    | [v, w], _ => exact ⟨v, w, rfl, k H1 fun _ _ h => h⟩) hx
theorem sv_par3 {i j l : Nat} {as : DA} {tgs : List Expr} {kt k0 : Nat} {q1 q2 q3 : Pos} {k1 k2 k3 : Bool} (ha : EQ c m [k1, k2, k3] es as) (hi : ∀ k ∈ [i, j, l], k < m.length) (hp : ∀ ta, PA c.X es ta → PS c.X (.Assign [.Tuple tgs kt q1] (.Tuple es k0 q2) q3) (tPar3 i j l ta)) (hx : WkX m x.mx = true := by rfl) : SV c x m (setMds m [i, j, l] [k1, k2, k3]) (.Assign [.Tuple tgs kt q1] (.Tuple es k0 q2) q3) (dPar [i, j, l] as) :=
  sv_parG (F := fun D σ vs H1 => ∃ u v w, vs = [u, v, w] ∧ D.nx (((σ.set i (some u)).set j (some v)).set l (some w)) H1) ha hi rfl hp (fun D σ vs H1 hl k => by
    match vs, hl with
    | [u, v, w], _ => exact ⟨u, v, w, rfl, k H1 fun _ _ h => h⟩) hx
/-- .. by a tuple that is made and taken apart -/
theorem sv_parT {is : List Nat} {as : DA} {tgs : List Expr} {kt k0 : Nat} {q1 q2 q3 : Pos} (ha : EQ c m ks es as) (hi : ∀ i ∈ is, i < m.length) (hl : is.length = ks.length) (hz : is.length ≤ 1000) (hp : ∀ ta, PA c.X es ta → PS c.X (.Assign [.Tuple tgs kt q1] (.Tuple es k0 q2) q3) (tAsg (tTup ta) (gTup c.X.K is.length (is.foldr (fun i u => gCons (gName i) u) gNil)))) (hx : WkX m x.mx = true := by rfl) :
    SV c x m (setMds m is ks) (.Assign [.Tuple tgs kt q1] (.Tuple es k0 q2) q3) (dPar is as) :=
  sv_parG (F := fun D σ xs H1 => xs.length ≤ sizeLine ∧ ∀ p, H1 p = none → gTup c.X.K is.length (is.foldr (fun i u => gCons (gName i) u) gNil) (.ref p) σ (upd H1 p (.tup xs)) D.nx) ha hi hl hp (fun D σ vs H1 hlen k => by
    refine ⟨by rw [hlen]; exact Nat.le_trans hz (by decide), fun p hp => ⟨p, vs, rfl, .inl (.inl upd_same), hlen, gfold hlen (k _ fun a o h => Ex.new hp a o h)⟩⟩) hx
end
end PD
/-! PDr: enumerate of a list, a tuple, a text, from 0 or from a start. -/
namespace PD
open PySem PySem.Spec PyProof.Rows L2
open Sem (wp)
theorem meets_enum1 {v : Value} {o : Obj} {Hq : Heap → Prop} (Bg : Begins v o Hq) :
    Meets (Builtin.«enumerate.__new__» ⟨[.type "enumerate", v], []⟩) (fun _ R s => Hq s.heap ∧
      R (.ok (.ret (.ref (s.heap.push o).objs.size))) { s with heap := (s.heap.push o).push { cls := .type "enumerate", data := .fields #[.none, .bool false, .ref s.heap.objs.size, rawInt 0, .none, .none] } }) :=
  .of_wp fun prog w A R s h => by
    obtain ⟨hp, gg, dd, tk, os⟩ := s; obtain ⟨a1, h⟩ := h
    have hsubE := sub_enumerate
    have step1 : ∀ {A' : Around} {E : Value → Shared → Prop} {Q : Value → Shared → Prop}, Q (.ref hp.objs.size) ⟨hp.push o, gg, dd, tk, os⟩ → wpAny (model prog w) A' (pyIter v) Q E ⟨hp, gg, dd, tk, os⟩ :=
      fun q => Bg.iter prog w _ _ ⟨hp, gg, dd, tk, os⟩ _ a1 q
    wp_walk using step1
    refine wpAny_stack_any fun st => wpAny_pure ?_
    split
    · rename_i c _ _ _ _ _
      cases (c == Value.type "enumerate")
      · wp_walk using step1
        exact ⟨_, rfl, h⟩
      · wp_walk using step1
        exact ⟨_, rfl, h⟩
    · wp_walk using step1
      exact ⟨_, rfl, h⟩
theorem enum_begins1 {prog : Program} {w : World} {A : Around} {E : Value → Shared → Prop} {s : Shared} {v : Value} {o : Obj} {Hq : Heap → Prop} {Q : Value → Shared → Prop} (Bg : Begins v o Hq) (h1 : Hq s.heap)
    (h : ∀ h', IsEnum h' (s.heap.objs.size + 1) s.heap.objs.size 0 .none → h'.get? s.heap.objs.size = some o → h'.objs.size = s.heap.objs.size + 2 →
      (∀ b o, s.heap.get? b = some o → h'.get? b = some o) → Q (.ref (s.heap.objs.size + 1)) { s with heap := h' }) :
    wpAny (model prog w) A (call (.type "enumerate") [v]) Q E s := by
  refine callType_new F.called_enumerate (by decide) (F.typeCall_enumerate_1 _) (F.newCall_enumerate_1 _) (fun obj => F.args_object_init_2 obj _) F.entry_enumerate_new
    (meets_enum1 Bg) ⟨h1, ?_⟩
  have z1 : (s.heap.push o).objs.size = s.heap.objs.size + 1 := Heap.size_push ..
  show _ ∧ _
  rw [z1]
  have ie : IsEnum ((s.heap.push o).push { cls := .type "enumerate", data := .fields #[.none, .bool false, .ref s.heap.objs.size, rawInt 0, .none, .none] }) (s.heap.objs.size + 1) s.heap.objs.size 0 .none := by
    have q := Heap.get?_push_size (s.heap.push o) (o := { cls := .type "enumerate", data := .fields #[.none, .bool false, .ref s.heap.objs.size, rawInt 0, .none, .none] }) rfl
    rw [z1] at q; exact q
  refine ⟨⟨_, ie, rfl⟩, h _ ie (Heap.get?_push_of_some _ (Heap.get?_push_size _ Bg.free)) (by rw [Heap.size_push, z1]) fun b o x => Heap.get?_push_of_some _ (Heap.get?_push_of_some _ x)⟩
/-- what is gone through -/
inductive Src where
  | l (a : Addr) | t (a : Addr) | s (z : Str)
def Src.v : Src → V | .l a => .ref a | .t a => .ref a | .s z => .str z
def Src.At (K : PySem.W.Frag) (r : Src) (H : Hp) (xs : List V) : Prop := match r with | .l a => SqL K H a xs | .t a => SqT K H a xs | .s z => xs = signs z
def Src.it (r : Src) (it : Addr) (i : Nat) (h : Heap) : Prop := match r with | .l a => h.IsListIter it a i | .t a => h.IsTupleIter it a i | .s z => ∃ t, h.IsStrIter it (strIterType z) z t i
/-- each item in a new pair, counted from k -/
def Ien (K : PySem.W.Frag) (k : Int) (r : Src) (n : Nat) : It :=
  ⟨fun i H => ∃ (xs : List V) (x : V), r.At K H xs ∧ xs.length = n ∧ xs[i]? = some x, fun i H v H' => ∃ T x, v = .ref T ∧ H T = none ∧ H' = upd H T (.tup [.int (k + (i : Nat)), x]) ∧ ∀ xs, r.At K H xs → xs[i]? = some x, fun i H => ∃ xs : List V, r.At K H xs ∧ xs.length = n ∧ n ≤ i⟩
theorem src_draws {X : Cx} {pins : List (Addr × Obj)} {σ : L2.St} {H : Hp} {s : Shared} (I : Inv X pins σ H s) (hc : X.calm = true) {r : Src} {xs : List V} {it e : Addr} {i : Nat} {k : Int} {old : Value} (hs : r.At X.K H xs) (hit : r.it it i s.heap) (he : IsEnum s.heap e it k old) (hne : e ≠ it) :
    ∃ (fp : List Addr) (P : Nat → Value → Prop) (St : Nat → Heap → Prop), Draws X.prog X.w X.A.in1 it fp xs.length P St ∧ St i s.heap ∧ e ∉ fp ∧ (∀ u, P i u → ∃ x, xs[i]? = some x ∧ RelV x u) ∧ ∀ j h', St j h' → r.it it j h' := by
  have hd : X.A.in1.handled = none := I.ok.hd hc
  cases r with
  | l a =>
    obtain ⟨its, rv, p, hz⟩ := I.list hs
    have el := rv.length
    have nai : a ≠ it := fun z => by
      obtain ⟨o, h1, h2, h3⟩ := hit
      obtain ⟨o', h4, h5, _⟩ := p.isList
      rw [z, h1] at h4
      cases h4
      rw [h2] at h5
      exact absurd h5 (by decide)
    refine ⟨_, _, _, (show xs.length = its.toArray.size by simpa using el) ▸ Draws.list hd it a nai its.toArray, ⟨hit, p.isList⟩, fun z => ?_, fun u hu => ?_, fun j h' st => st.1⟩
    · rcases List.mem_cons.mp z with z | z
      · exact hne z
      · obtain rfl := List.mem_singleton.mp z
        obtain ⟨o', h4, h5, _⟩ := p.isList
        rw [he] at h4
        cases h4
        exact absurd (show Value.type "enumerate" = Value.type "list" from h5) (by decide)
    · have hu : its.toArray[i]? = some u := hu
      have hi : i < xs.length := by
        have := (Array.getElem?_eq_some_iff.mp hu).1
        simpa [el] using this
      obtain ⟨w, hw, rw'⟩ := rv.get (List.getElem?_eq_getElem hi)
      rw [List.getElem?_toArray, hw] at hu
      cases hu
      exact ⟨_, List.getElem?_eq_getElem hi, rw'⟩
  | t a =>
    obtain ⟨its, rv, p, hz⟩ := I.tuple hs
    have p' : s.heap.IsTuple a its.toArray := p
    have el := rv.length
    have nai : a ≠ it := fun z => by
      obtain ⟨o, h1, h2, h3⟩ := hit
      obtain ⟨o', h4, h5, _⟩ := p'
      rw [z, h1] at h4
      cases h4
      rw [h2] at h5
      exact absurd h5 (by decide)
    refine ⟨_, _, _, (show xs.length = its.toArray.size by simpa using el) ▸ Draws.tuple hd it a nai its.toArray, ⟨hit, p'⟩, fun z => ?_, fun u hu => ?_, fun j h' st => st.1⟩
    · rcases List.mem_cons.mp z with z | z
      · exact hne z
      · obtain rfl := List.mem_singleton.mp z
        obtain ⟨o', h4, h5, _⟩ := p'
        rw [he] at h4
        cases h4
        exact absurd (show Value.type "enumerate" = Value.type "tuple" from h5) (by decide)
    · have hu : its.toArray[i]? = some u := hu
      have hi : i < xs.length := by
        have := (Array.getElem?_eq_some_iff.mp hu).1
        simpa [el] using this
      obtain ⟨w, hw, rw'⟩ := rv.get (List.getElem?_eq_getElem hi)
      rw [List.getElem?_toArray, hw] at hu
      cases hu
      exact ⟨_, List.getElem?_eq_getElem hi, rw'⟩
  | s z =>
    obtain ⟨t, hit⟩ := hit
    have hs : xs = signs z := hs
    subst hs
    have el : (signs z).length = z.cps.size := by unfold signs; rw [List.length_map, Array.length_toList]
    refine ⟨_, _, _, el ▸ Draws.text hd it z t, hit, fun q => hne (List.mem_singleton.mp q), fun u hu => ?_, fun j h' st => ⟨t, st⟩⟩
    obtain ⟨cc, t2, h1, rfl⟩ := hu
    refine ⟨.str ⟨#[cc]⟩, ?_, ⟨t2, rfl⟩⟩
    unfold signs
    rw [List.getElem?_map, Array.getElem?_toList, h1]
    rfl
theorem Src.it_keep {r : Src} {it : Addr} {i : Nat} {h h' : Heap} (st : r.it it i h) (k : ∀ o, h.get? it = some o → h'.get? it = some o) : r.it it i h' := by
  cases r with
  | l a => exact Heap.IsListIter.at st fun o e => k o e
  | t a => exact Heap.IsTupleIter.at st fun o e => k o e
  | s z => obtain ⟨t, o, ho, q⟩ := st; exact ⟨t, o, k o ho, q⟩
theorem Src.it_obj {r : Src} {it : Addr} {i : Nat} {h : Heap} (st : r.it it i h) : ∃ o, h.get? it = some o ∧ ∀ v, o.data ≠ .cell v := by
  cases r with
  | l a => obtain ⟨o, ho, _, hd⟩ := st; exact ⟨o, ho, fun v z => by rw [hd] at z; cases z⟩
  | t a => obtain ⟨o, ho, _, hd⟩ := st; exact ⟨o, ho, fun v z => by rw [hd] at z; cases z⟩
  | s z => obtain ⟨t, o, ho, _, hd⟩ := st; exact ⟨o, ho, fun v z => by rw [hd] at z; cases z⟩
theorem Src.At_inj {X : Cx} {pins : List (Addr × Obj)} {σ : L2.St} {H : Hp} {s : Shared} (I : Inv X pins σ H s) {r : Src} {xs ys : List V} (h1 : r.At X.K H xs) (h2 : r.At X.K H ys) : xs = ys := by
  cases r with
  | l a => exact I.list_inj h1 h2
  | t a => exact I.tuple_inj h1 h2
  | s z => exact (show xs = signs z from h1).trans (show ys = signs z from h2).symm
theorem turn_en {P : Program} {w : World} {K : PySem.W.Frag} {elts : List Expr} {kk : Nat} {tpos : Pos} (r : Src) (k : Int) (n : Nat) (e it : Addr) :
    Turn P w K (.Tuple elts kk tpos) (Ien K k r n) [e, it] e (fun i h => (∃ old, IsEnum h e it (k + ((i : Nat) : Int)) old) ∧ r.it it i h ∧ e ≠ it ∧ i ≤ n) where
  mem := by simp
  obj := fun i h st b hb => by
    obtain ⟨⟨old, he⟩, hi, _⟩ := st
    rcases (show b = e ∨ b = it by simpa using hb) with z | z
    · rw [z]; exact ⟨_, he, fun v q => nomatch q⟩
    · rw [z]; exact Src.it_obj hi
  keep := fun i h h' st q => let ⟨⟨old, he⟩, hi, hne, hn⟩ := st; ⟨⟨old, q e (by simp) _ he⟩, Src.it_keep hi fun o z => q it (by simp) o z, hne, hn⟩
  item := by
    intro X hP hw hK hc i pins s σ H E I hf st hg
    subst hP hw hK
    obtain ⟨⟨old, he⟩, hit, hne, hin⟩ := st
    obtain ⟨xs, x, hq, hxl, hx⟩ := hg
    obtain ⟨fp, P, St, D, st0, hef, hP, hSt⟩ := src_draws I hc hq hit he hne
    have hlt : i < xs.length := (List.getElem?_eq_some_iff.mp hx).1
    have hel : e < s.heap.objs.size := Heap.lt_size he
    have hil : it < s.heap.objs.size := by obtain ⟨_, q, _⟩ := Src.it_obj hit; exact Heap.lt_size q
    refine wpAny_pyNext_enum_itemC D he st0 hlt hne hef fun u h' tk hPu ho st' hT hsz hk => ?_
    obtain ⟨x', hx', ru⟩ := hP u hPu
    rw [hx] at hx'
    cases hx'
    refine ⟨_, rfl, wpAny_letOwnedTupleGo_enum (s := { s with heap := h', toks := tk + 1 }) ho fun h'' he' sb => ?_⟩
    have hT2 : h''.get? s.heap.objs.size = some { cls := .type "tuple", data := .seq #[.int (k + (i : Nat)) tk, u] } := (sb.2 _ (Nat.ne_of_gt hel)).trans hT
    have new : ObjOk X.prog X.w (upd H s.heap.objs.size (.tup [.int (k + (i : Nat)), x])) h'' s.heap.objs.size (.tup [.int (k + (i : Nat)), x]) :=
      ⟨by show 2 ≤ sizeLine; decide, [.int (k + (i : Nat)) tk, u], .cons ⟨_, rfl⟩ (.cons ru .nil), ⟨_, hT2, rfl, _, rfl⟩⟩
    have I1 : Inv X pins σ (upd H s.heap.objs.size (.tup [.int (k + (i : Nat)), x])) { s with heap := h'', toks := tk + 1 } :=
      I.turnedNew (ch := [e, it]) (fun b ob hb q => (sb.2 b (fun z => hb (by simp [z]))).trans (hk b ob (fun z => hb (by simp [z])) (fun z => hb (by simp [z])) q)) hf (Nat.le_refl _) new
    refine ⟨.ref s.heap.objs.size, _, I1, rfl, ⟨_, x, rfl, I.hok.fresh (Nat.le_refl _), rfl, fun ys hy => by rw [Src.At_inj I hy hq]; exact hx⟩, ⟨⟨u, ?_⟩, Src.it_keep (hSt _ _ st') fun o q => (sb.2 it (Ne.symm hne)).trans q, hne, by omega⟩, fun b hb => ?_⟩
    · have e1 : k + ((i + 1 : Nat) : Int) = k + (i : Int) + 1 := by omega
      rw [e1]; exact he'
    · have hb' : b < s.heap.objs.size := by
        rcases (show b = e ∨ b = it by simpa using hb) with z | z
        · rw [z]; exact hel
        · rw [z]; exact hil
      rw [upd_ne (Nat.ne_of_lt hb')]
      exact (hf b hb).1
  done := by
    intro X hP hw hK hc i pins s σ H E I hf st hg
    subst hP hw hK
    obtain ⟨⟨old, he⟩, hit, hne, hin⟩ := st
    obtain ⟨xs, hq, hxl, hx⟩ := hg
    obtain ⟨fp, P, St, D, st0, hef, hP, hSt⟩ := src_draws I hc hq hit he hne
    obtain ⟨f0, f1, f2, f3, f4, f5⟩ := hf it (by simp)
    obtain rfl : i = xs.length := by omega
    exact wpAny_pyNext_enum_endD D he st0 fun h' eb => ⟨rfl, I.turned (t' := s.toks) (fun b o hb q => eb b o hb q) f0 f1 f3 f4 f5⟩
  self := fun A i s Q E st h => let ⟨⟨_, he⟩, _⟩ := st; wpAny_pyIter_enum he h
theorem src_begins {X : Cx} {pins : List (Addr × Obj)} {σ : L2.St} {H : Hp} {s : Shared} (I : Inv X pins σ H s) {r : Src} {xs : List V} {u : Value} (hs : r.At X.K H xs) (ru : RelV r.v u) :
    ∃ (o : Obj) (Hq : Heap → Prop), Begins u o Hq ∧ Hq s.heap ∧ ∀ (h' : Heap) (it : Addr), h'.get? it = some o → r.it it 0 h' := by
  cases r with
  | l a =>
    obtain rfl : u = Value.ref a := ru
    obtain ⟨its, rv, p, hz⟩ := I.list hs
    exact ⟨_, _, begins_list a its.toArray, p.isList, fun h' it e => ⟨_, e, rfl, rfl⟩⟩
  | t a =>
    obtain rfl : u = Value.ref a := ru
    obtain ⟨its, rv, p, hz⟩ := I.tuple hs
    exact ⟨_, _, begins_tuple a its.toArray, p, fun h' it e => ⟨_, e, rfl, rfl⟩⟩
  | s z =>
    obtain ⟨t, rfl⟩ := ru
    exact ⟨_, _, begins_text z t, trivial, fun h' it e => ⟨t, _, e, rfl, rfl⟩⟩
/-- behind the call's argument -/
theorem en_iter {X : Cx} {pins : List (Addr × Obj)} {σ : L2.St} {H : Hp} {s : Shared} {elts : List Expr} {kk : Nat} {tpos : Pos} (I : Inv X pins σ H s) {r : Src} {xs : List V} {k : Int} {R : It → Hp → Prop} {h' : Heap}
    (he : IsEnum h' (s.heap.objs.size + 1) s.heap.objs.size k .none) (hit : r.it s.heap.objs.size 0 h') (hk : ∀ b o, s.heap.get? b = some o → h'.get? b = some o) (q : R (Ien X.K k r xs.length) H) :
    wpAny (model X.prog X.w) X.A (pyIter (.ref (s.heap.objs.size + 1))) (PIE X pins σ (.Tuple elts kk tpos) R) X.xe { s with heap := h' } := by
  refine wpAny_pyIter_enum he ?_
  have I2 : Inv X pins σ H { s with heap := h' } := I.kept (t' := s.toks) hk
  refine ⟨s.heap.objs.size + 1, [s.heap.objs.size + 1, s.heap.objs.size], _, _, H, rfl, I2, turn_en r k xs.length (s.heap.objs.size + 1) s.heap.objs.size, ⟨⟨.none, by rw [show k + ((0 : Nat) : Int) = k from by omega]; exact he⟩, hit, Nat.succ_ne_self _, Nat.zero_le _⟩, fun b hb => ?_, q⟩
  have hle : s.heap.objs.size ≤ b := by
    rcases (show b = s.heap.objs.size + 1 ∨ b = s.heap.objs.size by simpa using hb) with z | z
    · rw [z]; exact Nat.le_add_right _ _
    · rw [z]; exact Nat.le_refl _
  exact I.fpOk hle (I.hok.fresh hle)
def iEn1 (K : PySem.W.Frag) (ta : TA) : TI := fun σ H R => ta σ H fun vs H1 => ∃ (r : Src) (xs : List V), vs = [r.v] ∧ r.At K H1 xs ∧ R (Ien K 0 r xs.length) H1
def iEn2 (K : PySem.W.Frag) (ta : TA) : TI := fun σ H R => ta σ H fun vs H1 => ∃ (r : Src) (xs : List V) (k : Int), vs = [r.v, .int k] ∧ -(2 ^ 63) ≤ k ∧ k < 2 ^ 63 ∧ r.At K H1 xs ∧ R (Ien K k r xs.length) H1
theorem pi_en1 {X : Cx} {e : Expr} {ta : TA} {p pos tpos : Pos} {elts : List Expr} {kk : Nat} (hg : Gl X "enumerate") (hm : X.mg "enumerate" = none) (ha : PA X [e] ta) (hs : starEach [e] X.env = [(false, eval e X.env)] := by rfl) :
    PI X (.Tuple elts kk tpos) (.Call (.Name "enumerate" p) [e] [] pos) (iEn1 X.K ta) := by
  refine ⟨fun pins s σ H R I h => Call_ (ld_blt I hg hm boot_enumerate (PyProof.Rows.callWith_type1 (thn (ha.run pos pins s σ H _ I h) fun us s1 hh => ?_) hs rfl))⟩
  obtain ⟨vs, H1, I1, r1, r, xs, rfl, ha, q⟩ := hh
  cases r1 with
  | cons ru rr =>
    cases rr
    obtain ⟨o, Hq, Bg, hq, hit⟩ := src_begins I1 ha ru
    exact enum_begins1 Bg hq fun h' he ho hsz hk => en_iter I1 he (hit _ _ ho) hk q
theorem pi_en2 {X : Cx} {e e2 : Expr} {ta : TA} {p pos tpos : Pos} {elts : List Expr} {kk : Nat} (hg : Gl X "enumerate") (hm : X.mg "enumerate" = none) (ha : PA X [e, e2] ta) (hs : starEach [e, e2] X.env = (false, eval e X.env) :: starEach [e2] X.env := by rfl) (hpl : (backTo pos (starEach [e2] X.env)).any (·.1) = false := by rfl) :
    PI X (.Tuple elts kk tpos) (.Call (.Name "enumerate" p) [e, e2] [] pos) (iEn2 X.K ta) := by
  refine ⟨fun pins s σ H R I h => Call_ (ld_blt I hg hm boot_enumerate (PyProof.Rows.callWith_type1 (thn (ha.run pos pins s σ H _ I h) fun us s1 hh => ?_) hs hpl))⟩
  obtain ⟨vs, H1, I1, r1, r, xs, k, rfl, hk0, hk1, ha, q⟩ := hh
  cases r1 with
  | cons ru rr =>
    cases rr with
    | cons rk rr =>
      cases rr
      obtain ⟨t, rfl⟩ := rk
      obtain ⟨o, Hq, Bg, hq, hit⟩ := src_begins I1 ha ru
      exact enum_begins Bg hq hk0 hk1 fun h' he ho hsz hk => en_iter I1 he (hit _ _ ho) hk q
section
variable {c : Cc} {m : List Md} {a b : Expr} {da db : DE} {p pos tpos : Pos} {elts : List Expr} {kk : Nat}
def fEnum (k : Int) (x : PyData) : Option (List PyData) := (seqD x).map (enumD k)
theorem src_of {K : PySem.W.Frag} {B : List Addr} {H : Hp} {v : V} {d : PyData} {ds : List PyData} (h : Is K (Fz B H) v d) (e : seqD d = some ds) : ∃ (r : Src) (xs : List V), r.v = v ∧ r.At K (Fz B H) xs ∧ IsAll K (Fz B H) xs ds ∧ xs.length ≤ sizeLine := by
  unfold seqD at e
  split at e
  · cases e
    cases h with
    | lst h1 z r => exact ⟨.l _, _, rfl, .inl (.inl h1), r, z⟩
  · cases e
    cases h with
    | tup h1 z r => exact ⟨.t _, _, rfl, h1, r, z⟩
  · split at e
    · rename_i z hz
      cases e
      cases h
      exact ⟨.s _, signs _, rfl, rfl, signs_is _, by unfold signs; rw [List.length_map, Array.length_toList]; exact sz_le hz⟩
    · cases e
  · cases e
theorem Src.At_mono {K : PySem.W.Frag} {H H' : Hp} {r : Src} {xs : List V} (e : Ex H H') (h : r.At K H xs) : r.At K H' xs := by
  cases r with
  | l a => exact e.l h
  | t a => exact e.t h
  | s z => exact h
theorem itF_en {K : PySem.W.Frag} {B : List Addr} {H : Hp} {r : Src} {xs : List V} {ds : List PyData} {k : Int} (ha : r.At K (Fz B H) xs) (hi : IsAll K (Fz B H) xs ds) (hz : xs.length ≤ sizeLine) : ItF K B H (Ien K k r xs.length) (enumD k ds) := by
  refine ⟨by rw [enumD_len, ← hi.length]; exact hz, fun B' H' e kn => ⟨fun i d hd => ?_, fun i hl => ?_⟩⟩
  · obtain ⟨x, e1, rfl⟩ := enumD_get _ _ _ _ hd
    obtain ⟨v, hv, iv⟩ := hi.get e1
    have s1 : r.At K H' xs := Src.At_mono fz_le (Src.At_mono e ha)
    refine ⟨⟨xs, v, s1, rfl, hv⟩, fun q H3 ⟨T, x', e3, hT, e4, k1⟩ => ?_⟩
    subst e3 e4
    have q1 := k1 xs s1
    rw [hv] at q1
    cases q1
    exact ⟨Ex.new hT, pair_is kn hT (.int _) (iv.mono e)⟩
  · rw [enumD_len, ← hi.length] at hl
    exact ⟨xs, Src.At_mono fz_le (Src.At_mono e ha), rfl, hl⟩
theorem if_enum (hg : Gl c.X "enumerate") (hm : c.X.mg "enumerate" = none) (ha : EV c m a da) (hs : Pl a := by intro _ _; rfl) : IFo c m (.Tuple elts kk tpos) (.Call (.Name "enumerate" p) [a] [] pos) (dIt (fEnum 0) da) := by
  intro σ H ρ S B0 B ow Q fr gi g
  refine WI.of (pi_en1 hg hm (pa_cons we pa_nil (hs _ _)) (hs _ _)) (ha σ H ρ S B0 B ow _ fr gi (g.bind fun d S1 v H1 _ ev1 gi1 gd1 g1 => ?_))
  unfold fEnum at g1
  cases e : seqD d with
  | none => rw [e] at g1; exact absurd rfl g1.not_bad
  | some ds =>
    rw [e] at g1
    obtain ⟨r, xs, rfl, h1, h2, h3⟩ := src_of gd1 e
    exact ⟨r, xs, rfl, Src.At_mono fz_le h1, g1.ok0 gi1 (itF_en h1 h2 h3)⟩
def fEnum2 (x y : PyData) : Option (List PyData) := match y with | .int k => if decide (-(2 ^ 63) ≤ k) && decide (k < 2 ^ 63) then fEnum k x else none | _ => none
theorem if_enum2 (hg : Gl c.X "enumerate") (hm : c.X.mg "enumerate" = none) (ha : EV c m a da) (hb : EV c m b db) (hs : Pl a := by intro _ _; rfl) (hs2 : Pl b := by intro _ _; rfl) : IFo c m (.Tuple elts kk tpos) (.Call (.Name "enumerate" p) [a, b] [] pos) (dIt2 fEnum2 da db) := by
  intro σ H ρ S B0 B ow Q fr gi g
  refine WI.of (pi_en2 hg hm (pa_cons we (pa_cons we pa_nil (hs2 _ _)) (hs _ _)) (hs _ _) (by rw [hs2 _ _]; rfl)) (ha σ H ρ S B0 B ow _ fr gi (g.bind fun d S1 v H1 _ ev1 gi1 gd1 g1 => ?_))
  refine hb σ H1 ρ S1 B0 B ow _ (fr.evo ev1) gi1 (g1.bind fun d2 S2 v2 H2 _ ev2 gi2 gd2 g2 => ?_)
  have gd1 := gd1.mono (ev2.fz gi2.sub)
  cases d2 with
  | int k =>
    simp only [fEnum2] at g2
    split at g2
    · rename_i hc
      rw [Bool.and_eq_true] at hc
      unfold fEnum at g2
      cases e : seqD d with
      | none => rw [e] at g2; exact absurd rfl g2.not_bad
      | some ds =>
        rw [e] at g2
        obtain ⟨r, xs, rfl, h1, h2, h3⟩ := src_of gd1 e
        cases gd2
        exact ⟨r, xs, k, rfl, of_decide_eq_true hc.1, of_decide_eq_true hc.2, Src.At_mono fz_le h1, g2.ok0 gi2 (itF_en h1 h2 h3)⟩
    · exact absurd rfl g2.not_bad
  | _ => exact absurd rfl g2.not_bad
end
end PD
/-! PDs: texts: as often as told, turned round, split, joined; an empty dict. -/
namespace PD
open PySem PySem.Spec PyProof.Rows L2
def repS (z : Str) (k : Int) : Str := ⟨(List.replicate k.toNat z.cps.toList).flatten.toArray⟩
def fRepS : PyData → PyData → Option PyData
  | .str z, .int k => if decide (-1000 ≤ k ∧ k ≤ 1000 ∧ z.length ≤ 1000) then some (.str (repS z k)) else none
  | _, _ => none
def rRepS : R2 := fun x y H Q => ∃ (z : Str) (k : Int), x = .str z ∧ y = .int k ∧ -1000 ≤ k ∧ k ≤ 1000 ∧ z.length ≤ 1000 ∧ Q (.str (repS z k)) H
theorem foldl_arr (l : List Nat) : ∀ (m : Nat) (acc : List Nat), (List.replicate m l.toArray).foldl (· ++ ·) acc.toArray = (acc ++ (List.replicate m l).flatten).toArray
  | 0, acc => by simp
  | m + 1, acc => by
    rw [List.replicate_succ, List.foldl_cons, List.append_toArray, foldl_arr l m (acc ++ l), List.replicate_succ, List.flatten_cons, List.append_assoc]
theorem repS_len (z : Str) (k : Int) (h1 : k ≤ 1000) (h2 : z.length ≤ 1000) : (repS z k).length ≤ 1000000 := by
  show ((List.replicate k.toNat z.cps.toList).flatten.toArray).size ≤ 1000000
  rw [List.size_toArray, lm_len_rep_flat, Array.length_toList]
  have h2 : z.cps.size ≤ 1000 := h2
  have a1 : k.toNat * z.cps.size ≤ 1000 * 1000 := Nat.mul_le_mul (by omega) h2
  omega
theorem op_repS {X : Cx} : OpR X (binaryOp .Mult) rRepS := by
  intro pins s σ H x y v u Q I rx ry h
  obtain ⟨z, k, rfl, rfl, k0, k1, hz, q⟩ := h
  obtain ⟨t, rfl⟩ := rx
  obtain ⟨t2, rfl⟩ := ry
  have hz' : z.cps.size ≤ 1000 := hz
  refine P.mul_str (by rw [decide_eq_false (by omega), decide_eq_false (by omega)]; rfl) (fun h1 _ => ?_) (fun h1 _ => ?_) ?_
  · have : (1000 : Int) ≤ (2 ^ 63 - 1) / k := by
      rw [Int.le_ediv_iff_mul_le (by omega)]
      omega
    omega
  · have a1 : z.length * k.toNat ≤ 1000 * 1000 := Nat.mul_le_mul hz (by omega)
    unfold Builtin.Str.tooLong
    exact decide_eq_false (by rw [sizeLine_eq]; omega)
  · by_cases h1 : k < 1
    · rw [if_pos h1]
      refine ⟨by decide, .str _, H, I.tok _, ⟨_, rfl⟩, ?_⟩
      have e : repS z k = Str.empty := by
        unfold repS
        rw [show k.toNat = 0 from by omega]
        rfl
      rw [e] at q
      exact q
    · rw [if_neg h1]
      by_cases h2 : (k == 1 || z.length == 0) = true
      · rw [if_pos h2]
        have e : repS z k = z := by
          unfold repS
          rcases Bool.or_eq_true _ _ ▸ h2 with h | h
          · rw [beq_iff_eq.mp h]
            simp
          · have h : z.cps.size = 0 := beq_iff_eq.mp h
            have e0 : z.cps = #[] := Array.eq_empty_of_size_eq_zero h
            cases z with
            | mk a => subst e0; simp
        rw [e] at q
        exact ⟨.str z, H, I, ⟨t, rfl⟩, q⟩
      · rw [if_neg h2]
        have e : (⟨(List.replicate k.toNat z.cps).foldl (· ++ ·) #[]⟩ : Str) = repS z k := by
          unfold repS
          have := foldl_arr z.cps.toList k.toNat []
          simp only [List.nil_append, Array.toArray_toList] at this
          rw [this]
        rw [e]
        exact ⟨Nat.le_trans (repS_len z k k1 hz) (by rw [sizeLine_eq]; decide), .str _, H, I.tok _, ⟨_, rfl⟩, q⟩
theorem opd_repS {K : PySem.W.Frag} {g : Gx} : OpD K g rRepS fRepS := by
  intro B H x y dx dy d Q hn hg hx hy e k
  unfold fRepS at e
  split at e
  · split at e
    · rename_i hc
      cases e
      have hc := of_decide_eq_true hc
      obtain rfl := hx.str
      obtain rfl := hy.int
      exact ⟨_, _, rfl, rfl, hc.1, hc.2.1, hc.2.2, k _ _ (Ex.refl _) (.str _)⟩
    · cases e
  · cases e
/-- z[::-1] -/
def revS (z : Str) : Str := ⟨z.cps.toList.reverse.toArray⟩
theorem rev_pick (z : Str) : ((Builtin.Str.strSliceIndices none none (-1) z.length).filterMap (z.cps[·]?)).toArray = (revS z).cps := by
  have e : Builtin.Str.strSliceIndices none none (-1) z.length = (List.range z.length).map fun k => z.length - 1 - k := by
    unfold Builtin.Str.strSliceIndices
    exact PySem.W.krv_sliceRange z.length
  rw [e, PySem.W.krv_range]
  show _ = z.cps.toList.reverse.toArray
  rw [show z.length = z.cps.size from rfl, List.filterMap_reverse, PySem.W.krv_all]
theorem pe_revS {X : Cx} {e : Expr} {te : TE} {k : Nat} {p1 p2 p3 pos : Pos} (he : PE X e te) : PE X (.Subscript e (.Slice none none (some (.UnaryOp .USub (.Constant (.int 1) k p1) p2)) p3) pos) (fun σ H Q => te σ H fun x H1 => ∃ z, x = .str z ∧ z.length ≤ sizeLine ∧ Q (.str (revS z)) H1) := by
  refine ⟨fun pins s σ H Q I h => Subscript_ (thn (he.run pins s σ H _ I h) fun v s1 hh => ?_)⟩
  obtain ⟨x, H1, I1, r1, z, rfl, hz, q⟩ := hh
  obtain ⟨t, rfl⟩ := r1
  have part : PO X (some (.UnaryOp .USub (.Constant (.int 1) k p1) p2)) (tPart (tUn (rU fun i => .int (-i)) (tC (.int 1)))) := po_some (pe_un un_neg pe_int)
  refine wpAny_Slice (thn (po_none.run pins s1 σ H1 (fun o H2 => o = none ∧ H2 = H1) I1 ⟨rfl, rfl⟩) fun vl s2 hl => ?_)
  obtain ⟨l, H2, I2, pl, rfl, rfl⟩ := hl
  refine thn (po_none.run pins s2 σ _ (fun o H3 => o = none ∧ H3 = _) I2 ⟨rfl, rfl⟩) fun vu s3 hu => ?_
  obtain ⟨u, H3, I3, pu, rfl, rfl⟩ := hu
  refine thn (part.run pins s3 σ _ (fun o H4 => o = some (-1) ∧ H4 = _) I3 ⟨1, rfl, -1, rfl, rfl, rfl⟩) fun vs s4 hs => ?_
  obtain ⟨o, H4, I4, ps, rfl, rfl⟩ := hs
  obtain ⟨l', rfl, el⟩ := IsPart.raw pl
  obtain ⟨u', rfl, eu⟩ := IsPart.raw pu
  obtain ⟨s', rfl, es⟩ := IsPart.raw ps
  have I5 := I4.kept (t' := s4.toks) (h' := s4.heap.push { cls := .type "slice", data := .fields #[partValue l', partValue u', partValue s'] }) fun b ob q => Heap.get?_push_of_some _ q
  show wpAny (model X.prog X.w) X.A (subscriptTail e (.Slice none none (some (.UnaryOp .USub (.Constant (.int 1) k p1) p2)) p3) (.str z t) (.ref s4.heap.objs.size)) (EP X pins σ Q) X.xe { s4 with heap := s4.heap.push { cls := .type "slice", data := .fields #[partValue l', partValue u', partValue s'] } }
  refine tail_any (ops := [.str z t, .ref s4.heap.objs.size]) (typeIs_str _ _ _) F.slot_str_getitem.lookup ?_ (by with_unfolding_all rfl)
  have e1 : l'.map (·.1) = none := el
  have e2 : u'.map (·.1) = none := eu
  have e3 : s'.map (·.1) = some (-1) := es
  refine wpAny_getItem_str_slice (l := l') (u := u') (st := s') ⟨_, Heap.get?_push_size _ rfl, rfl, rfl⟩ (by rw [e3]; rfl) ?_
  unfold sliceMade slicePicked
  rw [e1, e2, e3]
  rw [if_neg (by simp)]
  have e4 : (⟨((Builtin.Str.strSliceIndices none none ((some (-1 : Int)).getD 1) z.length).filterMap (z.cps[·]?)).toArray⟩ : Str) = revS z := by
    rw [show (some (-1 : Int)).getD 1 = -1 from rfl, rev_pick]
  rw [e4]
  refine ⟨?_, .str _, _, I5.tok _, ⟨_, rfl⟩, q⟩
  show (z.cps.toList.reverse.toArray).size ≤ sizeLine
  rw [List.size_toArray, List.length_reverse, Array.length_toList]
  exact hz
section
variable {c : Cc} {m : List Md} {a b : Expr} {da db : DE} {pos apos p p1 p2 p3 : Pos} {k : Nat}
def fRevS : PyData → Option PyData | .str z => if sz z.length then some (.str (revS z)) else none | _ => none
theorem ev_revS (ha : EV c m a da) : EV c m (.Subscript a (.Slice none none (some (.UnaryOp .USub (.Constant (.int 1) k p1) p2)) p3) pos) (d1 fRevS da) := by
  intro σ H ρ S B0 B ow Q fr gi g
  refine PD.WE.of (pe_revS we) (ha σ H ρ S B0 B ow _ fr gi (g.bind fun d S1 v H1 _ ev1 gi1 gd1 g1 => ?_))
  unfold fRevS at g1
  split at g1
  · split at g1
    · rename_i hz
      cases gd1
      exact ⟨_, rfl, sz_le hz, g1.ok0 gi1 (.str _)⟩
    · exact absurd rfl g1.not_bad
  · exact absurd rfl g1.not_bad
def fTimes : PyData → PyData → Option PyData := orF fMul fRepS
theorem ev_times (ha : EB c m a da) (hb : EB c m b db) : EV c m (.BinOp a .Mult b pos) (d2 fTimes da db) :=
  ev_op (OpR.or (OpR.or op_mul (OpR.or op_repT op_rep)) op_repS) (OpD.or (OpD.or (opd_I cMul_ok) (OpD.or opd_repT opo_repL.d orF_or) orF_or) opd_repS orF_or) ha hb
/-- a text's method with one argument -/
def dM1 (F : Str → PyData → Option PyData) (a b : DE) : DE := fun ρ S => (a ρ S).bind fun x S1 => match x with | .str z => (b ρ S1).bind fun y S2 => ofO (F z y) S2 | _ => .bad
def fSplit (z : Str) : PyData → Option PyData
  | .str b => if b.length != 0 && decide (z.length + 2 ≤ sizeLine) then some (.list ((Txt.split z b).map .str)) else none
  | _ => none
theorem eo_split (ha : EV c m a da) (hb : EV c m b db) (hs : Pl b := by intro _ _; rfl) (hbase : attributeBase a "split" c.X.env (eval a c.X.env) = eval a c.X.env := by rfl) (hline : (apos.endLine == pos.line) = true := by rfl) : EO c m (.Call (.Attribute a "split" apos) [b] [] pos) (dM1 fSplit da db) := by
  intro σ H ρ S B0 B ow Q fr gi g
  refine PD.WE.of (pe_split we we (hs _ _) hbase hline) (ha σ H ρ S B0 B ow _ fr gi (g.bind fun d S1 v H1 _ ev1 gi1 gd1 g1 => ?_))
  cases gd1 with
  | str z =>
    refine ⟨⟨z, rfl⟩, hb σ H1 ρ S1 B0 B ow _ (fr.evo ev1) gi1 (g1.bind fun e S2 w H2 _ ev2 gi2 gd2 g2 => ?_)⟩
    cases gd2 with
    | str bb =>
      simp only [fSplit] at g2
      split at g2
      · rename_i hc
        rw [Bool.and_eq_true] at hc
        have hz := of_decide_eq_true hc.2
        refine ⟨z, bb, rfl, rfl, by simpa using hc.1, hz, fun p hp => g2.ok (Ex.new hp).evo (gi2.ex (Ex.new hp)) ⟨p, rfl, free_back ev1 gi1 (free_back ev2 gi2 hp), ?_, gi2.fresh (Ex.new hp) hp (by rw [upd_same]; intro z; cases z)⟩⟩
        exact top_newL hp (by rw [List.length_map]; exact Nat.le_trans (PyProof.Rows.split_le z bb) hz) IsAll.of_strs
      · exact absurd rfl g2.not_bad
    | _ => exact absurd rfl g2.not_bad
  | _ => exact absurd rfl g1.not_bad
def strsOf : List PyData → Option (List Str)
  | [] => some []
  | .str i :: r => (strsOf r).map (i :: ·)
  | _ :: _ => none
theorem strsOf_eq : ∀ {ds : List PyData} {ns : List Str}, strsOf ds = some ns → ds = ns.map .str
  | [], ns, h => by cases h; rfl
  | d :: r, ns, h => by
    cases d with
    | str i =>
      unfold strsOf at h
      cases e : strsOf r with
      | none => rw [e] at h; cases h
      | some ms => rw [e] at h; cases h; rw [strsOf_eq e]; rfl
    | _ => cases h
@[simp] theorem strsOf_strs : ∀ {ns : List Str}, strsOf (ns.map .str) = some ns
  | [] => rfl
  | n :: ns => by
    show (strsOf (ns.map .str)).map (n :: ·) = _
    rw [strsOf_strs]
    rfl
def fJoin (z : Str) : PyData → Option PyData
  | .list xs => (strsOf xs).bind fun ys => if decide ((ys.map (·.length)).sum + ys.length * z.length ≤ 16777216) then some (.str (Txt.join z ys)) else none
  | _ => none
theorem ev_join (ha : EV c m a da) (hb : EB c m b db) (hs : Pl b := by intro _ _; rfl) (hbase : attributeBase a "join" c.X.env (eval a c.X.env) = eval a c.X.env := by rfl) (hline : (apos.endLine == pos.line) = true := by rfl) : EV c m (.Call (.Attribute a "join" apos) [b] [] pos) (dM1 fJoin da db) := by
  intro σ H ρ S B0 B ow Q fr gi g
  refine PD.WE.of (pe_join we we (hs _ _) hbase hline) (ha σ H ρ S B0 B ow _ fr gi (g.bind fun d S1 v H1 _ ev1 gi1 gd1 g1 => ?_))
  cases gd1 with
  | str z =>
    refine ⟨⟨z, rfl⟩, hb σ H1 ρ S1 B0 B ow _ (fr.evo ev1) gi1 (g1.bind fun e S2 w H2 _ ev2 gi2 gd2 g2 => ?_)⟩
    cases e with
    | list xs =>
      simp only [fJoin] at g2
      cases q : strsOf xs with
      | none => rw [q] at g2; exact absurd rfl g2.not_bad
      | some ys =>
        rw [q] at g2
        simp only [Option.bind_some] at g2
        split at g2
        · rename_i hc
          obtain rfl := strsOf_eq q
          obtain ⟨p, vs, rfl, h1, s1, z1⟩ := Rb.lst gd2 gi2.sub
          obtain rfl := h1.strs
          exact ⟨z, p, ys, rfl, rfl, .inl (.inl (.inl (s1 H2 (Evo.refl _ _)))), of_decide_eq_true hc, g2.ok0 gi2 (.str _)⟩
        · exact absurd rfl g2.not_bad
    | _ => exact absurd rfl g2.not_bad
  | _ => exact absurd rfl g1.not_bad
/-- {} -/
theorem eo_dnew : EO c m (.Dict [] [] pos) (dC (.dict [])) := fun σ H ρ S B0 B ow Q fr gi g =>
  PD.WE.of pe_dnewK fun p hp => g.ok (Ex.new hp).evo (gi.ex (Ex.new hp)) ⟨p, rfl, hp, .inr (.inl ⟨[], [], rfl, upd_same, rfl, .nil⟩), gi.fresh (Ex.new hp) hp (by rw [upd_same]; intro z; cases z)⟩
end
end PD
/-! PDt: shorthands for printed derivations. -/
namespace PD
open PySem PySem.Spec PyProof.Rows L2
/-- what holds of a context -/
structure Kx (c : Cc) (k : Nat) : Prop where
  hr : Room k c.X.A
  tk : Takes c.X c.W
  hc : c.X.calm = true
  hN : c.X.N.Nodup
/-- the units that comparisons want -/
structure Ux (c : Cc) : Prop where
  u65 : c.X.A.units + 65 < cLine
theorem Ux.u64 {c : Cc} (h : Ux c) : c.X.A.units + 64 < cLine := by have := h.u65; omega
theorem Ux.u {c : Cc} (h : Ux c) : c.X.A.units < cLine := by have := h.u65; omega
theorem Kx.ux {c : Cc} {k : Nat} (h : Kx c k) : Ux c := ⟨by have := h.hr.un; omega⟩
/-- what holds in an except suite -/
structure Kxs (c : Cc) : Prop where
  hN : c.X.N.Nodup
  ux : Ux c
theorem Kx.sx {c : Cc} {k : Nat} {a : Addr} {oe : Obj} {d : Option Addr} {pn : List (Addr × Obj)} {xc : Xc} (h : Kx c k) : Kxs (c.suite a oe d pn xc) := ⟨h.hN, ⟨h.ux.u65⟩⟩
theorem Kx.u64 {c : Cc} {k : Nat} (h : Kx c k) : c.X.A.units + 64 < cLine := by have := h.hr.un; omega
theorem Kx.u65 {c : Cc} {k : Nat} (h : Kx c k) : c.X.A.units + 65 < cLine := by have := h.hr.un; omega
theorem Kx.u {c : Cc} {k : Nat} (h : Kx c k) : c.X.A.units < cLine := by have := h.hr.un; omega
theorem Kx.inn {c : Cc} {k : Nat} (h : Kx c k) (scope : Scope) (s : Shared) (H : Hp) (C : Addr) (cl : List (Str × Addr)) (fp : List Addr) : Kx (c.in scope s H C cl fp) k := ⟨h.hr, LamX.takes0, h.hc, h.hN⟩
theorem kx_fn {g : Gx} {P : Program} {w : World} {K : PySem.W.Frag} {mg : Str → Option Value} {base : Heap} {N ps : List Str} {qual : Str} {st : Stmt} {f : Addr} {cdv : Value} {A : Around} {outer : List PySem.Env} {s : Shared} {H : Hp} {E : XK} {k : Nat}
    (S : FnScope N ps (defScope st)) (hr : Room k (A.deeper (envOfC qual (defScope st) s.heap.objs.size f cdv))) : Kx (fnC g P w K mg base N qual st f cdv A outer s H E) k := ⟨hr, takes_of rfl rfl rfl rfl, rfl, S.nd⟩
section
variable {c : Cc} {m : List Md} {a b e : Expr} {da db de : DE} {pos : Pos} {k : Nat}
theorem vv (i : Nat) {x : Str} {pos : Pos} (hm : m[i]? = some .fz := by rfl) (hN : c.X.N[i]? = some x := by rfl) (hv : Vis c.X.env.scope x := by first | exact Or.inl rfl | exact Or.inr (Or.inl rfl) | exact Or.inr (Or.inr rfl)) (hd : (x == ("__debug__" : Str)) = false := by decide)
    (hcd : (x == ("__classdict__" : Str)) = false := by decide) : EV c m (.Name x pos) (dVar i) := ev_var hm (pe_var hN hv hd hcd)
theorem vo (i : Nat) {x : Str} {pos : Pos} (hm : m[i]? = some .own := by rfl) (hN : c.X.N[i]? = some x := by rfl) (hv : Vis c.X.env.scope x := by first | exact Or.inl rfl | exact Or.inr (Or.inl rfl) | exact Or.inr (Or.inr rfl)) (hd : (x == ("__debug__" : Str)) = false := by decide)
    (hcd : (x == ("__classdict__" : Str)) = false := by decide) : EB c m (.Name x pos) (dVar i) := eb_own hm (pe_var hN hv hd hcd)
/-- a comparison by its relation -/
def Rel (c : Cc) (op : CmpOp) (F : PyData → PyData → Option PyData) : Prop := ∃ r, OpR c.X (compareOp op) r ∧ OpD c.X.K c.g r F
theorem rel_eq (h : Ux c) : Rel c .Eq fEq := ⟨_, OpR.or op_eq (op_eqD h.u64), OpD.or opd_eqS opd_eqD orF_or⟩
theorem rel_ne (h : Ux c) : Rel c .NotEq fNe := ⟨_, OpR.or op_ne (op_neD h.u64), OpD.or opd_neS opd_neD orF_or⟩
theorem rel_lt (h : Ux c) : Rel c .Lt fLt := ⟨_, OpR.or op_lt (op_ltT h.u), OpD.or opd_B (opd_TT fun _ _ _ _ => rfl) orF_or⟩
theorem rel_le (h : Ux c) : Rel c .LtE fLe := ⟨_, OpR.or op_le (op_leT h.u), OpD.or opd_B (opd_TT (f := lexLeI) fun x y H Q => by simp only [rLeT, lexLe_eq]) orF_or⟩
def fGt : PyData → PyData → Option PyData := fB fun i j => decide (j < i)
def fGe : PyData → PyData → Option PyData := fB fun i j => decide (j ≤ i)
theorem rel_gt (h : Ux c) : Rel c .Gt fGt := ⟨_, op_gt, opd_B⟩
theorem rel_ge (h : Ux c) : Rel c .GtE fGe := ⟨_, op_ge, opd_B⟩
theorem rel_is (h : Ux c) : Rel c .Is (fIsN false) := ⟨_, OpR.or op_isN op_isBl, opd_is false⟩
theorem rel_isNot (h : Ux c) : Rel c .IsNot (fIsN true) := ⟨_, OpR.or op_notN op_notBl, opd_is true⟩
theorem rel_in (h : Ux c) : Rel c .In (fIn false) := ⟨_, OpR.or op_in_seq (OpR.or (op_inS h.u65) op_in_sign), opd_in false⟩
theorem rel_notIn (h : Ux c) : Rel c .NotIn (fIn true) := ⟨_, OpR.or op_notIn_seq (OpR.or (op_notInS h.u65) op_notIn_sign), opd_in true⟩
theorem c1 {op : CmpOp} {F : PyData → PyData → Option PyData} (r : Rel c op F) (ha : EB c m a da) (hb : EB c m b db) (hm : behindInMarks op b = false := by with_unfolding_all rfl) : EV c m (.Compare a [op] [b] pos) (d2 F da db) :=
  let ⟨_, h1, h2⟩ := r
  ev_cmp h1 h2 ha hb hm
theorem c2 {op op' : CmpOp} {F F' : PyData → PyData → Option PyData} (r : Rel c op F) (r' : Rel c op' F') (ha : EB c m a da) (hb : EB c m b db) (hc : EB c m e de) (hm : lastMarks [op, op'] [b, e] = false := by with_unfolding_all rfl) : EV c m (.Compare a [op, op'] [b, e] pos) (dChain F F' da db de) :=
  let ⟨_, h1, h2⟩ := r
  let ⟨_, h3, h4⟩ := r'
  ev_chain h1 h3 h2 h4 ha hb hc hm
theorem t1 {op : CmpOp} {F : PyData → PyData → Option PyData} (r : Rel c op F) (ha : EB c m a da) (hb : EB c m b db) (hm : behindInMarks op b = false := by with_unfolding_all rfl) : ET c m (.Compare a [op] [b] pos) (dTest (d2 F da db)) :=
  let ⟨_, h1, h2⟩ := r
  et_cmp h1 h2 ha hb hm
theorem t2 {op op' : CmpOp} {F F' : PyData → PyData → Option PyData} (r : Rel c op F) (r' : Rel c op' F') (ha : EB c m a da) (hb : EB c m b db) (hc : EB c m e de) (hm : lastMarks [op, op'] [b, e] = false := by with_unfolding_all rfl) : ET c m (.Compare a [op, op'] [b, e] pos) (dTest (dChain F F' da db de)) :=
  let ⟨_, h1, h2⟩ := r
  let ⟨_, h3, h4⟩ := r'
  et_chain h1 h3 h2 h4 ha hb hc hm
/-- a list, a tuple, a text gone through -/
theorem if_any {tg : Expr} (ha : EV c m a da) : IFo c m tg a (dIt seqD da) := by
  intro σ H ρ S B0 B ow Q fr gi g
  cases e : da ρ S with
  | bad => exact absurd (by unfold dIt; rw [e]; rfl) g.2.2
  | exc x S1 =>
    refine WI.of (pi_list we) (ha σ H ρ S B0 B ow _ fr gi (g.bind fun d S1 v H1 q ev1 gi1 gd1 g1 => ?_))
    rw [e] at q; cases q
  | ok d S1 =>
    cases d with
    | list xs =>
      refine if_seq ha σ H ρ S B0 B ow Q fr gi ?_
      have e2 : dIt sqD da ρ S = dIt seqD da ρ S := by unfold dIt; rw [e]; rfl
      rw [e2]; exact g
    | tuple xs =>
      refine if_seq ha σ H ρ S B0 B ow Q fr gi ?_
      have e2 : dIt sqD da ρ S = dIt seqD da ρ S := by unfold dIt; rw [e]; rfl
      rw [e2]; exact g
    | str z =>
      refine if_str ha σ H ρ S B0 B ow Q fr gi ?_
      have e2 : dIt strD da ρ S = dIt seqD da ρ S := by unfold dIt; rw [e]; rfl
      rw [e2]; exact g
    | _ => exact absurd (by unfold dIt; rw [e]; rfl) g.2.2
/-- targets -/
theorem pgn {X : Cx} (i : Nat) {x : Str} {pos : Pos} (hN : X.N.Nodup) (hi : X.N[i]? = some x := by rfl) (hx : Loc X.env.scope x := by first | exact Or.inl rfl | exact Or.inr rfl) (hf : X.fn x = true ∨ X.env.scope.names.lookup x = some .local := by first | exact .inl rfl | exact .inr rfl) : PG X (.Name x pos) (gName i) := pg_name hN hi hx hf
end
end PD
/-! PDu: exceptions by tables of their classes; the rest that printed derivations want. -/
namespace PD
open PySem PySem.Spec PyProof.Rows L2
def inS (l : List Str) (n : Str) : Bool := l.contains n
/-- all that is asked of a class of exceptions -/
def excB (K : PySem.W.Frag) (C : Addr) : Bool :=
  PySem.W.keepIn K (.ref C) && (decide (PySem.W.subIn K (.ref C) (.type "BaseException") = some true) && (decide (PySem.W.typeIn K (.ref C) = some (.type "type")) && (decide (PySem.W.findIn K (.ref C) "__getattribute__" = some (some (.builtin "BaseException.__getattribute__"))) &&
  (decide (PySem.W.findIn K (.ref C) "__getattr__" = some none) && (PySem.W.hasDictIn K C && (decide (PySem.W.findIn K (.ref C) "__class__" = some (some (.builtin "object.__class__"))) && (decide (PySem.W.specialIn K (.builtin "object.__class__") "__get__" = some (some (.builtin "getset_descriptor.__get__"))) &&
  (decide (PySem.W.takesIn K (.builtin "object.__class__") = some true) && decide (PySem.W.mroIn K C (.type "object") = some true)))))))))
structure ExcT (K : PySem.W.Frag) (C : Addr) : Prop where
  k : PySem.W.keepIn K (.ref C) = true
  b : PySem.W.subIn K (.ref C) (.type "BaseException") = some true
  t : PySem.W.typeIn K (.ref C) = some (.type "type")
  c : ExcC K C
  f : XfC K C
theorem excB_ok {K : PySem.W.Frag} {C : Addr} (h : excB K C = true) : ExcT K C := by
  unfold excB at h
  simp only [Bool.and_eq_true, decide_eq_true_eq] at h
  obtain ⟨h1, h2, h3, h4, h5, h6, h7, h8, h9, h10⟩ := h
  exact ⟨h1, h2, h3, ⟨h4, h5, h2, h6, h7, h8, h9, h10⟩, ⟨h4, h5, h2, h6⟩⟩
/-- what is said of each class of the table -/
theorem by_cls {mg : Str → Option Value} {F : Str → Addr → Prop} {l : List (Str × Addr)} (hg : ∀ p ∈ l, mg p.1 = some (.ref p.2)) (h : ∀ p ∈ l, F p.1 p.2) : ∀ n ∈ l.map (·.1), ∀ E, mg n = some (.ref E) → F n E := fun n hn E e => by
  obtain ⟨p, hp, rfl⟩ := List.mem_map.mp hn
  have := hg p hp
  rw [e] at this
  cases this
  exact h p hp
theorem all_cls {q : Str × Addr → Bool} {l : List (Str × Addr)} (h : l.all q = true) : ∀ p ∈ l, q p = true := List.all_eq_true.mp h
theorem Kx.tr {c : Cc} {k : Nat} (h : Kx c k) {pn : List (Addr × Obj)} {xe : Value → Shared → Prop} {W : WX} (t : Takes (c.X.tr pn xe) W) : Kx ⟨c.g, c.X.tr pn xe, W⟩ k := ⟨h.hr, t, h.hc, h.hN⟩
section
variable {c : Cc} {m : List Md} {a : Addr} {oe : Obj} {d : Option Addr} {pn : List (Addr × Obj)} {xc : Xc} {E : Addr} {cs : List Str} {p1 p2 p pos : Pos} {y C : Str}
theorem ev_isK (i : Nat) {D : Addr} {tb : Str → Bool} (hx : ∀ n ∈ cs, ∀ E, c.X.mg n = some (.ref E) → ExcT c.X.K E) (ht : ∀ n ∈ cs, ∀ E, c.X.mg n = some (.ref E) → PySem.W.kitOne c.X.K (.ref E) (.ref D) = some (tb n)) (hz : Zc (.ref E) d oe) (hf : ∃ vs, oe.data = .fields vs) (hE : c.X.mg xc.cls = some (.ref E)) (hcs : xc.cls ∈ cs)
    (hD : c.X.mg C = some (.ref D)) (hmg : c.X.mg "isinstance" = none) (hm : m[i]? = some .ea := by rfl) (hp : PE (c.suite a oe d pn xc).X (.Name y p1) (tVar i) := by exact pv _) (hg : Gl (c.suite a oe d pn xc).X "isinstance" := by rfl) (hgC : Gl (c.suite a oe d pn xc).X C := by rfl) (hdb : (C == ("__debug__" : Str)) = false := by decide) :
    EV (c.suite a oe d pn xc) m (.Call (.Name "isinstance" p) [.Name y p1, .Name C p2] [] pos) (dXc (some (.bool (tb xc.cls)))) :=
  ev_isX (v := .ref D) (hx _ hcs _ hE).c hz hf hm hp (pe_glob hgC hD rfl hdb) (fun u h => h) (ht _ hcs _ hE) hg hmg
theorem ev_isKb (i : Nat) {T : String} {tb : Str → Bool} (hx : ∀ n ∈ cs, ∀ E, c.X.mg n = some (.ref E) → ExcT c.X.K E) (ht : ∀ n ∈ cs, ∀ E, c.X.mg n = some (.ref E) → PySem.W.kitOne c.X.K (.ref E) (.type T) = some (tb n)) (hz : Zc (.ref E) d oe) (hf : ∃ vs, oe.data = .fields vs) (hE : c.X.mg xc.cls = some (.ref E)) (hcs : xc.cls ∈ cs)
    (hD : c.X.mg C = none) (hb : bootBuiltins C = some (.type T)) (hmg : c.X.mg "isinstance" = none) (hm : m[i]? = some .ea := by rfl) (hp : PE (c.suite a oe d pn xc).X (.Name y p1) (tVar i) := by exact pv _) (hg : Gl (c.suite a oe d pn xc).X "isinstance" := by rfl) (hgC : Gl (c.suite a oe d pn xc).X C := by rfl) (hn : C ≠ "__name__" := by decide) (hdb : (C == ("__debug__" : Str)) = false := by decide) :
    EV (c.suite a oe d pn xc) m (.Call (.Name "isinstance" p) [.Name y p1, .Name C p2] [] pos) (dXc (some (.bool (tb xc.cls)))) :=
  ev_isX (v := .ty T) (hx _ hcs _ hE).c hz hf hm hp (pe_bltn (v := .ty T) hgC hD hb rfl hn hdb) (fun u h => h) (ht _ hcs _ hE) hg hmg
theorem ev_fldK (i : Nat) {f : Str} (hx : ∀ n ∈ cs, ∀ E, c.X.mg n = some (.ref E) → ExcT c.X.K E) (hno : ∀ n ∈ cs, ∀ E, c.X.mg n = some (.ref E) → PySem.W.findIn c.X.K (.ref E) f = some none) (hz : Zc (.ref E) d oe) (hf : ∃ vs, oe.data = .fields vs) (hE : c.X.mg xc.cls = some (.ref E)) (hcs : xc.cls ∈ cs)
    (hm : m[i]? = some .ea := by rfl) (hp : PE (c.suite a oe d pn xc).X (.Name y p1) (tVar i) := by exact pv _) (hb : attributeBase (.Name y p1) f c.X.env (eval (.Name y p1) c.X.env) = eval (.Name y p1) c.X.env := by rfl) : EV (c.suite a oe d pn xc) m (.Attribute (.Name y p1) f pos) (dXc (xc.fs.lookup f)) :=
  ev_fld (hx _ hcs _ hE).f (hno _ hcs _ hE) hz hf hm hp hb
end
/-! the kinds that isinstance may be asked for -/
theorem isT_int : IsTOk "int" := by unfold IsTOk; decide +kernel
theorem isT_str : IsTOk "str" := by unfold IsTOk; decide +kernel
theorem isT_bool : IsTOk "bool" := by unfold IsTOk; decide +kernel
theorem isT_list : IsTOk "list" := by unfold IsTOk; decide +kernel
theorem isT_tuple : IsTOk "tuple" := by unfold IsTOk; decide +kernel
theorem isT_dict : IsTOk "dict" := by unfold IsTOk; decide +kernel
theorem ev_gstr {c : Cc} {m : List Md} {x z : Str} {pos : Pos} (hg : Gl c.X x) (h : ∃ t, c.X.mg x = some (.str z t)) (hd : (x == ("__debug__" : Str)) = false := by decide) : EV c m (.Name x pos) (dC (.str z)) := by
  obtain ⟨t, h⟩ := h
  exact ev_glob (v := .str z) hg h ⟨t, rfl⟩ (fun _ => .str z) hd
theorem ev_gint {c : Cc} {m : List Md} {x : Str} {z : Int} {pos : Pos} (hg : Gl c.X x) (h : ∃ t, c.X.mg x = some (.int z t)) (hd : (x == ("__debug__" : Str)) = false := by decide) : EV c m (.Name x pos) (dC (.int z)) := by
  obtain ⟨t, h⟩ := h
  exact ev_glob (v := .int z) hg h ⟨t, rfl⟩ (fun _ => .int z) hd
/-! blocks -/
def blkB (N : List Str) (sc scope : Scope) (own : List (Str × Nat)) : Bool :=
  decide (scope.kind = .function) && (scope.names.all (fun y => decide (scope.names.lookup y.1 = some y.2)) && (own.all (fun p => decide (N[p.2]? = some p.1)) && (scope.names.all (fun y => !decide (y.2 = .free) || decide (sc.names.lookup y.1 = some .cell) || decide (sc.names.lookup y.1 = some .free)) &&
    scope.names.all fun y => !(decide (y.2 = .local) || decide (y.2 = .cell)) || decide (y.1 ∈ own.map (·.1)) || !decide (y.1 ∈ N))))
theorem blk_by {N : List Str} {sc scope : Scope} {own : List (Str × Nat)} (h : blkB N sc scope own = true) : BlkOk N sc scope own := by
  unfold blkB at h
  simp only [Bool.and_eq_true, decide_eq_true_eq, List.all_eq_true, Bool.or_eq_true, Bool.not_eq_true', decide_eq_false_iff_not] at h
  obtain ⟨h1, h2, h3, h4, h5⟩ := h
  refine ⟨h1, fun y hy => h2 y hy, h3, fun y hy e => ?_, fun y hy e => ?_⟩
  · rcases h4 y hy with (z | z) | z
    · exact absurd e z
    · exact .inl z
    · exact .inr z
  · rcases h5 y hy with (z | z) | z
    · have z : (decide (y.2 = .local) || decide (y.2 = .cell)) = false := z
      simp only [Bool.or_eq_false_iff, decide_eq_false_iff_not] at z
      exact (e.elim z.1 z.2).elim
    · exact .inl z
    · exact .inr z
/-- turns that a while may have -/
def fuel : Nat := 1000000000
theorem kx_lam {c : Cc} {k j : Nat} (h : Kx c k) {A : Around} {outer : List PySem.Env} {s : Shared} {H : Hp} {E : XK} {scope : Scope} {f c' : Addr} (hr : Room j (A.deeper (LamX.lamEnv c.X scope s.heap.objs.size f c'))) : Kx ⟨c.g, LamX.lamCx c.X A outer s H E scope f c', fun cls d _ H' => E cls d H'⟩ j :=
  ⟨hr, takes_of rfl rfl rfl rfl, rfl, h.hN⟩
/-- a list or a text turned round -/
def fRevA : PyData → Option PyData := fun d => match d with | .list xs => some (.list xs.reverse) | .str z => if sz z.length then some (.str (revS z)) else none | _ => none
theorem ev_revA {c : Cc} {m : List Md} {e : Expr} {da : DE} {k : Nat} {p1 p2 p3 pos : Pos} (ha : EV c m e da) : EV c m (.Subscript e (.Slice none none (some (.UnaryOp .USub (.Constant (.int 1) k p1) p2)) p3) pos) (d1 fRevA da) := by
  intro σ H ρ S B0 B ow Q fr gi g
  cases e : da ρ S with
  | bad => exact absurd (by unfold d1; rw [e]; rfl) g.2.2
  | exc x S1 =>
    refine ev_revS ha σ H ρ S B0 B ow Q fr gi ?_
    have e2 : d1 fRevS da ρ S = d1 fRevA da ρ S := by unfold d1; rw [e]; rfl
    rw [e2]; exact g
  | ok d S1 =>
    cases d with
    | list xs =>
      refine (eo_revL ha.eb).ev σ H ρ S B0 B ow Q fr gi ?_
      have e2 : d1 fRev da ρ S = d1 fRevA da ρ S := by unfold d1; rw [e]; rfl
      rw [e2]; exact g
    | str z =>
      refine ev_revS ha σ H ρ S B0 B ow Q fr gi ?_
      have e2 : d1 fRevS da ρ S = d1 fRevA da ρ S := by unfold d1; rw [e]; rfl
      rw [e2]; exact g
    | _ => exact absurd (by unfold d1; rw [e]; rfl) g.2.2
end PD
/-! PDv: defs that make lambdas; classes by what their text is; the frame of a law. -/
namespace PD
open PySem PySem.Spec PyProof.Rows L2 LamX
theorem fn_denC {P : Program} {w : World} {K : PySem.W.Frag} {mg : Str → Option Value} {base : Heap} {g : Gx} {x qual : Str} {st : Stmt} {f cA : Addr} {fd : FuncData} {N ps : List Str} {k : Nat} {ks : List Md} {fr : Bool} {m1 : List Md} {db : DS}
    (F : FunC K x qual st f fd cA) (S : FnScope N ps (defScope st)) (hks : ks.length = ps.length) (ha : ks.all argMd = true) (hn : ks.length ≤ N.length)
    (hbody : ∀ (A : Around) (outer : List PySem.Env) (s : Shared) (H : Hp) (E : XK), Room k (A.deeper (envOfC qual (defScope st) s.heap.objs.size f (.ref cA))) →
      SVs (fnC g P w K mg base N qual st f (.ref cA) A outer s H E) ⟨fr, [], none⟩ (mds0 N.length ks) m1 (defBody st) db) :
    FnOk P w K mg base (L2.CX P w) (k + 1) f fd ps (spD K mg g ks fr (dFn fr N.length db)) := by
  refine F.okX S (fun vs H Q E h => ?_) (fun A outer s H vs Q E hr h => ⟨_, wss, ?_⟩)
  · obtain ⟨ds, S0, B, a, _⟩ := h
    rw [a.length, hks]
  · obtain ⟨ds, S0, B, a, gi, h1, h2, h3⟩ := h
    refine hbody A outer s H E hr H B B (fun _ => 0) _ _ H S0 _ ⟨frame0 gi a ha hn, gi, Evo.refl _ _, fun p h n => absurd h n⟩ ⟨fun ρ' S' e σ' H' B' ow' i ex => ?_, fun d S' e v H' ev gi' rs => ?_, fun ρ' S' e => ?_, fun xc ρ' S' e σ' H' B' ow' cls dd mx gi' ev nw sb ex xr => ?_, fun e => ?_⟩
    · cases fr with
      | true => exact absurd (by unfold dFn; rw [e]; rfl) h3
      | false => exact h1 .none S' .non H' (by unfold dFn; rw [e]; rfl) i.ev (i.gi.less i.fr.sub i.fr.gsub) Is.non
    · exact h1 d S' v H' (by unfold dFn; rw [e]; rfl) ev gi' rs
    · exact absurd (by unfold dFn; rw [e]; rfl) h3
    · exact h2 xc S' cls dd H' (by unfold dFn; rw [e]; rfl) ev (gi'.less sb gi.sub) (xr.mono (fz_anti sb))
    · exact absurd (by unfold dFn; rw [e]; rfl) h3
/-- a table's name by its place -/
theorem tab_name {T : List (Addr × Str)} {P : Addr} {q : Str} (nd : (T.map (·.1)).Nodup) (h : (P, q) ∈ T) : ∀ p ∈ T, p.1 = P → p.2 = q := by
  induction T with
  | nil => cases h
  | cons a T ih =>
    rw [List.map_cons, List.nodup_cons] at nd
    intro p hp e
    rcases List.mem_cons.mp h with h1 | h1
    · rcases List.mem_cons.mp hp with rfl | h2
      · rw [← h1]
      · exact absurd (List.mem_map.mpr ⟨p, h2, by rw [e, ← h1]⟩) nd.1
    · rcases List.mem_cons.mp hp with rfl | h2
      · exact absurd (List.mem_map.mpr ⟨_, h1, e.symm⟩) nd.1
      · exact ih nd.2 h1 p h2 e
/-- x(lambda: body), x a def of the text -/
theorem ev_lamF {c : Cc} {m m' : List Md} {x a : Str} {st : Stmt} {gA cA P : Addr} {fd : FuncData} {k : Nat} {Ng : List Str}
    {params : Arguments} {body : Expr} {scope : Scope} {db : (Store → R PyData) → DS} {dl : DE} {p lpos pos : Pos} (F : Fun c.X.K x x st gA fd) (b : Binds c.X.K fd [a] []) (hm : c.X.mg x = some (.ref gA)) (Sg : FnScope Ng [a] (defScope st)) (hNg : Ng[0]? = some a) (hva : Vis (defScope st) a)
    (hG : ∀ cdv, LamFn c.X.prog c.X.w c.X.K c.X.mg c.X.base c.g x a Ng (defScope st) gA cdv (defBody st) db)
    (TB : TabB c.X.base c.X.mg cA P) (hmT : (P, c.X.env.qual ++ "<lambda>") ∈ c.g.T) (nd : (c.g.T.map (·.1)).Nodup) (hL : c.g.L = none) (hw : Wk m m' = true) (hno : noOwn m' = true) (hg : Gl c.X x) (hcode : c.X.env.code = .ref cA) (hr : Room (k + 2) c.X.A) (L : LamS c.X.env.scope scope)
    (hbody : ∀ (A : Around) (outer : List PySem.Env) (s : Shared) (H : Hp) (E : XK) (f c' : Addr), Room k (A.deeper (lamEnv c.X scope s.heap.objs.size f c')) → EV ⟨c.g, lamCx c.X A outer s H E scope f c', fun cls d _ H' => E cls d H'⟩ m' body dl)
    (hdef : defaultsOf params c.X.env = ([], []) := by rfl)
    (hbind : ∀ (q : Str) (cl : List (Str × Addr)) (pm cv ctv : Value), bindArgs (PySem.W.kla_fn "<lambda>" q params body scope cl pm cv ctv) ⟨[], []⟩ = pure [] := by intros; rfl)
    (hdb : (x == ("__debug__" : Str)) = false := by decide) (hd : (a == ("__debug__" : Str)) = false := by decide) (hcd : (a == ("__classdict__" : Str)) = false := by decide) :
    EV c m (.Call (.Name x p) [.Lambda params body scope lpos] [] pos) (dLam Ng.length db dl) := by
  obtain ⟨⟨oc, od, kV, doc, pm, an, cdv, ct, osl, rfl, lk, hcc⟩, kp⟩ := F
  exact ev_lam hL hw hno hg hm kp lk hcc b Sg hNg hva (hG cdv) TB hcode hmT (tab_name nd hmT) hr L hdef hbind hbody hdb hd hcd
/-- the body of a class's one def -/
def clsInit (s : Stmt) : Stmt := match s with
  | .ClassDef (body := b) .. => b.headD (.Pass ⟨0, 0, 0, 0⟩)
  | _ => .Pass ⟨0, 0, 0, 0⟩
/-- as Ex1, no context -/
structure Ex1f (P : Program) (w : World) (K : PySem.W.Frag) (mg : Str → Option Value) (base : Heap) (k : Nat) (n : Str) (C fI : Addr) (fd : FuncData) (f : Str) (ps : List Str) : Prop where
  T : OexC K C
  g : mg n = some (.ref C)
  i : PySem.W.findIn K (.ref C) "__init__" = some (some (.ref fI))
  ti : PySem.W.typeIn K (.ref fI) = some (.type "function")
  no : PySem.W.findIn K (.ref C) f = some none
  F : FnOk P w K mg base CX0 k fI fd ps (spInit K C f)
  b : Binds K fd ps []
theorem Ex1f.x {X : Cx} {k : Nat} {n : Str} {C fI : Addr} {fd : FuncData} {f : Str} {ps : List Str} (h : Ex1f X.prog X.w X.K X.mg X.base k n C fI fd f ps) : Ex1 X k n C fI fd f ps := ⟨h.T, h.g, h.i, h.ti, h.no, h.F, h.b⟩
/-- where a def stands -/
theorem at_mk {X : Cx} {x qual : Str} {st : Stmt} {f : Addr} {fd : FuncData} {ps : List Str} (F : Fun X.K x qual st f fd) (g : X.mg x = some (.ref f)) (b : Binds X.K fd ps []) : At X x f fd ps := ⟨g, F.kp, b⟩
/-- the frame of a law: the tables, the lists that all share -/
abbrev gW (T : List (Addr × Str)) (SA : List Addr) : Gx := ⟨SA, T, none, none⟩
theorem kx_nx {g : Gx} {P : Program} {w : World} {K : PySem.W.Frag} {mg : Str → Option Value} {base : Heap} {Ng ps : List Str} {x : Str} {st : Stmt} {gA : Addr} {cdg : Value} {A : Around} {stack : List PySem.Env} {s : Shared} {H : Hp} {k : Nat} (S : FnScope Ng ps (defScope st)) (hr : Room k (A.deeper (envOfC x (defScope st) s.heap.objs.size gA cdg))) :
    Kx ⟨g, (nxCx P w K mg base Ng x (defScope st) gA cdg A stack s H).nox, fun _ _ _ _ => False⟩ k := ⟨hr, LamX.takes0, rfl, S.nd⟩
end PD
/-! PDw: the combinators at work, for plain proofs. -/
namespace PD
open PySem PySem.Spec PyProof.Rows L2
variable {a b : DE} {ρ : Env} {S : Store}
@[simp] theorem ap_seq {a b : DS} : dSeq a b ρ S = (a ρ S).bind b := rfl
@[simp] theorem ap_nx : dNx ρ S = .nx ρ S := rfl
@[simp] theorem ap_brk : dBrk ρ S = .brk ρ S := rfl
@[simp] theorem ap_var {i : Nat} : dVar i ρ S = ofO (ρ.getD i none) S := rfl
@[simp] theorem ap_c {d : PyData} : dC d ρ S = .ok d S := rfl
@[simp] theorem ap_nil : dNil ρ S = .ok [] S := rfl
@[simp] theorem ap_cons {r : DA} : dCons a r ρ S = (a ρ S).bind fun x S1 => (r ρ S1).bind fun xs S2 => .ok (x :: xs) S2 := rfl
@[simp] theorem ap_tup {r : DA} : dTup r ρ S = (r ρ S).bind fun xs S1 => if sz xs.length then .ok (.tuple xs) S1 else .bad := rfl
@[simp] theorem ap_lst {r : DA} : dLst r ρ S = (r ρ S).bind fun xs S1 => if sz xs.length then .ok (.list xs) S1 else .bad := rfl
@[simp] theorem ap_d1 {F : PyData → Option PyData} : d1 F a ρ S = (a ρ S).bind fun x S1 => ofO (F x) S1 := rfl
@[simp] theorem ap_d2 {F : PyData → PyData → Option PyData} : d2 F a b ρ S = (a ρ S).bind fun x S1 => (b ρ S1).bind fun y S2 => ofO (F x y) S2 := rfl
@[simp] theorem ap_sl {F : PyData → Option Int → Option Int → Option PyData} {l h : DP} : dSl F a l h ρ S = (a ρ S).bind fun x S1 => (l ρ S1).bind fun l S2 => (h ρ S2).bind fun h S3 => ofO (F x l h) S3 := rfl
@[simp] theorem ap_pno : pNo ρ S = .ok none S := rfl
@[simp] theorem ap_psm : pSm a ρ S = (a ρ S).bind fun x S1 => match x with | .int i => .ok (some i) S1 | _ => .bad := rfl
@[simp] theorem ap_test : dTest a ρ S = (a ρ S).bind fun x S1 => match x with | .bool b => .ok b S1 | _ => .bad := rfl
@[simp] theorem ap_chain {F F' : PyData → PyData → Option PyData} {e : DE} : dChain F F' a b e ρ S = (a ρ S).bind fun x S1 => (b ρ S1).bind fun y S2 => match F x y with
  | some (.bool true) => (e ρ S2).bind fun z S3 => ofO (F' y z) S3
  | some (.bool false) => .ok (.bool false) S2
  | _ => .bad := rfl
@[simp] theorem ap_and {a b : DT} : dAnd a b ρ S = (a ρ S).bind fun x S1 => if x = true then b ρ S1 else .ok false S1 := rfl
@[simp] theorem ap_or {a b : DT} : dOr a b ρ S = (a ρ S).bind fun x S1 => if x = true then .ok true S1 else b ρ S1 := rfl
@[simp] theorem ap_not {a : DT} : dNot a ρ S = (a ρ S).bind fun x S1 => .ok (!x) S1 := rfl
@[simp] theorem ap_ife {t : DT} : dIfE t a b ρ S = (t ρ S).bind fun x S1 => if x = true then a ρ S1 else b ρ S1 := rfl
@[simp] theorem ap_st : dSt ρ S = .ok .none S := rfl
@[simp] theorem ap_call {f : List PyData → Store → R PyData} {r : DA} : dCall f r ρ S = (r ρ S).bind fun ds S1 => f ds S1 := rfl
@[simp] theorem ap_it {F : PyData → Option (List PyData)} : dIt F a ρ S = (a ρ S).bind fun x S1 => ofO (F x) S1 := rfl
@[simp] theorem ap_it2 {F : PyData → PyData → Option (List PyData)} : dIt2 F a b ρ S = (a ρ S).bind fun x S1 => (b ρ S1).bind fun y S2 => ofO (F x y) S2 := rfl
@[simp] theorem ap_comp {di : DI} {t : Tg} {tt : DT} {de : DE} : dComp di t tt de ρ S = (di ρ S).bind fun ds S1 => compL t tt de ρ [] ds S1 := rfl
@[simp] theorem ap_yes : dYes ρ S = .ok true S := rfl
@[simp] theorem ap_set {i : Nat} : dSet i a ρ S = (a ρ S).st ρ fun d S1 => .nx (ρ.set i (some d)) S1 := rfl
@[simp] theorem ap_tupset {is : List Nat} : dTupSet is a ρ S = (a ρ S).st ρ fun d S1 => match (Tg.tup is).bind d ρ with | some ρ1 => .nx ρ1 S1 | none => .bad := rfl
@[simp] theorem ap_ifs {t : DT} {a b : DS} : dIfS t a b ρ S = (t ρ S).st ρ fun q S1 => if q = true then a ρ S1 else b ρ S1 := rfl
@[simp] theorem ap_ret : dRet a ρ S = (a ρ S).st ρ fun d S1 => .ret d S1 := rfl
@[simp] theorem ap_drop : dDrop a ρ S = (a ρ S).st ρ fun _ S1 => .nx ρ S1 := rfl
@[simp] theorem ap_for {di : DI} {t : Tg} {body : DS} : dFor di t body ρ S = (di ρ S).st ρ fun ds S1 => forL t body ds ρ S1 := rfl
@[simp] theorem ap_app {i : Nat} : dApp i a ρ S = onLst ρ i fun xs => (a ρ S).st ρ fun d S1 => putO ρ i (fApp xs d) S1 := rfl
@[simp] theorem ap_ext {i : Nat} : dExt i a ρ S = onLst ρ i fun xs => (a ρ S).st ρ fun d S1 => putO ρ i (fExt xs d) S1 := rfl
@[simp] theorem ap_stix {k : Nat} : dStIx k a ρ S = (a ρ S).bind fun y S1 => match S1[k]? with | some xs => ofO (fIx (.list xs) y) S1 | none => .bad := rfl
@[simp] theorem ap_par {is : List Nat} {as : DA} : dPar is as ρ S = (as ρ S).st ρ fun ds S1 => match setAll ρ is ds with | some ρ1 => .nx ρ1 S1 | none => .bad := rfl
@[simp] theorem ap_m1 {F : Str → PyData → Option PyData} : dM1 F a b ρ S = (a ρ S).bind fun x S1 => match x with | .str z => (b ρ S1).bind fun y S2 => ofO (F z y) S2 | _ => .bad := rfl
@[simp] theorem ap_stset {k : Nat} : dStSet k b a ρ S = (a ρ S).st ρ fun d S1 => (b ρ S1).st ρ fun y S2 => match S2[k]? with
  | some xs => (match fSetI xs y d with | some (.list ys) => .nx ρ (S2.set k ys) | _ => .bad)
  | none => .bad := rfl
/-! values at work -/
@[simp] theorem f_add {i j : Int} : fAdd (.int i) (.int j) = some (.int (i + j)) := rfl
@[simp] theorem f_I {C : Int → Int → Bool} {f : Int → Int → Int} {i j : Int} : fI C f (.int i) (.int j) = if C i j then some (.int (f i j)) else none := rfl
@[simp] theorem f_B {f : Int → Int → Bool} {i j : Int} : fB f (.int i) (.int j) = some (.bool (f i j)) := rfl
@[simp] theorem f_gt {i j : Int} : fGt (.int i) (.int j) = some (.bool (decide (j < i))) := rfl
@[simp] theorem f_ge {i j : Int} : fGe (.int i) (.int j) = some (.bool (decide (j ≤ i))) := rfl
@[simp] theorem f_lt {i j : Int} : fLt (.int i) (.int j) = some (.bool (decide (i < j))) := rfl
@[simp] theorem f_le {i j : Int} : fLe (.int i) (.int j) = some (.bool (decide (i ≤ j))) := rfl
@[simp] theorem f_int {i : Int} : fInt (.int i) = some (.int i) := rfl
@[simp] theorem f_lenL {xs : List PyData} : fLen (.list xs) = some (.int xs.length) := rfl
@[simp] theorem f_lenT {xs : List PyData} : fLen (.tuple xs) = some (.int xs.length) := rfl
theorem f_times {i j : Int} (h : cMul i j = true) : fTimes (.int i) (.int j) = some (.int (i * j)) := by
  unfold fTimes fMul orF
  simp [h]
theorem cMul_l {i j : Int} (h1 : -(2 ^ 64) < i) (h2 : i < 2 ^ 64) : cMul i j = true := by unfold cMul; simp; omega
theorem cMul_r {i j : Int} (h1 : -(2 ^ 64) < j) (h2 : j < 2 ^ 64) : cMul i j = true := by unfold cMul; simp; omega
/-! comprehensions and loops at work -/
theorem comp_map {t : Tg} {de : DE} {ρ : Env} {S : Store} {f : PyData → PyData} : ∀ {ds acc : List PyData}, (∀ d ∈ ds, ∃ ρ1, t.bind d ρ = some ρ1 ∧ de ρ1 S = .ok (f d) S) → compL t dYes de ρ acc ds S = .ok (.list (acc ++ ds.map f)) S
  | [], acc, _ => by rw [compL_nil]; simp
  | d :: ds, acc, h => by
    obtain ⟨ρ1, e1, e2⟩ := h d (List.mem_cons_self ..)
    rw [compL_cons, e1]
    simp only [ap_yes, R.calm_ok, R.bind_ok, if_true, e2]
    rw [comp_map fun d' hd => h d' (List.mem_cons_of_mem _ hd)]
    simp
/-- with a state -/
theorem comp_inv {t : Tg} {tt : DT} {de : DE} {ρ : Env} {I : Store → Prop} {E : PyData → Prop} : ∀ {ds acc : List PyData} {S : Store}, I S → (∀ x ∈ acc, E x) → (∀ d ∈ ds, ∀ S, I S → ∃ ρ1, t.bind d ρ = some ρ1 ∧ ∃ b S1, tt ρ1 S = .ok b S1 ∧ I S1 ∧ (b = true → ∃ x S2, de ρ1 S1 = .ok x S2 ∧ I S2 ∧ E x)) →
    ∃ xs S', compL t tt de ρ acc ds S = .ok (.list xs) S' ∧ I S' ∧ (∀ x ∈ xs, E x) ∧ xs.length ≤ acc.length + ds.length
  | [], acc, S, hi, ha, _ => ⟨acc, S, compL_nil .., hi, ha, by simp⟩
  | d :: ds, acc, S, hi, ha, h => by
    obtain ⟨ρ1, e1, b, S1, e2, i1, hb⟩ := h d (List.mem_cons_self ..) S hi
    rw [compL_cons, e1]
    simp only [e2, R.calm_ok, R.bind_ok]
    cases b with
    | false =>
      rw [if_neg (by simp)]
      obtain ⟨xs, S', q1, q2, q3, q4⟩ := comp_inv (acc := acc) i1 ha fun d' hd => h d' (List.mem_cons_of_mem _ hd)
      exact ⟨xs, S', q1, q2, q3, by simp; omega⟩
    | true =>
      rw [if_pos rfl]
      obtain ⟨x, S2, e3, i2, ex⟩ := hb rfl
      simp only [e3, R.calm_ok, R.bind_ok]
      obtain ⟨xs, S', q1, q2, q3, q4⟩ := comp_inv (acc := acc ++ [x]) i2 (fun y hy => by
        rcases List.mem_append.mp hy with hy | hy
        · exact ha y hy
        · rw [List.mem_singleton.mp hy]; exact ex) fun d' hd => h d' (List.mem_cons_of_mem _ hd)
      exact ⟨xs, S', q1, q2, q3, by simp at q4; simp; omega⟩
/-- as many items as are gone through -/
theorem comp_invY {t : Tg} {de : DE} {ρ : Env} {I : Store → Prop} {E : PyData → Prop} : ∀ {ds acc : List PyData} {S : Store}, I S → (∀ x ∈ acc, E x) → (∀ d ∈ ds, ∀ S, I S → ∃ ρ1, t.bind d ρ = some ρ1 ∧ ∃ x S2, de ρ1 S = .ok x S2 ∧ I S2 ∧ E x) →
    ∃ xs S', compL t dYes de ρ acc ds S = .ok (.list xs) S' ∧ I S' ∧ (∀ x ∈ xs, E x) ∧ xs.length = acc.length + ds.length
  | [], acc, S, hi, ha, _ => ⟨acc, S, compL_nil .., hi, ha, by simp⟩
  | d :: ds, acc, S, hi, ha, h => by
    obtain ⟨ρ1, e1, x, S2, e3, i2, ex⟩ := h d (List.mem_cons_self ..) S hi
    rw [compL_cons, e1]
    simp only [ap_yes, R.calm_ok, R.bind_ok, if_true, e3]
    obtain ⟨xs, S', q1, q2, q3, q4⟩ := comp_invY (acc := acc ++ [x]) i2 (fun y hy => by
      rcases List.mem_append.mp hy with hy | hy
      · exact ha y hy
      · rw [List.mem_singleton.mp hy]; exact ex) fun d' hd => h d' (List.mem_cons_of_mem _ hd)
    exact ⟨xs, S', q1, q2, q3, by simp at q4; simp; omega⟩
/-- a loop that goes on: what holds of slots and state stays -/
theorem for_inv {t : Tg} {body : DS} {I : Env → Store → Prop} : ∀ {ds : List PyData} {ρ : Env} {S : Store}, I ρ S → (∀ d ∈ ds, ∀ ρ S, I ρ S → ∃ ρ1, t.bind d ρ = some ρ1 ∧ ∃ ρ2 S2, body ρ1 S = .nx ρ2 S2 ∧ I ρ2 S2) → ∃ ρ' S', forL t body ds ρ S = .nx ρ' S' ∧ I ρ' S'
  | [], ρ, S, hi, _ => ⟨ρ, S, forL_nil .., hi⟩
  | d :: ds, ρ, S, hi, h => by
    obtain ⟨ρ1, e1, ρ2, S2, e2, i2⟩ := h d (List.mem_cons_self ..) ρ S hi
    rw [forL_cons, e1]
    simp only [e2]
    exact for_inv i2 fun d' hd => h d' (List.mem_cons_of_mem _ hd)
end PD
/-! PDx: lists of own lists: made by a comprehension, grown by x[k].append(e), frozen. -/
namespace PD
open PySem PySem.Spec PyProof.Rows L2
/-- what a comprehension of new empty lists leaves -/
def New2 (c : Cc) (B : List Addr) (H : Hp) (S' : Store) (H' : Hp) (v : V) (d : PyData) : Prop :=
  ∃ (T : Addr) (qs : List Addr), v = .ref T ∧ d = .list (qs.map fun _ => PyData.list []) ∧ (∀ a ∈ T :: qs, H a = none) ∧ ((T :: qs).Nodup ∧ qs.length ≤ sizeLine) ∧ H' T = some (.lst (qs.map V.ref)) ∧ (∀ a ∈ qs, H' a = some (.lst [])) ∧ GI c.X.K c.g ((T :: qs) ++ B) H' S'
section
variable {c : Cc} {m : List Md} {tg iter : Expr} {own : List (Str × Nat)} {di : DI} {t : Tg}
theorem comp_new2 (hi : ICo c m tg iter di) (hsub : ∀ i ∈ t.slots, i ∈ own.map (·.2)) (hlen : ∀ i ∈ own.map (·.2), i < m.length)
    {σ : L2.St} {H : Hp} {ρ : PD.Env} {S : Store} {B0 B : List Addr} {ow : Addr → Nat} {Q : VK} (fr : Frame c.X.K c.g B0 B ow m ρ σ H) (gi : GI c.X.K c.g B H S)
    (g : Goal c B H σ (dComp di t dYes (dLst dNil) ρ S) (New2 c B H) Q) : tLc (WI c.X tg iter) (gT c.X.K t) tYes (tLst tNil) (own.map (·.2)) σ H Q := by
  refine hi σ H ρ S B0 B ow _ fr gi (g.bind (G1 := fun _ H' J ds => ItC c.X.K c.g.G B H' J ds) fun ds S1 J H1 _ ev1 gi1 it g1 => ?_)
  intro T hT
  have nG : T ∉ c.g.G := fun z => gi1.kn T (gi1.sub T z) hT
  refine ⟨fun i k H2 => k = ds.length - i ∧ i ≤ ds.length ∧ ∃ qs : List Addr, qs.length = i ∧ (T :: qs).Nodup ∧ (∀ a ∈ T :: qs, H1 a = none) ∧ H2 T = some (.lst (qs.map V.ref)) ∧ (∀ a ∈ qs, H2 a = some (.lst [])) ∧
    Evo c.g.G H1 H2 ∧ Ex (Fz B H1) (Fz ((T :: qs) ++ B) H2) ∧ GI c.X.K c.g ((T :: qs) ++ B) H2 S1 ∧ compL t dYes (dLst dNil) ρ [] ds S1 = compL t dYes (dLst dNil) ρ (qs.map fun _ => PyData.list []) (ds.drop i) S1,
    ⟨ds.length, by simp, Nat.zero_le _, [], rfl, by simp, by simpa using hT, upd_same, (fun a ha => by cases ha), (Ex.new hT).evo, ?_, gi1.under hT, rfl⟩, ?_⟩
  · intro a u q
    obtain ⟨q1, q2⟩ := fz_some.mp q
    exact fz_some.mpr ⟨fun z => (List.mem_cons.mp z).elim (ne_of_none q2 hT) q1, (Ex.new hT) a u q2⟩
  rintro i k H2 ⟨rfl, hile, qs, hql, hnd, hnew, h2T, h2q, ev2, ex2, gi2, eq⟩
  obtain ⟨go, stop⟩ := it.2 _ H2 ev2 ex2 gi2.kn
  by_cases hlt : i < ds.length
  · refine .inr ⟨(go i ds[i] (List.getElem?_eq_getElem hlt)).1, fun H3 => ∃ qs : List Addr, qs.length = i + 1 ∧ (T :: qs).Nodup ∧ (∀ a ∈ T :: qs, H1 a = none) ∧ H3 T = some (.lst (qs.map V.ref)) ∧ (∀ a ∈ qs, H3 a = some (.lst [])) ∧
      Evo c.g.G H1 H3 ∧ Ex (Fz B H1) (Fz ((T :: qs) ++ B) H3) ∧ GI c.X.K c.g ((T :: qs) ++ B) H3 S1 ∧ compL t dYes (dLst dNil) ρ [] ds S1 = compL t dYes (dLst dNil) ρ (qs.map fun _ => PyData.list []) (ds.drop (i + 1)) S1,
      fun H3 h3 => ⟨ds.length - (i + 1), by omega, rfl, hlt, h3⟩, fun x H3 hy => ?_⟩
    obtain ⟨ex3, ix⟩ := (go i ds[i] (List.getElem?_eq_getElem hlt)).2 x H3 hy
    have gi3 := gi2.ex ex3
    rw [List.drop_eq_getElem_cons hlt, compL_cons] at eq
    cases eb : t.bind ds[i] ρ with
    | none =>
      rw [eb] at eq
      exact absurd eq g1.not_bad
    | some ρ1 =>
      rw [eb] at eq
      have eq1 : compL t dYes (dLst dNil) ρ [] ds S1 = compL t dYes (dLst dNil) ρ ((qs.map fun _ => PyData.list []) ++ [.list []]) (ds.drop (i + 1)) S1 := eq
      have exB3 : Ex (Fz B H1) (Fz ((T :: qs) ++ B) H3) := ex2.trans ex3.fz
      have ev3 : Evo c.g.G H1 H3 := ev2.trans ex3.evo
      have fr3 : Frame c.X.K c.g B0 ((T :: qs) ++ B) ow (blkM m (own.map (·.2))) ρ (L2.wipe σ (own.map (·.2))) H3 := by
        refine Frame.wipe ⟨fr.lm, fr.ls, fun a h => List.mem_append_right _ (fr.sub a h), fr.gsub, fun j md h => ?_⟩ _ hlen
        exact ((fr.evo ev1).slot j md h).step exB3 (fun a h => List.mem_append_right _ h.1) fun a o h q => ev3 a o (fun z => h.2.1 (fr.gsub a z)) q
      refine Tg.put (X := c.X) (t := t) (tg := tg) rfl fr3 (fun j hj => by rw [blkM_len]; exact hlen j (hsub j hj)) ix eb fun σ2 _ ⟨ws, hws, e2⟩ => ?_
      refine ⟨by rw [e2]; exact wipe_put hsub, ?_⟩
      unfold tYes
      dsimp only
      rw [if_pos rfl]
      refine ⟨Nat.zero_le _, fun p hp => ⟨qs.map V.ref, ?_, ?_, qs ++ [p], ?_⟩⟩
      · have : T ≠ p := fun z => by rw [← z, ex3 _ _ h2T] at hp; cases hp
        rw [upd_ne this]
        exact ex3 _ _ h2T
      · rw [List.length_map, hql]
        have := it.1
        omega
      have h3T := ex3 _ _ h2T
      have pT : p ≠ T := fun z => by rw [z, h3T] at hp; cases hp
      have pq : p ∉ qs := fun z => by rw [ex3 _ _ (h2q p z)] at hp; cases hp
      have pB : p ∉ (T :: qs) ++ B := new_notin gi3.kn hp
      have Tq : T ∉ qs := (List.nodup_cons.mp hnd).1
      have gi4 : GI c.X.K c.g (p :: ((T :: qs) ++ B)) (upd H3 p (.lst [])) S1 := gi3.under hp
      have h4T : upd H3 p (.lst []) T = some (.lst (qs.map V.ref)) := by rw [upd_ne (Ne.symm pT)]; exact h3T
      have gi5 := gi4.grow (D := T) (o := .lst (qs.map V.ref ++ [.ref p])) (List.mem_cons_of_mem _ (List.mem_append_left _ (List.mem_cons_self ..))) nG (lst_code h4T)
      have hmem : ∀ a, a ∈ (T :: (qs ++ [p])) ++ B ↔ a ∈ p :: ((T :: qs) ++ B) := fun a => by
        simp only [List.mem_append, List.mem_cons, List.not_mem_nil, or_false]
        constructor
        · rintro ((h | h | h) | h)
          · exact .inr (.inl (.inl h))
          · exact .inr (.inl (.inr h))
          · exact .inl h
          · exact .inr (.inr h)
        · rintro (h | (h | h) | h)
          · exact .inl (.inr (.inr h))
          · exact .inl (.inl h)
          · exact .inl (.inr (.inl h))
          · exact .inr h
      have p1 : H1 p = none := by
        cases q : H1 p with
        | none => rfl
        | some o =>
          exfalso
          by_cases hG : p ∈ c.g.G
          · exact gi3.kn p (gi3.sub p hG) hp
          · rw [ev3 p o hG q] at hp; cases hp
      refine ⟨by simp [hql], ?_, ?_, ?_, ?_, ?_, ?_, ?_, ?_⟩
      · rw [List.nodup_cons]
        refine ⟨fun z => ?_, ?_⟩
        · rcases List.mem_append.mp z with z | z
          · exact Tq z
          · exact pT (List.mem_singleton.mp z).symm
        · rw [List.nodup_append]
          refine ⟨(List.nodup_cons.mp hnd).2, by simp, fun a ha b hb => ?_⟩
          rw [List.mem_singleton.mp hb]
          exact fun (z : a = p) => pq (z ▸ ha)
      · intro a ha
        rcases List.mem_cons.mp ha with rfl | ha
        · exact hT
        · rcases List.mem_append.mp ha with ha | ha
          · exact hnew a (List.mem_cons_of_mem _ ha)
          · rw [List.mem_singleton.mp ha]; exact p1
      · rw [upd_same, List.map_append]
        rfl
      · intro a ha
        have aT : a ≠ T := by
          rintro rfl
          rcases List.mem_append.mp ha with ha | ha
          · exact Tq ha
          · exact pT (List.mem_singleton.mp ha).symm
        rw [upd_ne aT]
        rcases List.mem_append.mp ha with ha | ha
        · rw [upd_ne (show a ≠ p from fun z => pq (z ▸ ha))]
          exact ex3 _ _ (h2q a ha)
        · rw [List.mem_singleton.mp ha, upd_same]
      · intro a o n q
        have aT : a ≠ T := ne_of_none q hT
        have ap : a ≠ p := ne_of_none q p1
        rw [upd_ne aT, upd_ne ap]
        exact ev3 a o n q
      · intro a o q
        obtain ⟨q1, q2⟩ := fz_some.mp (exB3 a o q)
        have ap : a ≠ p := ne_of_none q2 hp
        have aT : a ≠ T := fun z => q1 (List.mem_append_left _ (by rw [z]; exact List.mem_cons_self ..))
        refine fz_some.mpr ⟨fun z => ?_, by rw [upd_ne aT, upd_ne ap]; exact q2⟩
        rcases List.mem_cons.mp ((hmem a).mp z) with z | z
        · exact ap z
        · exact q1 z
      · exact gi5.less (fun a ha => (hmem a).mp ha) fun a ha => (hmem a).mpr (List.mem_cons_of_mem _ (gi3.sub a ha))
      · rw [List.map_append]
        exact eq1
  · have e : i = ds.length := by omega
    subst e
    refine .inl ⟨stop _ (Nat.le_refl _), ?_⟩
    rw [List.drop_length, compL_nil] at eq
    rw [eq] at g1
    refine g1.ok ev2 (gi2.less (fun a ha => List.mem_append_right _ ha) gi1.sub) ⟨T, qs, rfl, rfl, fun a ha => free_back ev1 gi1 (hnew a ha), ⟨hnd, by rw [hql]; exact it.1⟩, h2T, h2q, gi2⟩
end
section
variable {c : Cc} {x : Fx} {m m' m1 m2 : List Md} {He : Hp} {B0 B : List Addr} {ow : Addr → Nat} {ρ : PD.Env} {σ : L2.St} {H : Hp} {S : Store} {D : Ends}
/-- the holder of a list of new lists -/
theorem In.own2 {H0 : Hp} {S0 : Store} (i : In c He B0 B ow m ρ σ H0 S0) (ev : Evo c.g.G H0 H) {j : Nat} (hj : j < m.length) {v : V} {d : PyData} (hn : New2 c B H0 S H v d) :
    ∃ B' ow', In c He B0 B' ow' (m.set j .own2) (ρ.set j (some d)) (σ.set j (some v)) H S ∧ Ex (Fz B H0) (Fz B' H) := by
  obtain ⟨T, qs, rfl, rfl, hnew, hnd, hT, hq, gi⟩ := hn
  have hB : ∀ a ∈ T :: qs, a ∉ B := fun a ha => new_notin i.gi.kn (hnew a ha)
  have ex : Ex (Fz B H0) (Fz ((T :: qs) ++ B) H) := fun a u q => by
    obtain ⟨q1, q2⟩ := fz_some.mp q
    refine fz_some.mpr ⟨fun z => ?_, ev a u (fun z => q1 (i.gi.sub a z)) q2⟩
    rcases List.mem_append.mp z with z | z
    · rw [hnew a z] at q2; cases q2
    · exact q1 z
  have hρ : j < ρ.length := by rw [← i.fr.lm]; exact hj
  have hσ : j < σ.length := by rw [i.fr.ls]; exact hρ
  have key : ∀ a ∈ B, (if a ∈ T :: qs then j else ow a) = ow a := fun a ha => if_neg fun z => hB a z ha
  refine ⟨(T :: qs) ++ B, fun a => if a ∈ T :: qs then j else ow a, ⟨⟨by simp [i.fr.lm], by simp [i.fr.ls], fun a ha => List.mem_append_right _ (i.fr.sub a ha), i.fr.gsub, fun k md hk => ?_⟩, gi, i.ev.trans ev, fun q hq hq0 => ?_⟩, ex⟩
  · rw [getD_set hρ, getD_set hσ]
    by_cases e : j = k
    · subst e
      rw [List.getElem?_set_self hj] at hk
      cases hk
      rw [if_pos rfl, if_pos rfl]
      refine ⟨_, T, qs, rfl, rfl, fun q hqm => ⟨List.mem_append_left _ hqm, fun z => hB q hqm (i.fr.sub q z), if_pos hqm⟩, hnd, hT, ?_⟩
      have aux : ∀ l : List Addr, (∀ a ∈ l, H a = some (.lst [])) → Paired (fun q d => Top c.X.K ((T :: qs) ++ B) H q d) l (l.map fun _ => PyData.list []) := by
        intro l
        induction l with
        | nil => exact fun _ => .nil
        | cons a r ih => exact fun h => .cons (.inl ⟨[], [], rfl, h a (List.mem_cons_self ..), Nat.zero_le _, .nil⟩) (ih fun b hb => h b (List.mem_cons_of_mem _ hb))
      exact aux qs hq
    · rw [List.getElem?_set_ne e] at hk
      rw [if_neg e, if_neg e]
      have s0 := i.fr.slot k md hk
      have st := s0.step (B' := (T :: qs) ++ B) (H' := H) ex (fun a ha => List.mem_append_right _ ha.1) fun a o ha q => ev a o (fun z => ha.2.1 (i.fr.gsub a z)) q
      have own' : ∀ a, Own B0 B ow k a → Own B0 ((T :: qs) ++ B) (fun a => if a ∈ T :: qs then j else ow a) k a := fun a h => ⟨List.mem_append_right _ h.1, h.2.1, by show (if a ∈ T :: qs then j else ow a) = k; rw [key a h.1]; exact h.2.2⟩
      cases md with
      | un => trivial
      | fz => exact st
      | st q => exact st
      | ea => exact st
      | lm => exact st
      | cs => exact st
      | own =>
        obtain ⟨d', p', h1, h2, h3, h4⟩ := s0
        exact ⟨d', p', h1, h2, own' _ h3, h4.mono ex fun o q => ev p' o (fun z => h3.2.1 (i.fr.gsub p' z)) q⟩
      | own2 =>
        obtain ⟨ds', p', qs', h1, h2, h3, h4, h5, h6⟩ := s0
        refine ⟨ds', p', qs', h1, h2, fun q hq => own' _ (h3 q hq), h4, ev p' _ (fun z => (h3 p' (List.mem_cons_self ..)).2.1 (i.fr.gsub p' z)) h5, ?_⟩
        have h3' : ∀ q ∈ qs', Own B0 B ow k q := fun q hq => h3 q (List.mem_cons_of_mem _ hq)
        clear h1 h2 h3 h4 h5
        induction h6 with
        | nil => exact .nil
        | cons r t ih => exact .cons (r.mono ex fun o q => ev _ o (fun z => (h3' _ (List.mem_cons_self ..)).2.1 (i.fr.gsub _ z)) q) (ih fun q hq => h3' q (List.mem_cons_of_mem _ hq))
  · rcases List.mem_append.mp hq with hq | hq
    · exact free_back i.ev i.gi (hnew q hq)
    · exact i.nw q hq hq0
/-- x = [[] for .. in ..] -/
theorem sv_new2 {i : Nat} {y : Str} {py pos pe spos : Pos} {tg iter : Expr} {scope : Scope} {own : List (Str × Nat)} {di : DI} {t : Tg} (hi' : i < m.length) (hy : c.X.N[i]? = some y) (hyl : c.X.env.scope.names.lookup y = some .local)
    (hsw : swapsWith (.ListComp (.List [] pe) [⟨tg, iter, [], 0⟩] scope pos) (some (.Name y py)) spos.line c.X.env = pure true)
    (hc : c.X.calm = true) (hN : c.X.N.Nodup) (hi : ICo c m tg iter di) (ok : BlkOk c.X.N c.X.env.scope scope own) (hsub : ∀ i ∈ t.slots, i ∈ own.map (·.2)) (hlen : ∀ i ∈ own.map (·.2), i < m.length)
    (hg : ∀ s H C cl fp, PG (c.in scope s H C cl fp).X tg (gT c.X.K t))
    (hs : ∀ x, foldedSetIterable iter c.X.env x = pure x := by intro _; rfl) (hx : WkX m x.mx = true := by rfl) : SV c x m (m.set i .own2) (.Assign [.Name y py] (.ListComp (.List [] pe) [⟨tg, iter, [], 0⟩] scope pos) spos) (dSet i (dComp di t dYes (dLst dNil))) := by
  intro He B0 B ow ρ σ H S D i1 w
  refine WS.of (ps_setLc (tt := tYes) (te := tLst tNil) hc hN hy hyl hsw wi ok hg (fun _ _ _ _ _ => pts_nil) (fun _ _ _ _ _ => pe_lst pa_nil) hs) ?_
  refine comp_new2 hi hsub hlen i1.fr i1.gi (goalS i1 hx w fun d S' v H' e ev i2 w2 gd => ?_)
  obtain ⟨B', ow', i3, ex⟩ := i1.own2 ev hi' gd
  refine w.nx _ _ ?_ _ H' _ _ i3 ex
  show (dComp di t dYes (dLst dNil) ρ S).st ρ _ = _
  rw [e]
  rfl
/-- a list of own lists is frozen -/
theorem In.freeze2 (i : In c He B0 B ow m ρ σ H S) {j : Nat} (hj : m[j]? = some .own2) : ∃ B', In c He B0 B' ow (m.set j .fz) ρ σ H S ∧ Ex (Fz B H) (Fz B' H) := by
  obtain ⟨ds, p, qs, e1, e2, hown, hnd, hT, hq⟩ := i.fr.slot j _ hj
  have hjl : j < m.length := (List.getElem?_eq_some_iff.mp hj).1
  let P : Addr → Bool := fun a => decide (a ∉ p :: qs)
  have sub : ∀ a ∈ B.filter P, a ∈ B := fun a ha => (List.mem_filter.mp ha).1
  have ex : Ex (Fz B H) (Fz (B.filter P) H) := fz_anti sub
  have keep : ∀ a ∈ B, a ∉ p :: qs → a ∈ B.filter P := fun a ha ne => List.mem_filter.mpr ⟨ha, decide_eq_true ne⟩
  have out : ∀ a ∈ p :: qs, a ∉ B.filter P := fun a ha z => of_decide_eq_true (List.mem_filter.mp z).2 ha
  have n0 : ∀ a ∈ B0, a ∉ p :: qs := fun a ha z => (hown a z).2.1 ha
  refine ⟨B.filter P, ⟨⟨by rw [List.length_set]; exact i.fr.lm, i.fr.ls, fun a ha => keep a (i.fr.sub a ha) (n0 a ha), i.fr.gsub, fun k md hk => ?_⟩, i.gi.less sub (fun a ha => keep a (i.fr.sub a (i.fr.gsub a ha)) (n0 a (i.fr.gsub a ha))), i.ev, fun q hq => i.nw q (sub q hq)⟩, ex⟩
  by_cases e : j = k
  · subst e
    rw [List.getElem?_set_self hjl] at hk
    cases hk
    intro d' hd'
    rw [e1] at hd'
    cases hd'
    refine ⟨_, e2, .lst (fz_some.mpr ⟨out p (List.mem_cons_self ..), hT⟩) (by rw [List.length_map]; exact hnd.2) ?_⟩
    have aux : ∀ (Z : List Addr), Ex (Fz B H) (Fz Z H) → ∀ (l : List Addr) (es : List PyData), Paired (fun q d => Top c.X.K B H q d) l es → (∀ a ∈ l, a ∉ Z) → IsAll c.X.K (Fz Z H) (l.map V.ref) es := by
      intro Z exZ l es hp
      induction hp with
      | nil => exact fun _ => .nil
      | cons r _ ih => exact fun o => .cons (r.is exZ fun u q => fz_some.mpr ⟨o _ (List.mem_cons_self ..), q⟩) (ih fun a ha => o a (List.mem_cons_of_mem _ ha))
    exact aux _ ex qs ds hq fun a ha => out a (List.mem_cons_of_mem _ ha)
  · rw [List.getElem?_set_ne e] at hk
    exact (i.fr.slot k md hk).step ex (fun a ha => keep a ha.1 fun z => e (by rw [← (hown a z).2.2, ha.2.2])) fun a o _ q => q
theorem svs_freeze2 {st : List Stmt} {d : DS} {j : Nat} (hj : m[j]? = some .own2) (h1 : SVs c x (m.set j .fz) m2 st d) : SVs c x m m2 st d := fun He B0 B ow ρ σ H S D i w => by
  obtain ⟨B', i', ex⟩ := i.freeze2 hj
  exact h1 He B0 B' ow ρ σ H S D i' (w.from ex)
/-- .. behind -/
theorem svs_freeze2B {st : List Stmt} {d : DS} {j : Nat} (hj : m1[j]? = some .own2) (h1 : SVs c x m m1 st d) : SVs c x m (m1.set j .fz) st d := fun He B0 B ow ρ σ H S D i w => h1 He B0 B ow ρ σ H S D i
  ⟨fun ρ' S' e σ' H' B' ow' i' ex => by
    obtain ⟨B2, i2, ex2⟩ := i'.freeze2 hj
    exact w.nx ρ' S' e σ' H' B2 ow' i2 (ex.trans ex2), w.rt, w.bk, w.ex, w.nb⟩
end
end PD
/-! PDy: x[k].append(e) for a list of own lists. -/
namespace PD
open PySem PySem.Spec PyProof.Rows L2
theorem paired_set2 {α β : Type} {F G : α → β → Prop} {q : α} {b' : β} : ∀ {l₁ : List α} {l₂ : List β} {n : Nat}, Paired F l₁ l₂ → l₁.Nodup → l₁[n]? = some q → G q b' → (∀ a b, a ≠ q → F a b → G a b) → Paired G l₁ (l₂.set n b')
  | _, _, n, .nil, _, h, _, _ => by simp at h
  | _, _, 0, .cons r t, hn, h, g, k => by
    simp at h
    subst h
    have hn := (List.nodup_cons.mp hn).1
    have aux : ∀ (p : α) (k : ∀ a b, a ≠ p → F a b → G a b) {l₁ : List α} {l₂ : List β}, Paired F l₁ l₂ → p ∉ l₁ → Paired G l₁ l₂ := by
      intro p k l₁ l₂ hp
      induction hp with
      | nil => exact fun _ => .nil
      | cons r t ih => exact fun o => .cons (k _ _ (fun z => o (z ▸ List.mem_cons_self ..)) r) (ih fun z => o (List.mem_cons_of_mem _ z))
    exact .cons g (aux _ k t hn)
  | a :: l₁, _, n + 1, .cons r t, hn, h, g, k => by
    have hn := List.nodup_cons.mp hn
    have h : l₁[n]? = some q := by simpa using h
    exact .cons (k _ _ (fun z => hn.1 (z ▸ List.mem_of_getElem? h)) r) (paired_set2 (n := n) t hn.2 h g k)
theorem paired_len {α β : Type} {F : α → β → Prop} : ∀ {l₁ : List α} {l₂ : List β}, Paired F l₁ l₂ → l₁.length = l₂.length
  | _, _, .nil => rfl
  | _, _, .cons _ t => by simp [paired_len t]
section
variable {c : Cc} {x : Fx} {m m' m1 m2 : List Md} {He : Hp} {B0 B : List Addr} {ow : Addr → Nat} {ρ : PD.Env} {σ : L2.St} {H : Hp} {S : Store} {D : Ends}
theorem In.write2 (i : In c He B0 B ow m ρ σ H S) {j n : Nat} (hj : m[j]? = some .own2) {ds : List PyData} {p q : Addr} {qs : List Addr} {d' : PyData} {o : HO} (hv : σ.getD j none = some (.ref p)) (hown : ∀ a ∈ p :: qs, Own B0 B ow j a) (hnd : (p :: qs).Nodup ∧ qs.length ≤ sizeLine)
    (hT : H p = some (.lst (qs.map V.ref))) (hq : Paired (fun q d => Top c.X.K B H q d) qs ds) (hn : qs[n]? = some q) (hc : ∀ z, H q ≠ some (LamX.CodeO q z)) (ht : Top c.X.K B (upd H q o) q d') :
    In c He B0 B ow m (ρ.set j (some (.list (ds.set n d')))) σ (upd H q o) S ∧ Ex (Fz B H) (Fz B (upd H q o)) := by
  have hjl : j < m.length := (List.getElem?_eq_some_iff.mp hj).1
  have hρ : j < ρ.length := by rw [← i.fr.lm]; exact hjl
  have hqm : q ∈ qs := List.mem_of_getElem? hn
  have hw := hown q (List.mem_cons_of_mem _ hqm)
  have qG : q ∉ c.g.G := fun z => hw.2.1 (i.fr.gsub q z)
  have efz : Fz B (upd H q o) = Fz B H := fz_upd hw.1
  have ex : Ex (Fz B H) (Fz B (upd H q o)) := by rw [efz]; exact Ex.refl _
  have nd := List.nodup_cons.mp hnd.1
  have pq : p ≠ q := fun z => nd.1 (z ▸ hqm)
  refine ⟨⟨⟨by simp [i.fr.lm], by simp [i.fr.ls], i.fr.sub, i.fr.gsub, fun k md hk => ?_⟩, i.gi.grow hw.1 qG hc, fun a u na qa => ?_, i.nw⟩, ex⟩
  · rw [getD_set hρ]
    by_cases e : j = k
    · subst e
      rw [hj] at hk
      cases hk
      rw [if_pos rfl]
      exact ⟨_, p, qs, rfl, hv, hown, hnd, by rw [upd_ne pq]; exact hT, paired_set2 (F := fun q d => Top c.X.K B H q d) (G := fun a d => Top c.X.K B (upd H q o) a d) hq nd.2 hn ht fun a b ne t => Top.mono t ex fun u z => by rw [upd_ne ne]; exact z⟩
    · rw [if_neg e]
      exact (i.fr.slot k md hk).step ex (fun a ha => ha.1) fun a u ha qa => by
        rw [upd_ne fun z => e (by rw [← hw.2.2, ← ha.2.2, z])]
        exact qa
  · rw [upd_ne fun z => by rw [z, i.nw q hw.1 hw.2.1] at qa; cases qa]
    exact i.ev a u na qa
def fSub2 (xss : List PyData) (j : PyData) : Option (Nat × List PyData) := match j with
  | .int j => (ixN xss.length j).bind fun n => match xss[n]? with
    | some (.list xs) => some (n, xs)
    | _ => none
  | _ => none
def dApp2 (i : Nat) (k a : DE) : DS := fun ρ S => onLst ρ i fun xss => (k ρ S).st ρ fun j S1 => match fSub2 xss j with
  | some (n, xs) => (a ρ S1).st ρ fun d S2 => putO ρ i ((fApp xs d).map fun z => .list (xss.set n z)) S2
  | none => .bad
theorem paired_at {α β : Type} {F : α → β → Prop} : ∀ {l₁ : List α} {l₂ : List β} {n : Nat} {b : β}, Paired F l₁ l₂ → l₂[n]? = some b → ∃ a, l₁[n]? = some a ∧ F a b
  | _, _, _, _, .nil, h => by simp at h
  | _, _, 0, _, .cons r _, h => by simp at h; subst h; exact ⟨_, rfl, r⟩
  | _, _, n + 1, _, .cons _ t, h => by
    obtain ⟨a, h1, h2⟩ := paired_at (n := n) t (by simpa using h)
    exact ⟨a, by simpa using h1, h2⟩
theorem ref_inj : ∀ l k : List Addr, l.map V.ref = k.map V.ref → l = k
  | [], [], _ => rfl
  | [], _ :: _, h => by simp at h
  | _ :: _, [], h => by simp at h
  | a :: l, b :: k, h => by
    simp only [List.map_cons, List.cons.injEq, V.ref.injEq] at h
    rw [h.1, ref_inj l k h.2]
/-- x[k].append(e), x a list of own lists -/
theorem sv_app2 {i : Nat} {e k : Expr} {a dk : DE} {y : Str} {p1 p2 p3 pos pos' : Pos} (hm : m[i]? = some .own2) (hk : EV c m k dk) (ha : EV c m e a) (hp : PE c.X (.Name y p1) (tVar i)) (hpx : PlainIx k)
    (hs : Pl e := by intro _ _; rfl) (hw : swapsWith (.Call (.Attribute (.Subscript (.Name y p1) k p3) "append" p2) [e] [] pos') none pos.line c.X.env = pure false := by rfl)
    (hbase : attributeBase (.Subscript (.Name y p1) k p3) "append" c.X.env (eval (.Subscript (.Name y p1) k p3) c.X.env) = eval (.Subscript (.Name y p1) k p3) c.X.env := by rfl)
    (hfew : ((backTo pos' (starEach [e] c.X.env)).all (fun x => !x.1) && (backToKw pos' (keywordEach [] c.X.env)).all (fun x => x.1.isSome) && decide ([e].length + ([] : List Keyword).length + (if ([] : List Keyword).isEmpty then 0 else 1) < 30)) = true := by rfl)
    (hline : (p2.endLine == pos'.line) = true := by rfl) (hx : WkX m x.mx = true := by rfl) :
    SV c x m m (.Expr (.Call (.Attribute (.Subscript (.Name y p1) k p3) "append" p2) [e] [] pos') pos) (dApp2 i dk a) := by
  intro He B0 B ow ρ σ H S D i1 w
  refine WS.of (ps_expr (pe_bm PySem.F.plainAttrs_list PySem.F.slot_list_append PySem.F.type_list_append mt_append (pe_ix ix_list hp we hpx) (pa_cons we pa_nil (hs _ _)) hbase hfew hline (hs _ _) (by rw [show starEach [] c.X.env = [] from rfl]; rfl)) hw) ?_
  obtain ⟨ds, p, qs, e0, hv, hown, hnd, hT, hq⟩ := i1.fr.slot i _ hm
  obtain ⟨xs', e1, w⟩ := on_lst e0 w
  cases e1
  refine ⟨.ref p, ?_, ?_⟩
  · rw [List.getD_eq_getElem?_getD] at hv
    cases h2 : σ[i]? with
    | none => rw [h2] at hv; cases hv
    | some o => rw [h2] at hv; rw [show o = some _ from hv]
  refine hk σ H ρ S B0 B ow _ i1.fr i1.gi (goalS i1 hx w fun d S' v H' e ev i2 w2 gd => ?_)
  cases ef : fSub2 ds d with
  | none => rw [ef] at w2; exact absurd rfl w2.nb
  | some r =>
    obtain ⟨n, xs⟩ := r
    rw [ef] at w2
    cases gd with
    | int z =>
      have ef : ((ixN ds.length z).bind fun n => match ds[n]? with | some (.list xs) => some (n, xs) | _ => none) = some (n, xs) := ef
      cases hz : ixN ds.length z with
      | none => rw [hz] at ef; cases ef
      | some n' =>
        rw [hz] at ef
        simp only [Option.bind_some] at ef
        have hdn : n' = n ∧ ds[n]? = some (.list xs) := by
          split at ef
          · rename_i xs' hx'
            cases ef
            exact ⟨rfl, hx'⟩
          · cases ef
        obtain ⟨rfl, hdn⟩ := hdn
        obtain ⟨ds2, p2', qs2, e02, hv2, hown2, hnd2, hT2, hq2⟩ := i2.fr.slot i _ hm
        rw [e0] at e02
        cases e02
        rw [hv] at hv2
        cases hv2
        have hlen := paired_len hq2
        obtain ⟨q, hqn, tq⟩ := paired_at hq2 hdn
        refine ⟨p, qs2.map V.ref, z, .ref q, rfl, rfl, .inl (.inl hT2), ?_, ?_⟩
        · unfold L2.atI
          rw [List.length_map, hlen, hz]
          simp [hqn]
        obtain ⟨vs, h1, hz1, r1⟩ := top_lst tq
        refine ⟨.inl ⟨rfl, vs, .inl (.inl h1)⟩, ?_⟩
        refine ha σ H' ρ S' B0 B ow _ i2.fr i2.gi (goalS i2 hx w2 fun d3 S3 v3 H3 e3 ev3 i3 w3 gd3 => ?_)
        obtain ⟨ds3, p3', qs3, e03, hv3, hown3, hnd3, hT3, hq3⟩ := i3.fr.slot i _ hm
        rw [e0] at e03
        cases e03
        rw [hv] at hv3
        cases hv3
        rw [ev3 p _ (fun z => (hown3 p (List.mem_cons_self ..)).2.1 (i3.fr.gsub p z)) hT2] at hT3
        have eqs : qs2 = qs3 := by
          have h := Option.some.inj hT3
          have h : qs2.map V.ref = qs3.map V.ref := by injection h
          exact ref_inj _ _ h
        subst eqs
        have qm : q ∈ qs2 := List.mem_of_getElem? hqn
        have qG : q ∉ c.g.G := fun z => (hown3 q (List.mem_cons_of_mem _ qm)).2.1 (i3.fr.gsub q z)
        have h2 : H3 q = some (.lst vs) := ev3 q _ qG h1
        unfold putO fApp at w3
        by_cases hlt : xs.length < sizeLine
        · rw [if_pos (decide_eq_true hlt)] at w3
          refine ⟨q, vs, v3, rfl, rfl, h2, by rw [r1.length]; exact hlt, ?_⟩
          obtain ⟨i4, ex⟩ := i3.write2 hm hv hown3 hnd3 (ev3 p _ (fun z => (hown3 p (List.mem_cons_self ..)).2.1 (i3.fr.gsub p z)) hT2) hq3 hqn (lst_code h2) (top_upd (vs := vs ++ [v3]) (xs := xs ++ [d3]) (hown3 q (List.mem_cons_of_mem _ qm)).1 (by rw [List.length_append, r1.length]; show _ + 1 ≤ _; omega) ((r1.mono (ev3.fz i2.gi.sub)).append (.cons gd3 .nil)))
          exact w3.nx _ _ rfl σ _ B ow i4 ex
        · rw [if_neg (by simpa using hlt)] at w3
          exact absurd rfl w3.nb
    | _ => cases ef
end
end PD
/-! PDz: sorted(whole numbers); xs.index(y), xs.count(y) by data. -/
namespace PD
open PySem PySem.Spec PyProof.Rows L2
def sortI (ns : List Int) : List Int := ns.mergeSort fun a b => decide (a ≤ b)
theorem sortI_perm (ns : List Int) : (sortI ns).Perm ns := List.mergeSort_perm ..
theorem sortI_up (ns : List Int) : (sortI ns).Pairwise (· ≤ ·) := by
  have h := List.pairwise_mergeSort (le := fun a b : Int => decide (a ≤ b)) (fun a b c h1 h2 => by simp only [decide_eq_true_eq] at *; omega) (fun a b => by simp only [Bool.or_eq_true, decide_eq_true_eq]; omega) ns
  unfold sortI
  exact h.imp fun h => of_decide_eq_true h
theorem sortI_eq {ns ms : List Int} (h : ms.Perm ns) (hs : ms.Pairwise (· ≤ ·)) : ms = sortI ns :=
  List.Perm.eq_of_pairwise (le := (· ≤ ·)) (fun a b _ _ h1 h2 => Int.le_antisymm h1 h2) hs (sortI_up ns) (h.trans (sortI_perm ns).symm)
def fSortI : PyData → Option PyData | .list xs => (intsOf xs).map fun ns => .list ((sortI ns).map .int) | _ => none
section
variable {c : Cc} {m : List Md} {a b : Expr} {da db : DE} {pos apos p : Pos}
theorem cal_sortI {K : PySem.W.Frag} {g : Gx} : CalO K g (rSortedI K) fSortI := by
  intro B H x dx d Q hn hg hx e k
  unfold fSortI at e
  split at e
  · rename_i xs
    cases q : intsOf xs with
    | none => rw [q] at e; cases e
    | some ns =>
      rw [q] at e
      cases e
      obtain rfl := intsOf_eq q
      obtain ⟨p, vs, rfl, h1, s1, z1⟩ := hx.lst hg
      obtain rfl := h1.ints
      refine ⟨p, ns, rfl, .inl (.inl (s1 H (Evo.refl _ _))), fun ns' l hp hs hl => ?_⟩
      rw [sortI_eq hp hs]
      exact k _ _ (Ex.new hl) hl (top_newL hl (by rw [List.length_map, (sortI_perm ns).length_eq]; simpa using z1) IsAll.of_ints)
  · cases e
theorem eo_sortI (hg : Gl c.X "sorted") (hm : c.X.mg "sorted" = none) (ha : EB c m a da) (hs : Pl a := by intro _ _; rfl) : EO c m (.Call (.Name "sorted" p) [a] [] pos) (d1 fSortI da) := eo_callB cr_sortedI cal_sortI hg hm PyProof.Rows.boot_sorted ha hs
/-! index, count -/
def dM2 (F : PyData → PyData → Option PyData) (a b : DE) : DE := fun ρ S => (a ρ S).bind fun x S1 => match x with | .list _ => (b ρ S1).bind fun y S2 => ofO (F x y) S2 | _ => .bad
def shB (x y : PyData) : Bool := SeqAt.shaped x && SeqAt.shaped y
def fIndex (x y : PyData) : Option PyData := match x with
  | .list ds => if shB x y then (ds.findIdx? fun z => PyData.eqv z y).map fun j => .int (j : Nat) else none
  | _ => none
def fCount (x y : PyData) : Option PyData := match x with
  | .list ds => if shB x y then some (.int (ds.countP fun z => PyData.eqv z y : Nat)) else none
  | _ => none
def rCountD (K : PySem.W.Frag) : V → List V → Hp → VK → Prop := fun x xs H Q => ∃ (a : Addr) (y : V) (d : PyData) (ds : List PyData), x = V.ref a ∧ xs = [y] ∧ Dp K H (V.ref a) (.list ds) ∧ Dp K H y d ∧ SeqAt.shaped (.list ds) = true ∧ SeqAt.shaped d = true ∧ Q (.int (ds.countP fun z => PyData.eqv z d : Nat)) H
theorem mt_countD {X : Cx} (hu : X.A.units + 65 < cLine) : MtR X "list.count" (rCountD X.K) := by
  intro pins s σ H x xs v us Q I rx rxs h
  obtain ⟨a, y, d, ds, rfl, rfl, hl, hy, sl, sd, q⟩ := h
  cases rx
  obtain ⟨uy, rfl, ry⟩ := rxs.one
  obtain ⟨bs, r1⟩ := Dp.reads I d y uy hy ry
  have lay : PyData.canLayAll0 ds = true := SeqAt.canLay_of_shaped sl
  have room : X.A.units + 1 + min (PyData.depthAll ds) d.depth < cLine := room_in_shaped sd hu
  cases hl with
  | lst hs ha =>
    obtain ⟨its, rv, ⟨⟨cls, dd, data, sls⟩, n, ho, hc, hdn, hdt⟩, hlen⟩ := I.list hs
    dsimp only at hc hdt
    subst hc hdt
    obtain ⟨as, h4⟩ := Dp.readsAll I ds _ its ha rv
    refine call_meets PySem.F.slot_list_count ⟨_, ho, rfl⟩ PySem.F.entry_list_count (PySem.F.args_list_count_2 _ _)
      (SeqAt.list_countAt a its.toArray n dd sls uy fun u => PyData.eqv (SeqAt.readOf s.heap u) d) ⟨ho, SeqAt.items_eqAt (vs := its.toArray) (show ReadsAll s.heap its.toArray.toList ds as from h4) r1 lay (SeqAt.canLay_of_shaped sd) room, ?_⟩
    have e : its.toArray.toList.countP (fun u => PyData.eqv (SeqAt.readOf s.heap u) d) = ds.countP fun z => PyData.eqv z d := by
      rw [← SeqAt.readsAll_map ds its as lay h4, List.countP_map]
      rfl
    refine ⟨.int (ds.countP fun z => PyData.eqv z d : Nat), H, I.tok _, ⟨s.toks, ?_⟩, q⟩
    show Value.int ((its.toArray.toList.countP _ : Nat) : Int) s.toks = _
    rw [e]
theorem rb_ty {K : PySem.W.Frag} {g : Gx} {B : List Addr} {H : Hp} {v : V} {ds : List PyData} (h : Rb K g B H v (.list ds)) (hg : ∀ a ∈ g.G, a ∈ B) : ∃ a, v = .ref a ∧ tyV K "list" v H := by
  obtain ⟨a, vs, rfl, h1, s1, z1⟩ := h.lst hg
  exact ⟨a, rfl, .inl ⟨rfl, vs, .inl (.inl (s1 H (Evo.refl _ _)))⟩⟩
theorem sh_of {x y : PyData} (h : shB x y = true) : SeqAt.shaped x = true ∧ SeqAt.shaped y = true := by
  unfold shB at h
  exact Bool.and_eq_true_iff.mp h
theorem meth2 {r : V → List V → Hp → VK → Prop} {F : PyData → PyData → Option PyData}
    (hr : ∀ (B : List Addr) (H : Hp) (x y : V) (dx dy d : PyData) (Q : VK), (∀ a ∈ B, H a ≠ none) → (∀ a ∈ c.g.G, a ∈ B) → Rb c.X.K c.g B H x dx → Rb c.X.K c.g B H y dy → F dx dy = some d → (∀ v, Is c.X.K (Fz B H) v d → Q v H) → r x [y] H Q)
    (ha : EB c m a da) (hb : EV c m b db) {σ : L2.St} {H : Hp} {ρ : PD.Env} {S : Store} {B0 B : List Addr} {ow : Addr → Nat} {Q : VK} (fr : Frame c.X.K c.g B0 B ow m ρ σ H) (gi : GI c.X.K c.g B H S)
    (g : Goal c B H σ (dM2 F da db ρ S) (fun _ H' v d => Is c.X.K (Fz B H') v d) Q) : tBM c.X.K "list" r (PD.WE c.X a) (tCons (PD.WE c.X b) tNil) σ H Q := by
  refine ha σ H ρ S B0 B ow _ fr gi (g.bind fun d S1 v H1 _ ev1 gi1 gd1 g1 => ?_)
  cases d with
  | list ds =>
    obtain ⟨q, rfl, ty⟩ := rb_ty gd1 gi1.sub
    refine ⟨ty, hb σ H1 ρ S1 B0 B ow _ (fr.evo ev1) gi1 (g1.bind fun e S2 w H2 _ ev2 gi2 gd2 g2 => ?_)⟩
    cases ef : F (.list ds) e with
    | none => rw [ef] at g2; exact absurd rfl g2.not_bad
    | some z =>
      rw [ef] at g2
      exact hr B H2 _ w _ e z _ gi2.kn gi2.sub (Rb.evo gd1 gi1.sub ev2) (.inl gd2) ef fun u iu => g2.ok0 gi2 iu
  | _ => exact absurd rfl g1.not_bad
theorem ev_count (hu : c.X.A.units + 65 < cLine) (ha : EB c m a da) (hb : EV c m b db) (hs : Pl b := by intro _ _; rfl)
    (hbase : attributeBase a "count" c.X.env (eval a c.X.env) = eval a c.X.env := by rfl)
    (hfew : ((backTo pos (starEach [b] c.X.env)).all (fun x => !x.1) && (backToKw pos (keywordEach [] c.X.env)).all (fun x => x.1.isSome) && decide ([b].length + ([] : List Keyword).length + (if ([] : List Keyword).isEmpty then 0 else 1) < 30)) = true := by rfl)
    (hline : (apos.endLine == pos.line) = true := by rfl) : EV c m (.Call (.Attribute a "count" apos) [b] [] pos) (dM2 fCount da db) := fun σ H ρ S B0 B ow Q fr gi g =>
  PD.WE.of (pe_bm PySem.F.plainAttrs_list PySem.F.slot_list_count PySem.F.type_list_count (mt_countD hu) we (pa_cons we pa_nil (hs _ _)) hbase hfew hline (hs _ _) (by rw [show starEach [] c.X.env = [] from rfl]; rfl))
    (meth2 (fun B H x y dx dy d Q hn hg hx hy e k => by
      unfold fCount at e
      split at e
      · rename_i ds
        split at e
        · rename_i hc
          cases e
          obtain ⟨s1, s2⟩ := sh_of hc
          obtain ⟨q, rfl, _⟩ := rb_ty hx hg
          exact ⟨q, y, dy, ds, rfl, rfl, hx.dp (SeqAt.canLay_of_shaped s1), hy.dp (SeqAt.canLay_of_shaped s2), s1, s2, k _ (.int _)⟩
        · cases e
      · cases e) ha hb fr gi g)
theorem ev_index (hu : c.X.A.units + 65 < cLine) (ha : EB c m a da) (hb : EV c m b db) (hs : Pl b := by intro _ _; rfl)
    (hbase : attributeBase a "index" c.X.env (eval a c.X.env) = eval a c.X.env := by rfl)
    (hfew : ((backTo pos (starEach [b] c.X.env)).all (fun x => !x.1) && (backToKw pos (keywordEach [] c.X.env)).all (fun x => x.1.isSome) && decide ([b].length + ([] : List Keyword).length + (if ([] : List Keyword).isEmpty then 0 else 1) < 30)) = true := by rfl)
    (hline : (apos.endLine == pos.line) = true := by rfl) : EV c m (.Call (.Attribute a "index" apos) [b] [] pos) (dM2 fIndex da db) := fun σ H ρ S B0 B ow Q fr gi g =>
  PD.WE.of (pe_bm PySem.F.plainAttrs_list PySem.F.slot_list_index PySem.F.type_list_index (mt_indexD hu) we (pa_cons we pa_nil (hs _ _)) hbase hfew hline (hs _ _) (by rw [show starEach [] c.X.env = [] from rfl]; rfl))
    (meth2 (fun B H x y dx dy d Q hn hg hx hy e k => by
      unfold fIndex at e
      split at e
      · rename_i ds
        split at e
        · rename_i hc
          cases ej : ds.findIdx? (fun z => PyData.eqv z dy) with
          | none => rw [ej] at e; cases e
          | some j =>
            rw [ej] at e
            cases e
            obtain ⟨s1, s2⟩ := sh_of hc
            obtain ⟨q, rfl, _⟩ := rb_ty hx hg
            obtain ⟨hj, h1, h2⟩ := List.findIdx?_eq_some_iff_getElem.mp ej
            exact ⟨q, y, dy, ds, j, ds[j], rfl, rfl, hx.dp (SeqAt.canLay_of_shaped s1), hy.dp (SeqAt.canLay_of_shaped s2), s1, s2, List.getElem?_eq_getElem hj, h1, fun m' z' hm hz => by
              have hml : m' < ds.length := by omega
              rw [List.getElem?_eq_getElem hml] at hz
              cases hz
              simpa using h2 m' hm, k _ (.int _)⟩
        · cases e
      · cases e) ha hb fr gi g)
end
end PD
/-! PDta: try with several clauses that name what they catch. -/
namespace PD
open PySem PySem.Spec PyProof.Rows L2
/-- a suite's ends: the name goes -/
def nameGone (i : Nat) (D : Ends) : Ends := { nx := fun τ G => D.nx (τ.set i none) G, rt := D.rt, bk := fun τ G => D.bk (τ.set i none) G, ct := fun τ G => D.ct (τ.set i none) G }
abbrev Clause := Nat × Value × (Addr → Value → Option Addr → TS)
def wClauses (K : PySem.W.Frag) (Wo : WX) (D : Ends) : List Clause → WX
  | [] => Wo
  | (i, c, t) :: r => fun cls d τ G => ∃ b, PySem.W.exmOne K cls c = some b ∧ (b = true → ∀ ad, G ad = none → t ad cls d (nameGone i D) (τ.set i (some (.ref ad))) G) ∧ (b = false → wClauses K Wo D r cls d τ G)
inductive Clauses (X : Cx) : List ExceptHandler → List Clause → Prop
  | nil : Clauses X [] []
  | cons {C n : Str} {i : Nat} {cv : Value} {t : Addr → Value → Option Addr → TS} {st : Stmt} {sts : List Stmt} {cp hp : Pos} {rest : List ExceptHandler} {l : List Clause} (hc : Names X C cv) (hi : X.N[i]? = some n) (hk : X.env.kindOf n = some .local)
      (suite : ∀ (ad : Addr) (ob : Obj) (cls : Value) (d : Option Addr) (pn : List (Addr × Obj)), Zc cls d ob → (∃ us, ob.data = .fields us) → PSs (X.suite ad ((ad, ob) :: pn)) (st :: sts) (t ad cls d)) (r : Clauses X rest l) :
      Clauses X (.ExceptHandler (some (.Name C cp)) (some n) (st :: sts) hp :: rest) ((i, cv, t) :: l)
section
variable {X : Cx} {body : List Stmt} {h0 : ExceptHandler} {hs : List ExceptHandler} {l : List Clause} {pos : Pos} {tb : WX → TS} {Wo : WX}
theorem ps_clauses (est : X.stack = X.env :: X.outer) (efr : X.env.frame = some X.env.locals) (nd : X.N.Nodup) (tk : Takes X Wo)
    (hb : ∀ (W : WX) (pn : List (Addr × Obj)) (xe : Value → Shared → Prop), Takes (X.tr pn xe) W → PassesOwn (model X.prog X.w) X.A X.env xe → PSs (X.tr pn xe) body (tb W))
    (hh : Clauses X (h0 :: hs) l) : PS X (.Try body (h0 :: hs) [] [] pos) (fun D τ G => tb (wClauses X.K Wo D l) D τ G) := by
  constructor
  intro pins s τ G D I hyp
  have okX := I.ok
  have fro : X.A.frames = some (X.env :: X.outer) := okX.frames.trans (congrArg some est)
  refine wpAny_Try_except ?_
  have caughtOk : Takes (X.tr (X.pn ++ pins) fun e s1 => wpAny (model X.prog X.w) X.A (noteFrame e X.env) (fun _ s2 => wpAny (model X.prog X.w) X.A (setFlight e none) (fun _ s3 => wpAny (model X.prog X.w) X.A (handleBy e X.env (h0 :: hs)) (SP X pins D) X.xe s3) X.xe s2) X.xe s1) (wClauses X.K Wo D l) := by
    intro u s1 caught
    obtain ⟨ad, B, s0, pins', τ', G', cls, d, rfl, Ib, nb, up, sky, na, os, bare, wish⟩ := caught
    have Iq : Inv X pins τ' G' s0 := Ib.ofTry okX
    have skyX : Sky B (X.env :: X.outer) ad (Zc cls d) X.env.locals s1.heap := est ▸ sky
    show wpAny (model X.prog X.w) X.A (noteFrame (.ref ad) X.env) _ _ _
    refine Sky.land Zc.steady fro efr skyX fun hA flA upA => ?_
    have IA : Inv X pins τ' G' { s1 with heap := hA } := Iq.landed nb flA.1 (up.trans upA) os bare
    obtain ⟨obA, usA, getA, zcA, datA⟩ := flA.there
    have off : ad ∉ frs (X.env :: X.outer) := fun hm => by
      obtain ⟨_, ob2, get2, nf⟩ := flA.2.2.1.mem hm
      cases getA.symm.trans get2
      exact nf _ datA
    have offL : ad ≠ X.env.locals := fun z => off (List.mem_filterMap.mpr ⟨X.env, List.mem_cons_self, efr.trans (congrArg some z.symm)⟩)
    have offF : ad ∉ X.fs := fun hm => by
      obtain ⟨ev, hev, q⟩ := List.mem_filterMap.mp hm
      exact off (List.mem_filterMap.mpr ⟨ev, List.mem_cons_of_mem _ hev, q⟩)
    have suiteA := IA.suite getA datA na offL offF
    suffices walk : ∀ {hs' : List ExceptHandler} {l' : List Clause}, Clauses X hs' l' → wClauses X.K Wo D l' cls d τ' G' → wpAny (model X.prog X.w) X.A (handleBy (.ref ad) X.env hs') (SP X pins D) X.xe { s1 with heap := hA } from walk hh wish
    intro hs' l' hcl
    induction hcl with
    | nil =>
      intro wish
      refine wpAny_handleBy_nil ?_
      obtain ⟨f1, f2, f3, ob3, us3, T3, oT3, ts3, get3, zc3, dat3, fld3, rest3⟩ := id flA
      unfold PySem.passOn
      refine wpAny_bind (wpAny_field get3 dat3 fld3 ?_)
      have ne : ¬ ((Value.ref T3 == Value.none) = true) := by simp
      rw [if_neg ne]
      have out : wpAny (model X.prog X.w) X.A (setFlight (.ref ad) X.env.frame) (fun _ s4 => wpAny (model X.prog X.w) X.A (throw (.ref ad) : Sem Flow) (SP X pins D) X.xe s4) X.xe { s1 with heap := hA } := by
        rw [efr]
        exact HandSPX.setFlight_upZ flA fun hB flB upB => wpAny_throw (tk _ _ ⟨ad, B, s0, pins, τ', G', cls, d, rfl, Iq, nb, (up.trans upA).trans upB, .inr (.inr (est.symm ▸ flB)), na, os, bare, wish⟩)
      first
        | exact wpAny_bind (wpAny_pure (wpAny_bind out))
        | exact wpAny_bind out
    | @cons C n i cv t st sts cp hp rest lr hc hi hk suite _ ih =>
      intro wish
      obtain ⟨b, isIt, yes, no⟩ := wish
      refine wpAny_handleBy_cons (codeAny_handlers_test ?_) (by rintro ⟨⟩)
      have looks : PySem.W.Looks (model X.prog X.w) hA (typeOf (.ref ad)) cls := fun A Q E s k q => wpAny_typeOf_ref (k _ _ getA) (zcA.1.symm ▸ q)
      have name : ∀ {Q : Value → Shared → Prop} {E : Value → Shared → Prop}, Q cv { s1 with heap := hA } → wpAny (model X.prog X.w) (X.A.mark (some (.ref ad))) (eval (.Name C cp) X.env) Q E { s1 with heap := hA } := by
        intro Q E q
        rcases hc with ⟨hg, hdb, hm | ⟨hm, hv, hn⟩⟩
        · exact ld_glob (X := X.suite ad ((ad, obA) :: (X.pn ++ pins))) suiteA hg hm q hdb
        · exact ld_blt (X := X.suite ad ((ad, obA) :: (X.pn ++ pins))) suiteA hg hm hv q hn hdb
      refine name ((PySem.W.exm_one (M := model X.prog X.w) IA.kIn looks isIt).here ?_)
      cases b with
      | false =>
        show wpAny _ X.A (handleBy (.ref ad) X.env rest) _ _ _
        exact ih (no rfl)
      | true =>
        refine codeAny_handlers_suite_as (HandSPX.lands_againZ flA fun hB flB upB => ?_)
        have IB : Inv X pins τ' G' { s1 with heap := hB } := Iq.landed nb flB.1 ((up.trans upA).trans upB) os bare
        obtain ⟨obB, usB, getB, zcB, datB⟩ := flB.there
        have suiteB := IB.suite getB datB na offL offF
        refine store_ok (X := X.suite ad ((ad, obB) :: (X.pn ++ pins))) (v := .ref ad) suiteB nd hi (.inl hk) rfl (fun s5 I5 => ?_) (.inr hk)
        refine wpAny_mono ((suite ad obB cls d (X.pn ++ pins) zcB ⟨_, datB⟩).run [] s5 _ G' _ I5 (yes rfl ad na)) (fun f s6 fin => ?_) (fun _ _ z => z.elim)
        have goes : ∀ {τ6 : L2.St} {G6 : Hp} {Q : Shared → Prop}, Inv (X.suite ad ((ad, obB) :: (X.pn ++ pins))) [] τ6 G6 s6 → (∀ s7, Inv X pins (τ6.set i none) G6 s7 → Q s7) →
            wpAny (model X.prog X.w) X.A (do bindName X.env n .none; unbindBehindTheSuite X.env n hp) (fun _ s7 => Q s7) X.xe s6 := fun I6 hq => gone_ok (I6.unsuite okX) nd hi hk hq
        cases f with
        | ret u =>
          obtain ⟨v6, τ6, G6, I6, r6, q6⟩ := fin
          exact goes I6 fun s7 I7 => ⟨_, _, _, I7, r6, q6⟩
        | next =>
          obtain ⟨τ6, G6, I6, q6⟩ := fin
          exact goes I6 fun s7 I7 => ⟨_, _, I7, q6⟩
        | brk =>
          obtain ⟨τ6, G6, I6, q6⟩ := fin
          exact goes I6 fun s7 I7 => ⟨_, _, I7, q6⟩
        | cont =>
          obtain ⟨τ6, G6, I6, q6⟩ := fin
          exact goes I6 fun s7 I7 => ⟨_, _, I7, q6⟩
  refine wpAny_mono ((hb _ _ _ caughtOk PassesOwn.looking).run [] s τ G D (I.toTry _) hyp) (fun f s1 fin => ?_) fun e s1 he => he
  cases f with
  | ret u =>
    obtain ⟨v', τ', G', I', r', q'⟩ := fin
    exact ⟨v', τ', G', I'.ofTry okX, r', q'⟩
  | next =>
    obtain ⟨τ', G', I', q'⟩ := fin
    exact wpAny_execs_nil ⟨τ', G', I'.ofTry okX, q'⟩
  | brk =>
    obtain ⟨τ', G', I', q'⟩ := fin
    exact ⟨τ', G', I'.ofTry okX, q'⟩
  | cont =>
    obtain ⟨τ', G', I', q'⟩ := fin
    exact ⟨τ', G', I'.ofTry okX, q'⟩
end
end PD
/-! PDtb: try with several clauses, by denotation. -/
namespace PD
open PySem PySem.Spec PyProof.Rows L2
abbrev DCl := List ((Str → Bool) × (Xc → DS))
def pickC : DCl → Xc → DS
  | [], xc => fun ρ S => .exc xc ρ S
  | (sub, dh) :: r, xc => fun ρ S => if sub xc.cls = true then (dh xc ρ S).calm else pickC r xc ρ S
def dTryN (cs : List Str) (db : DS) (l : DCl) : DS := fun ρ S => match db ρ S with
  | .exc xc ρ' S' => if cs.contains xc.cls then pickC l xc ρ' S' else .bad
  | r => r
section
variable {c : Cc} {x : Fx} {m m' m1 m2 : List Md} {He : Hp} {B0 B : List Addr} {ow : Addr → Nat} {ρ : PD.Env} {σ : L2.St} {H : Hp} {S : Store} {D : Ends}
inductive ClsOk (c : Cc) (x : Fx) (cs : List Str) (mh m' : List Md) : List ExceptHandler → DCl → Prop
  | nil : ClsOk c x cs mh m' [] []
  | cons {en n : Str} {CA : Addr} {i : Nat} {sub : Str → Bool} {b₀ : Stmt} {suite : List Stmt} {np hp : Pos} {dh : Xc → DS} {m2 : List Md} {rest : List ExceptHandler} {l : DCl} (hi : c.X.N[i]? = some n) (hln : c.X.env.kindOf n = some .local) (hc : Names c.X en (.ref CA)) (hil : i < mh.length)
      (hsub : ∀ y ∈ cs, ∀ E, c.X.mg y = some (.ref E) → PySem.W.exmOne c.X.K (.ref E) (.ref CA) = some (sub y))
      (hd : ∀ a oe d pn xc E, Zc (.ref E) d oe → (∃ vs, oe.data = .fields vs) → c.X.mg xc.cls = some (.ref E) → xc.cls ∈ cs → SVs (c.suite a oe d pn xc) { x with mx := none } (mh.set i .ea) m2 (b₀ :: suite) (dh xc))
      (hm2 : Wk (m2.set i .un) m' = true) (hno2 : noEa (m2.set i .un) = true) (hi2 : i < m2.length) (r : ClsOk c x cs mh m' rest l) : ClsOk c x cs mh m' (.ExceptHandler (some (.Name en np)) (some n) (b₀ :: suite) hp :: rest) ((sub, dh) :: l)
theorem cls_wish {cs : List Str} {mh : List Md} {hs : List ExceptHandler} {l : DCl} (k : ClsOk c x cs mh m' hs l) (hno : noEa mh = true) (hx : WkX mh x.mx = true) : ∃ cl, Clauses c.X hs cl ∧
    ∀ (He : Hp) (B0 B : List Addr) (H : Hp) (D : Ends) (xc : Xc) (ρ' : PD.Env) (S' : Store) (σ' : L2.St) (H' : Hp) (B' : List Addr) (ow' : Addr → Nat) (E : Addr) (dd : Option Addr), Wants c x He B0 B H m' (pickC l xc ρ' S') D → xc.cls ∈ cs →
      Frame c.X.K c.g B0 B' ow' mh ρ' σ' H' → GI c.X.K c.g B' H' S' → Evo c.g.G He H' → (∀ p ∈ B', p ∉ B0 → He p = none) → (∀ a ∈ B0, a ∈ B') → Ex (Fz B H) (Fz B' H') → c.X.mg xc.cls = some (.ref E) → FsRep c.X.K (Fz B' H') xc dd →
      wClauses c.X.K c.W D cl (.ref E) dd σ' H' := by
  induction k with
  | nil =>
    refine ⟨[], .nil, fun He B0 B H D xc ρ' S' σ' H' B' ow' E dd w hcs fr gi ev nw sb exx g1 fsr => ?_⟩
    exact w.ex xc ρ' S' rfl σ' H' B' ow' _ dd (MxOk.of fr hx) gi ev nw sb exx ⟨E, g1, rfl, fsr⟩
  | @cons en n CA i sub b₀ suite np hp dh m2 rest l hi hln hc hil hsub hd hm2 hno2 hi2 _ ih =>
    obtain ⟨cl, h1, h2⟩ := ih
    refine ⟨(i, .ref CA, fun a cls d D σ H => ∀ oe pn, Zc cls d oe → (∃ vs, oe.data = .fields vs) → WSs (c.X.suite a ((a, oe) :: pn)) (b₀ :: suite) D σ H) :: cl, .cons hc hi hln (fun a oe cls d pn hz hv => ⟨fun pins s σ H D I h => (h oe pn hz hv).go pins s I⟩) h1, fun He B0 B H D xc ρ' S' σ' H' B' ow' E dd w hcs fr gi ev nw sb exx g1 fsr => ?_⟩
    refine ⟨sub xc.cls, hsub _ hcs E g1, fun hs a ha oe pn2 hz hv => ?_, fun hs => ?_⟩
    · have w : Wants c x He B0 B H m' (dh xc ρ' S').calm D := by
        unfold pickC at w
        rw [if_pos hs] at w
        exact w
      have fr' : Frame c.X.K (c.g.withE a xc dd) B0 B' ow' mh ρ' σ' H' := Frame.setE (g := c.g) rfl rfl rfl fr hno
      have gi' : GI c.X.K (c.g.withE a xc dd) B' H' S' := GI.setE (g := c.g) rfl rfl rfl gi
      have hρ : i < ρ'.length := by rw [← fr.lm]; exact hil
      have hσ : i < σ'.length := by rw [fr.ls]; exact hρ
      have fr2 : Frame c.X.K (c.g.withE a xc dd) B0 B' ow' (mh.set i .ea) ρ' (σ'.set i (some (.ref a))) H' := by
        refine ⟨by rw [List.length_set]; exact fr'.lm, by rw [List.length_set]; exact fr'.ls, fr'.sub, fr'.gsub, fun j md hj => ?_⟩
        rw [getD_set hσ]
        by_cases ej : i = j
        · subst ej
          rw [List.getElem?_set_self hil] at hj
          cases hj
          rw [if_pos rfl]
          exact ⟨a, xc, dd, rfl, rfl, fsr⟩
        · rw [List.getElem?_set_ne ej] at hj
          rw [if_neg ej]
          exact fr'.slot j md hj
      refine hd a oe dd pn2 xc E hz hv g1 hcs He B0 B' ow' ρ' _ H' S' _ ⟨fr2, gi', ev, nw⟩ ⟨fun ρ3 S3 e3 σ3 H3 B3 ow3 i3 ex3 => ?_, fun d S3 e3 v H3 ev3 gi3 rs => ?_, fun ρ3 S3 e3 σ3 H3 B3 ow3 i3 ex3 => ?_, fun xc3 ρ3 S3 e3 => ?_, fun e3 => ?_⟩
      · refine w.nx ρ3 S3 (by rw [e3]; rfl) _ H3 B3 ow3 ⟨(Frame.setE (g := c.g.withE a xc dd) (g' := c.g) rfl rfl rfl (i3.fr.unk hi2) hno2).weak hm2, GI.setE (g := c.g.withE a xc dd) (g' := c.g) rfl rfl rfl i3.gi, i3.ev, i3.nw⟩ (exx.trans ex3)
      · refine w.rt d S3 (by rw [e3]; rfl) v H3 ev3 (GI.setE (g := c.g.withE a xc dd) (g' := c.g) rfl rfl rfl gi3) ?_
        unfold ResOk at rs ⊢
        split at rs
        · rename_i q
          rw [if_pos q]
          obtain ⟨p, r1, r2, r3, r4⟩ := rs
          exact ⟨p, r1, r2, r3, GI.setE (g := c.g.withE a xc dd) (g' := c.g) rfl rfl rfl r4⟩
        · rename_i q
          rw [if_neg q]
          exact rs
      · exact absurd (by rw [e3]; rfl) w.nb
      · exact absurd (by rw [e3]; rfl) w.nb
      · exact absurd (by rw [e3]; rfl) w.nb
    · refine h2 He B0 B H D xc ρ' S' σ' H' B' ow' E dd ?_ hcs fr gi ev nw sb exx g1 fsr
      unfold pickC at w
      rw [if_neg (by rw [hs]; simp)] at w
      exact w
/-- try: body / except C as n: .. / except C' as n': .. -/
theorem sv_tryN {cs : List Str} {body : List Stmt} {h0 : ExceptHandler} {hs : List ExceptHandler} {l : DCl} {pos : Pos} {db : DS} {mh : List Md}
    (hst : c.X.stack = c.X.env :: c.X.outer) (hf : c.X.env.frame = some c.X.env.locals) (hN : c.X.N.Nodup) (tk : Takes c.X c.W) (hno : noEa mh = true)
    (hb : ∀ W pn xe, Takes (c.X.tr pn xe) W → PassesOwn (model c.X.prog c.X.w) c.X.A c.X.env xe → SVs ⟨c.g, c.X.tr pn xe, W⟩ { x with mx := some mh } m m' body db)
    (k : ClsOk c x cs mh m' (h0 :: hs) l) (hx : WkX mh x.mx = true) :
    SV c x m m' (.Try body (h0 :: hs) [] [] pos) (dTryN cs db l) := by
  intro He B0 B ow ρ σ H S D i1 w
  obtain ⟨cl, h1, h2⟩ := cls_wish k hno hx
  refine WS.of (ps_clauses (tb := fun W D σ H => ∀ pn xe, Takes (c.X.tr pn xe) W → PassesOwn (model c.X.prog c.X.w) c.X.A c.X.env xe → WSs (c.X.tr pn xe) body D σ H) hst hf hN tk (fun W pn xe t po => ⟨fun pins s σ H D I h => (h pn xe t po).go pins s I⟩) h1) ?_
  intro pn xe t po
  refine hb _ pn xe t po He B0 B ow ρ σ H S _ ⟨i1.fr, i1.gi, i1.ev, i1.nw⟩ ⟨fun ρ' S' e σ' H' B' ow' i2 ex => ?_, fun d S' e => ?_, fun ρ' S' e σ' H' B' ow' i2 ex => ?_, fun xc ρ' S' e σ' H' B' ow' cls dd mxo gi ev nw sb exx xr => ?_, fun e => ?_⟩
  · exact w.nx ρ' S' (by simp only [dTryN, e]) σ' H' B' ow' ⟨i2.fr, i2.gi, i2.ev, i2.nw⟩ ex
  · exact w.rt d S' (by simp only [dTryN, e])
  · exact w.bk ρ' S' (by simp only [dTryN, e]) σ' H' B' ow' ⟨i2.fr, i2.gi, i2.ev, i2.nw⟩ ex
  · obtain ⟨E, g1, rfl, fsr⟩ := xr
    by_cases hcs : xc.cls ∈ cs
    · have er : dTryN cs db l ρ S = pickC l xc ρ' S' := by
        simp only [dTryN, e]
        rw [if_pos (List.contains_iff_mem.mpr hcs)]
      rw [er] at w
      exact h2 He B0 B H D xc ρ' S' σ' H' B' ow' E dd w hcs mxo gi ev nw sb exx g1 fsr
    · exact absurd (by simp only [dTryN, e]; rw [if_neg (fun z => hcs (List.contains_iff_mem.mp z))]) w.nb
  · exact w.nb (by simp only [dTryN, e])
end
end PD
/-! PDtc: sorted(xs), xs a list of data that compare. -/
namespace PD
open PySem PySem.Spec PyProof.Rows L2
open PySem.W (AllAlike Sortable EachIs alike dataLt dataLe)
def sortD (ds : List PyData) : List PyData := ds.mergeSort fun a b => !dataLt b a
def bigTup : PyData → Bool | .tuple (_ :: _) => true | _ => false
def noTup : PyData → Bool | .none => false | .tuple _ => false | _ => true
def sortOk (ds : List PyData) : Bool := decide (ds.length ≤ 1) || (ds.all (fun d => ds.all fun e => alike d e) && (ds.all bigTup || ds.all noTup) && ds.all (fun d => decide (d.depth ≤ 60)) && SeqAt.shaped (.list ds))
def fSortG : PyData → Option PyData | .list ds => if sortOk ds then some (.list (sortD ds)) else none | _ => none
def fSort (x : PyData) : Option PyData := match fSortI x with | some d => some d | none => fSortG x
theorem fSort_I {x d : PyData} (h : fSortI x = some d) : fSort x = some d := by unfold fSort; rw [h]
theorem fSort_or {x d : PyData} (h : fSort x = some d) : fSortI x = some d ∨ fSortG x = some d := by
  unfold fSort at h
  split at h
  · rename_i e; cases h; exact .inl e
  · exact .inr h
theorem sortD_len (ds : List PyData) : (sortD ds).length = ds.length := (List.mergeSort_perm ..).length_eq
theorem sortD_small {ds : List PyData} (h : ds.length ≤ 1) : sortD ds = ds := by
  match ds, h with
  | [], _ => simp [sortD]
  | [x], _ => simp [sortD]
  | _ :: _ :: _, h => simp at h
theorem sortOk_iff {ds : List PyData} (h : sortOk ds = true) (h2 : 2 ≤ ds.length) : AllAlike (ds.map id) ∧ Sortable (ds.map id) ∧ (∀ d ∈ ds, d.depth ≤ 60) ∧ SeqAt.shaped (.list ds) = true := by
  unfold sortOk at h
  have e : decide (ds.length ≤ 1) = false := decide_eq_false (by omega)
  rw [e, Bool.false_or] at h
  obtain ⟨h, h4⟩ := Bool.and_eq_true_iff.mp h
  obtain ⟨h, h3⟩ := Bool.and_eq_true_iff.mp h
  obtain ⟨h1, hb⟩ := Bool.and_eq_true_iff.mp h
  rw [List.map_id]
  refine ⟨fun d hd e he => List.all_eq_true.mp (List.all_eq_true.mp h1 d hd) e he, ?_, fun d hd => of_decide_eq_true (List.all_eq_true.mp h3 d hd), h4⟩
  rcases Bool.or_eq_true_iff.mp hb with hb | hb
  · refine .inl fun d hd => ?_
    have q := List.all_eq_true.mp hb d hd
    unfold bigTup at q
    split at q
    · exact ⟨_, _, rfl⟩
    · cases q
  · refine .inr fun d hd => ?_
    have q := List.all_eq_true.mp hb d hd
    unfold noTup at q
    refine ⟨fun e => ?_, fun xs e => ?_⟩ <;> subst e <;> cases q
/-- what an item stands for -/
def RD (K : PySem.W.Frag) (Hf : Hp) (v : Value) (d : PyData) : Prop := ∃ x, RelV x v ∧ Is K Hf x d
theorem rd_of {K : PySem.W.Frag} {Hf : Hp} : ∀ {xs : List V} {its : List Value} {ds : List PyData}, Vals xs its → IsAll K Hf xs ds → EachIs (RD K Hf) its ds
  | _, _, _, .nil, .nil => .nil
  | _, _, _, .cons r rs, .cons i is => .cons ⟨_, r, i⟩ (rd_of rs is)
theorem rd_back {K : PySem.W.Frag} {Hf : Hp} : ∀ {its : List Value} {ds : List PyData}, EachIs (RD K Hf) its ds → ∃ xs, Vals xs its ∧ IsAll K Hf xs ds
  | _, _, .nil => ⟨[], .nil, .nil⟩
  | _, _, .cons ⟨x, r, i⟩ t => by
    obtain ⟨xs, a, b⟩ := rd_back t
    exact ⟨x :: xs, .cons r a, .cons i b⟩
def rSortG (K : PySem.W.Frag) : List V → Hp → VK → Prop := fun vs H Q => ∃ (a : Addr) (xs : List V) (ds : List PyData) (Hf : Hp), vs = [V.ref a] ∧ SqL K H a xs ∧ IsAll K Hf xs ds ∧ (2 ≤ ds.length → DpAll K H xs ds) ∧ sortOk ds = true ∧
  ∀ (xs' : List V) (p : Addr), IsAll K Hf xs' (sortD ds) → H p = none → Q (.ref p) (upd H p (.lst xs'))
theorem perm_small {α : Type} {a b : List α} (p : a.Perm b) (h : b.length ≤ 1) : a = b := by
  match b, h with
  | [], _ => exact List.perm_nil.mp p
  | [x], _ => exact List.perm_singleton.mp p
  | _ :: _ :: _, h => simp at h
theorem cr_sortG {X : Cx} (hu : X.A.units + 65 < cLine) : CallR X (.builtin "sorted") (rSortG X.K) := by
  intro pins s σ H vs us Q I r h
  obtain ⟨a, xs, ds, Hf, rfl, hs, ia, dp, ok, q⟩ := h
  obtain ⟨its, rv, hl, hz⟩ := I.list hs
  rw [Vals.ref1 r]
  have hlen : ds.length = its.length := ia.length.symm.trans rv.length
  have fin : ∀ out : List Value, EachIs (RD X.K Hf) out (sortD ds) → EP X pins σ Q (.ref (s.heap.objs.size + 1)) { s with heap := PyProof.Rows.sortedAll s.heap its out.toArray } := fun out eo => by
    obtain ⟨xs', v', i'⟩ := rd_back eo
    obtain ⟨ep, he'⟩ := PyProof.Rows.sortedAll_at s.heap its out.toArray
    have hlen' : xs'.length ≤ sizeLine := by rw [i'.length, sortD_len, hlen, ← rv.length]; exact hz
    exact ⟨.ref _, upd H (s.heap.objs.size + 1) (.lst xs'), I.laid (t' := s.toks) (fun _ _ => PyProof.Rows.sortedAll_old) (Nat.le_succ _) ⟨hlen', out, ep, v', he'⟩, rfl, q _ _ i' (I.hok.fresh (Nat.le_succ _))⟩
  by_cases h2 : 2 ≤ ds.length
  · obtain ⟨k1, k2, k3, k4⟩ := sortOk_iff ok h2
    obtain ⟨as, h4⟩ := Dp.readsAll I ds xs its (dp h2) rv
    have er : EachIs (fun v b => ∃ as, Reads s.heap v (id b) as) its ds := PySem.W.readsAll_each (enc := id) (by rw [List.map_id]; exact h4)
    have hL : ds.length ≤ sizeLine := by rw [hlen, ← rv.length]; exact hz
    have hD : ∀ b, b ∈ ds → X.A.units + 2 + (id b : PyData).depth < cLine := fun b hb => by
      have := k3 b hb
      show X.A.units + 2 + b.depth < cLine
      omega
    exact PySem.W.sorted_data (enc := id) (R := RD X.K Hf) hl.isList (rd_of rv ia) er k1 k2 hL hD fun out _ eo => fin out eo
  · refine SrtO.sorted_ord SrtO.swo_int hl.isList (by rw [← rv.length]; exact hz) (fun h2' => absurd (show 2 ≤ ds.length by rw [hlen]; exact h2') h2) fun out h1 h2' => ?_
    have e : out = its := perm_small h2'.perm (by omega)
    subst e
    refine fin out ?_
    rw [sortD_small (by omega)]
    exact rd_of rv ia
section
variable {c : Cc} {m : List Md} {a : Expr} {da : DE} {pos p : Pos}
theorem cal_sortG {K : PySem.W.Frag} {g : Gx} : CalO K g (rSortG K) fSortG := by
  intro B H x dx d Q hn hg hx e k
  unfold fSortG at e
  split at e
  · rename_i ds
    split at e
    · rename_i ok
      cases e
      obtain ⟨p, vs, rfl, h1, s1, z1⟩ := hx.lst hg
      refine ⟨p, vs, ds, Fz B H, rfl, .inl (.inl (s1 H (Evo.refl _ _))), h1, fun h2 => ?_, ok, fun xs' l i hl => ?_⟩
      · have sh := (sortOk_iff ok h2).2.2.2
        exact (h1.mono fz_le).dp (by have := SeqAt.canLay_of_shaped sh; simpa [PyData.canLay0] using this)
      · exact k _ _ (Ex.new hl) hl (top_newL hl (by rw [i.length, sortD_len, ← h1.length]; exact z1) i)
    · cases e
  · cases e
theorem CalO.or {K : PySem.W.Frag} {g : Gx} {r1 r2 : List V → Hp → VK → Prop} {F1 F2 F : PyData → Option PyData} (h1 : CalO K g r1 F1) (h2 : CalO K g r2 F2) (h : ∀ x d, F x = some d → F1 x = some d ∨ F2 x = some d) : CalO K g (fun xs H Q => r1 xs H Q ∨ r2 xs H Q) F := fun B H x dx d Q hn hg hx e k => by
  rcases h dx d e with e | e
  · exact .inl (h1 B H x dx d Q hn hg hx e k)
  · exact .inr (h2 B H x dx d Q hn hg hx e k)
theorem eo_sort (hu : c.X.A.units + 65 < cLine) (hg : Gl c.X "sorted") (hm : c.X.mg "sorted" = none) (ha : EB c m a da) (hs : Pl a := by intro _ _; rfl) : EO c m (.Call (.Name "sorted" p) [a] [] pos) (d1 fSort da) :=
  eo_callB (CallR.or cr_sortedI (cr_sortG hu)) (CalO.or cal_sortI cal_sortG fun _ _ => fSort_or) hg hm PyProof.Rows.boot_sorted ha hs
end
end PD
/-! PDtd: dicts with keys that are whole numbers or texts. -/
namespace PD
open PySem PySem.Spec PyProof.Rows L2
def keyO : PyData → Option Key | .int i => some (.inl i) | .str z => some (.inr z) | _ => none
def sameK (k : Key) (d : PyData) : Bool := decide (keyO d = some k)
def getK (ds : List (PyData × PyData)) (k : Key) : Option PyData := (ds.find? fun p => sameK k p.1).map (·.2)
def putD (ds : List (PyData × PyData)) (k : Key) (v : PyData) : List (PyData × PyData) := if (ds.any fun p => sameK k p.1) = true then ds.map (fun p => if sameK k p.1 = true then (p.1, v) else p) else ds ++ [(keyD k, v)]
def keysK (ds : List (PyData × PyData)) : Bool := ds.all fun p => (keyO p.1).isSome
theorem keyO_D (k : Key) : keyO (keyD k) = some k := by cases k <;> rfl
theorem sameK_D (k j : Key) : sameK k (keyD j) = decide (j = k) := by
  unfold sameK
  rw [keyO_D]
  simp
theorem keyO_eq {d : PyData} {k : Key} (h : keyO d = some k) : d = keyD k := by
  cases d <;> cases h <;> rfl
theorem is_key {K : PySem.W.Frag} {H : Hp} {v : V} {k : Key} (h : Is K H v (keyD k)) : v = kV k := by
  cases k <;> cases h <;> rfl
inductive KR (K : PySem.W.Frag) (H : Hp) : List (Key × V) → List (PyData × PyData) → Prop
  | nil : KR K H [] []
  | cons {k : Key} {v : V} {d : PyData} {ks : List (Key × V)} {ds : List (PyData × PyData)} : Is K H v d → KR K H ks ds → KR K H ((k, v) :: ks) ((keyD k, d) :: ds)
section
variable {K : PySem.W.Frag} {H H' : Hp} {g : Gx} {B : List Addr}
theorem KR.of : ∀ {ks : List (Key × V)} {ds : List (PyData × PyData)}, ds.map (·.1) = ks.map (fun p => keyD p.1) → IsAll K H (ks.map (·.2)) (ds.map (·.2)) → KR K H ks ds
  | [], [], _, _ => .nil
  | [], _ :: _, e, _ => by simp at e
  | _ :: _, [], e, _ => by simp at e
  | (k, v) :: ks, (a, d) :: ds, e, h => by
    simp only [List.map_cons, List.cons.injEq] at e
    obtain ⟨rfl, e⟩ := e
    cases h with
    | cons h1 h2 => exact .cons h1 (KR.of e h2)
theorem KR.back : ∀ {ks : List (Key × V)} {ds : List (PyData × PyData)}, KR K H ks ds → ds.map (·.1) = ks.map (fun p => keyD p.1) ∧ IsAll K H (ks.map (·.2)) (ds.map (·.2))
  | _, _, .nil => ⟨rfl, .nil⟩
  | _, _, .cons h t => ⟨by rw [List.map_cons, List.map_cons, t.back.1], .cons h t.back.2⟩
theorem KR.mono (e : Ex H H') : ∀ {ks : List (Key × V)} {ds : List (PyData × PyData)}, KR K H ks ds → KR K H' ks ds
  | _, _, .nil => .nil
  | _, _, .cons h t => .cons (h.mono e) (t.mono e)
theorem KR.length : ∀ {ks : List (Key × V)} {ds : List (PyData × PyData)}, KR K H ks ds → ks.length = ds.length
  | _, _, .nil => rfl
  | _, _, .cons _ t => congrArg (· + 1) t.length
theorem KR.get (k : Key) : ∀ {ks : List (Key × V)} {ds : List (PyData × PyData)}, KR K H ks ds → (valV ks k = none ∧ getK ds k = none) ∨ ∃ v d, valV ks k = some v ∧ getK ds k = some d ∧ Is K H v d
  | _, _, .nil => .inl ⟨rfl, rfl⟩
  | _, _, .cons (k := j) h t => by
    by_cases e : j = k
    · refine .inr ⟨_, _, valV_pos e, ?_, h⟩
      unfold getK
      rw [List.find?_cons_of_pos (by rw [sameK_D]; exact decide_eq_true e)]
      rfl
    · rw [valV_neg (p := (j, _)) e]
      have : ∀ d ds, getK ((keyD j, d) :: ds) k = getK ds k := fun d ds => by
        unfold getK
        rw [List.find?_cons_of_neg (by rw [sameK_D]; simpa using e)]
      rw [this]
      exact t.get k
theorem KR.any (k : Key) : ∀ {ks : List (Key × V)} {ds : List (PyData × PyData)}, KR K H ks ds → (ks.any fun kv => decide (kv.1 = k)) = (ds.any fun p => sameK k p.1)
  | _, _, .nil => rfl
  | _, _, .cons h t => by rw [List.any_cons, List.any_cons, t.any k, sameK_D]
theorem KR.rep (k : Key) {w : V} {e : PyData} (hw : Is K H w e) : ∀ {ks : List (Key × V)} {ds : List (PyData × PyData)}, KR K H ks ds → KR K H (ks.map fun kv => if kv.1 = k then (kv.1, w) else kv) (ds.map fun p => if sameK k p.1 = true then (p.1, e) else p)
  | _, _, .nil => .nil
  | _, _, .cons (k := j) h t => by
    rw [List.map_cons, List.map_cons]
    simp only [sameK_D, decide_eq_true_eq]
    by_cases ej : j = k
    · rw [if_pos ej, if_pos ej]; exact .cons hw (t.rep k hw)
    · rw [if_neg ej, if_neg ej]; exact .cons h (t.rep k hw)
theorem KR.snoc {k : Key} {w : V} {e : PyData} (hw : Is K H w e) : ∀ {ks : List (Key × V)} {ds : List (PyData × PyData)}, KR K H ks ds → KR K H (ks ++ [(k, w)]) (ds ++ [(keyD k, e)])
  | _, _, .nil => .cons hw .nil
  | _, _, .cons h t => .cons h (t.snoc hw)
theorem KR.put {k : Key} {w : V} {e : PyData} (hw : Is K H w e) {ks : List (Key × V)} {ds : List (PyData × PyData)} (h : KR K H ks ds) : KR K H (putK ks k w) (putD ds k e) := by
  unfold putK putD
  rw [h.any k]
  split
  · exact h.rep k hw
  · exact h.snoc hw
theorem KR.mem : ∀ {ks : List (Key × V)} {ds : List (PyData × PyData)}, KR K H ks ds → ∀ p ∈ ks, ∃ d, (keyD p.1, d) ∈ ds ∧ Is K H p.2 d
  | _, _, .nil, p, h => by cases h
  | _, _, .cons h t, p, hp => by
    rcases List.mem_cons.mp hp with rfl | hp
    · exact ⟨_, List.mem_cons_self, h⟩
    · obtain ⟨d, h1, h2⟩ := t.mem p hp
      exact ⟨d, List.mem_cons_of_mem _ h1, h2⟩
theorem no_tupK {kvs : List (List Key × V)} {ds : List (PyData × PyData)} (h : ds.map (·.1) = kvs.map (fun p => keyT p.1) ∧ ds ≠ []) (hk : keysK ds = true) : False := by
  obtain ⟨e, hne⟩ := h
  match ds, kvs, e, hne with
  | [], _, _, hne => exact hne rfl
  | d :: ds, [], e, _ => simp at e
  | d :: ds, q :: kvs, e, _ =>
    simp only [List.map_cons, List.cons.injEq] at e
    have := List.all_eq_true.mp hk d List.mem_cons_self
    rw [e.1] at this
    cases this
theorem Rb.dic {v : V} {ds : List (PyData × PyData)} (h : Rb K g B H v (.dict ds)) (hg : ∀ a ∈ g.G, a ∈ B) (hk : keysK ds = true) : ∃ a kvs, v = .ref a ∧ KR K (Fz B H) kvs ds ∧ ∀ H', Evo g.G H H' → H' a = some (.dK kvs) := by
  rcases h with h | ⟨p, rfl, hp, t⟩
  · cases h with
    | dK h k r => exact ⟨_, _, rfl, KR.of k r, fun H' e => fz_evo hg e h⟩
    | dT h k r => exact (no_tupK k hk).elim
  · rcases t with ⟨ds, vs, e, _⟩ | ⟨ds, kvs, e, a, k, b⟩ | ⟨ds, kvs, e, a, k, b⟩ <;> cases e
    · exact ⟨p, kvs, rfl, KR.of k b, fun H' e => e p _ hp a⟩
    · exact (no_tupK k hk).elim
theorem KR.keys : ∀ {ks : List (Key × V)} {ds : List (PyData × PyData)}, KR K H ks ds → keysK ds = true
  | _, _, .nil => rfl
  | _, _, .cons (k := k) h t => by
    unfold keysK
    rw [List.all_cons, keyO_D]
    exact t.keys
theorem top_dK {p : Addr} {kvs : List (Key × V)} {ds : List (PyData × PyData)} (hp : H p = none) (h : KR K (Fz B H) kvs ds) : Top K (p :: B) (upd H p (.dK kvs)) p (.dict ds) :=
  .inr (.inl ⟨ds, kvs, rfl, upd_same, h.back.1, (h.mono fun a o q => by
    have q := fz_some.mp q
    have ne : a ≠ p := ne_of_none q.2 hp
    exact fz_some.mpr ⟨fun z => (List.mem_cons.mp z).elim ne q.1, (Ex.new hp) a o q.2⟩).back.2⟩)
end
/-! d[k], k in d -/
def fIxD : PyData → PyData → Option PyData
  | .dict ds, k => if keysK ds then (keyO k).bind (getK ds) else none
  | _, _ => none
def fIxG (x y : PyData) : Option PyData := orF fIx fIxD x y
def rIxDK : R2 := fun x y H Q => ∃ a v, x = .ref a ∧ DGet H a y (some v) ∧ Q v H
theorem ix_dict {X : Cx} (hu : X.A.units + 1 < cLine) : IxR X rIxDK := by
  intro value slice pins s σ H x y v u Q I rx ry h hs
  obtain ⟨a, r, rfl, gt, q⟩ := h
  obtain rfl : v = Value.ref a := rx
  exact tail_any (dict_typeIs I gt) PySem.F.slot_dict_getitem.lookup (d_getItem hu I gt ry fun w' s' I' rw' => ⟨r, H, I', rw', q⟩) hs
theorem opd_ixD {K : PySem.W.Frag} {g : Gx} : OpD K g rIxDK fIxD := by
  intro B H x y dx dy d Q hn hg hx hy e k
  unfold fIxD at e
  split at e
  · split at e
    · rename_i hk
      obtain ⟨kk, ek, eg⟩ := Option.bind_eq_some_iff.mp e
      obtain rfl := keyO_eq ek
      obtain ⟨a, kvs, rfl, h1, s1⟩ := hx.dic hg hk
      rcases h1.get kk with ⟨_, h⟩ | ⟨v, d', e1, e2, iv⟩
      · rw [h] at eg; cases eg
      · rw [e2] at eg
        cases eg
        have hyk : y = kV kk := by
          rcases hy with hy | ⟨p, rfl, _, t⟩
          · exact is_key hy
          · rcases t with ⟨ds, vs, e, _⟩ | ⟨ds, kvs, e, _⟩ | ⟨ds, kvs, e, _⟩ <;> cases kk <;> cases e
        subst hyk
        refine ⟨a, v, rfl, ?_, k _ _ (Ex.refl _) iv⟩
        have := DGet.k (k := kk) (s1 H (Evo.refl _ _))
        rw [e1] at this
        exact this
    · cases e
  · cases e
def fInDK (neg : Bool) : PyData → PyData → Option PyData
  | k, .dict ds => if keysK ds then (keyO k).map fun kk => .bool (if neg then !(getK ds kk).isSome else (getK ds kk).isSome) else none
  | _, _ => none
def fInG (neg : Bool) (x y : PyData) : Option PyData := orF (fIn neg) (fInDK neg) x y
def rInDK (neg : Bool) : R2 := fun y x H Q => ∃ a o, x = .ref a ∧ DGet H a y o ∧ Q (.bl (if neg then !o.isSome else o.isSome)) H
theorem op_inDK {X : Cx} (hu : X.A.units + 1 < cLine) : OpR X (compareOp .In) (rInDK false) := by
  intro pins s σ H x y v u Q I rx ry h
  obtain ⟨a, o, rfl, gt, q⟩ := h
  obtain rfl : u = Value.ref a := ry
  exact d_in hu I gt rx fun s' I' => ⟨.bl o.isSome, H, I', rfl, q⟩
theorem op_notInDK {X : Cx} (hu : X.A.units + 1 < cLine) : OpR X (compareOp .NotIn) (rInDK true) := by
  intro pins s σ H x y v u Q I rx ry h
  obtain ⟨a, o, rfl, gt, q⟩ := h
  obtain rfl : u = Value.ref a := ry
  exact d_notIn hu I gt rx fun s' I' => ⟨.bl (!o.isSome), H, I', rfl, q⟩
theorem rb_key {K : PySem.W.Frag} {g : Gx} {B : List Addr} {H : Hp} {y : V} {kk : Key} (hy : Rb K g B H y (keyD kk)) : y = kV kk := by
  rcases hy with hy | ⟨p, rfl, _, t⟩
  · exact is_key hy
  · rcases t with ⟨ds, vs, e, _⟩ | ⟨ds, kvs, e, _⟩ | ⟨ds, kvs, e, _⟩ <;> cases kk <;> cases e
theorem opd_inDK {K : PySem.W.Frag} {g : Gx} (neg : Bool) : OpD K g (rInDK neg) (fInDK neg) := by
  intro B H x y dx dy d Q hn hg hx hy e k
  unfold fInDK at e
  split at e
  · split at e
    · rename_i ds hk
      obtain ⟨kk, ek, eg⟩ := Option.map_eq_some_iff.mp e
      obtain rfl := keyO_eq ek
      obtain ⟨a, kvs, rfl, h1, s1⟩ := hy.dic hg hk
      obtain rfl := rb_key hx
      refine ⟨a, valV kvs kk, rfl, DGet.k (s1 H (Evo.refl _ _)), ?_⟩
      have es : (valV kvs kk).isSome = (getK ds kk).isSome := by
        rcases h1.get kk with ⟨e1, e2⟩ | ⟨v, d', e1, e2, iv⟩
        · rw [e1, e2]; rfl
        · rw [e1, e2]; rfl
      rw [es]
      subst eg
      exact k _ _ (Ex.refl _) (.bl _)
    · cases e
  · cases e
/-! dicts that are the same -/
def flatS : PyData → PyData → Bool
  | .none, .none => true
  | .bool a, .bool b => decide (a = b)
  | .int a, .int b => decide (a = b)
  | .str a, .str b => decide (a = b)
  | _, _ => false
theorem flatS_eq {d e : PyData} (h : flatS d e = true) : d = e := by
  unfold flatS at h
  split at h <;> first | rfl | (have := of_decide_eq_true h; subst this; rfl) | cases h
theorem flatS_is {K : PySem.W.Frag} {H H' : Hp} {d e : PyData} {v w : V} (h : flatS d e = true) (hv : Is K H v d) (hw : Is K H' w e) : w = v ∧ flatB v = true := by
  obtain rfl := flatS_eq h
  unfold flatS at h
  split at h
  · cases hv; cases hw; exact ⟨rfl, rfl⟩
  · cases hv; cases hw; exact ⟨rfl, rfl⟩
  · cases hv; cases hw; exact ⟨rfl, rfl⟩
  · cases hv; cases hw; exact ⟨rfl, rfl⟩
  · cases h
def sameD (ds es : List (PyData × PyData)) : Bool := keysK ds && keysK es && decide (ds.length = es.length) && ds.all fun p => match keyO p.1 with | some k => (match getK es k with | some v => flatS p.2 v | none => false) | none => false
def fEqDK (b : Bool) : PyData → PyData → Option PyData
  | .dict ds, .dict es => if sameD ds es then some (.bool b) else none
  | _, _ => none
def fEqG (x y : PyData) : Option PyData := orF fEq (fEqDK true) x y
def fNeG (x y : PyData) : Option PyData := orF fNe (fEqDK false) x y
theorem sameD_ok {K : PySem.W.Frag} {g : Gx} {B : List Addr} {H : Hp} {x y : V} {ds es : List (PyData × PyData)} (hg : ∀ a ∈ g.G, a ∈ B) (hx : Rb K g B H x (.dict ds)) (hy : Rb K g B H y (.dict es)) (h : sameD ds es = true) :
    ∃ a b ks ls, x = .ref a ∧ y = .ref b ∧ H a = some (.dK ks) ∧ H b = some (.dK ls) ∧ ks.length = ls.length ∧ ∀ p ∈ ks, valV ls p.1 = some p.2 ∧ flatB p.2 = true := by
  unfold sameD at h
  obtain ⟨h, k4⟩ := Bool.and_eq_true_iff.mp h
  obtain ⟨h, k3⟩ := Bool.and_eq_true_iff.mp h
  obtain ⟨k1, k2⟩ := Bool.and_eq_true_iff.mp h
  obtain ⟨a, ks, rfl, r1, s1⟩ := hx.dic hg k1
  obtain ⟨b, ls, rfl, r2, s2⟩ := hy.dic hg k2
  refine ⟨a, b, ks, ls, rfl, rfl, s1 H (Evo.refl _ _), s2 H (Evo.refl _ _), by rw [r1.length, r2.length]; exact of_decide_eq_true k3, fun p hp => ?_⟩
  obtain ⟨d, hd, iv⟩ := r1.mem p hp
  have q := List.all_eq_true.mp k4 _ hd
  simp only [keyO_D] at q
  rcases r2.get p.1 with ⟨_, e2⟩ | ⟨v, d', e1, e2, iv'⟩
  · rw [e2] at q; cases q
  · rw [e2] at q
    obtain ⟨e, f⟩ := flatS_is q iv iv'
    exact ⟨by rw [e1, e], f⟩
theorem opd_eqDA {K : PySem.W.Frag} {g : Gx} : OpD K g rEqDA (fEqDK true) := by
  intro B H x y dx dy d Q hn hg hx hy e k
  unfold fEqDK at e
  split at e
  · split at e
    · rename_i hs
      cases e
      obtain ⟨a, b, ks, ls, e1, e2, h1, h2, hl, hp⟩ := sameD_ok hg hx hy hs
      exact ⟨a, b, ks, ls, e1, e2, h1, h2, hl, hp, k _ _ (Ex.refl _) (.bl _)⟩
    · cases e
  · cases e
theorem opd_neDA {K : PySem.W.Frag} {g : Gx} : OpD K g rNeDA (fEqDK false) := by
  intro B H x y dx dy d Q hn hg hx hy e k
  unfold fEqDK at e
  split at e
  · split at e
    · rename_i hs
      cases e
      obtain ⟨a, b, ks, ls, e1, e2, h1, h2, hl, hp⟩ := sameD_ok hg hx hy hs
      exact ⟨a, b, ks, ls, e1, e2, h1, h2, hl, hp, k _ _ (Ex.refl _) (.bl _)⟩
    · cases e
  · cases e
section
variable {c : Cc} {m : List Md} {a b : Expr} {da db : DE} {pos p : Pos}
theorem ev_ixG (h : Ux c) (ha : EB c m a da) (hb : EB c m b db) (hs : PlainIx b) : EV c m (.Subscript a b pos) (d2 fIxG da db) := fun σ H ρ S B0 B ow Q fr gi g =>
  WE.of (pe_ix (ix_seq.or (ix_dict (by have := h.u65; omega))) we we hs) (two_read (OpD.or opd_ix opd_ixD orF_or) ha hb fr gi g)
theorem rel_inG (h : Ux c) : Rel c .In (fInG false) := ⟨_, OpR.or (OpR.or op_in_seq (OpR.or (op_inS h.u65) op_in_sign)) (op_inDK (by have := h.u65; omega)), OpD.or (opd_in false) (opd_inDK false) orF_or⟩
theorem rel_notInG (h : Ux c) : Rel c .NotIn (fInG true) := ⟨_, OpR.or (OpR.or op_notIn_seq (OpR.or (op_notInS h.u65) op_notIn_sign)) (op_notInDK (by have := h.u65; omega)), OpD.or (opd_in true) (opd_inDK true) orF_or⟩
theorem rel_eqG (h : Ux c) : Rel c .Eq fEqG := ⟨_, OpR.or (OpR.or op_eq (op_eqD h.u64)) (op_eq_dictA h.u), OpD.or (OpD.or opd_eqS opd_eqD orF_or) opd_eqDA orF_or⟩
theorem rel_neG (h : Ux c) : Rel c .NotEq fNeG := ⟨_, OpR.or (OpR.or op_ne (op_neD h.u64)) (op_ne_dictA h.u), OpD.or (OpD.or opd_neS opd_neD orF_or) opd_neDA orF_or⟩
end
end PD
/-! PDte: dict(pairs), sorted(d), d[k] = v. -/
namespace PD
open PySem PySem.Spec PyProof.Rows L2
def pairsOf : List PyData → Option (List (Key × PyData))
  | [] => some []
  | .tuple [k, v] :: r => (keyO k).bind fun kk => (pairsOf r).map fun ps => (kk, v) :: ps
  | _ :: _ => none
def mergeD (ps : List (Key × PyData)) : List (PyData × PyData) := ps.foldl (fun acc kv => putD acc kv.1 kv.2) []
def fDict : PyData → Option PyData | .list ds => (pairsOf ds).map fun ps => .dict (mergeD ps) | _ => none
section
variable {K : PySem.W.Frag} {H H' : Hp} {g : Gx} {B : List Addr}
theorem pairs_is : ∀ {vs : List V} {ds : List PyData} {ps : List (Key × PyData)}, IsAll K H vs ds → pairsOf ds = some ps → ∃ (as : List Addr) (kvs : List (Key × V)), vs = as.map V.ref ∧ Paired (fun p kv => SqT K H p [kV kv.1, kv.2]) as kvs ∧ Paired (fun (kv : Key × V) (q : Key × PyData) => kv.1 = q.1 ∧ Is K H kv.2 q.2) kvs ps
  | _, _, ps, .nil, h => by cases h; exact ⟨[], [], rfl, .nil, .nil⟩
  | _, _, ps, .cons (d := d) (ds := r) h t, e => by
    unfold pairsOf at e
    split at e
    · rename_i heq; cases heq
    · rename_i k v r' heq
      cases heq
      obtain ⟨kk, ek, e⟩ := Option.bind_eq_some_iff.mp e
      obtain ⟨ps', ep, rfl⟩ := Option.map_eq_some_iff.mp e
      obtain rfl := keyO_eq ek
      obtain ⟨as, kvs, rfl, p1, p2⟩ := pairs_is t ep
      cases h with
      | tup sq z ia =>
        obtain ⟨v1, v2, rfl, i1, i2⟩ := ia.two
        obtain rfl := is_key i1
        exact ⟨_ :: as, (kk, v2) :: kvs, rfl, .cons sq p1, .cons ⟨rfl, i2⟩ p2⟩
    · cases e
theorem merge_kr : ∀ {kvs : List (Key × V)} {ps : List (Key × PyData)} {ks : List (Key × V)} {ds : List (PyData × PyData)}, Paired (fun (kv : Key × V) (q : Key × PyData) => kv.1 = q.1 ∧ Is K H kv.2 q.2) kvs ps → KR K H ks ds → KR K H (mergeK ks kvs) (ps.foldl (fun acc kv => putD acc kv.1 kv.2) ds)
  | _, _, ks, ds, .nil, h => h
  | _, _, ks, ds, .cons (a := kv) (b := q) ⟨e, i⟩ t, h => by
    have h2 := KR.put (k := q.1) i h
    rw [← e] at h2
    have := merge_kr t h2
    rw [e] at this
    show KR K H (mergeK (putK ks kv.1 kv.2) _) _
    rw [e]
    exact this
def rDictP (K : PySem.W.Frag) : List V → Hp → VK → Prop := fun xs H Q => ∃ (a : Addr) (ps : List Addr) (kvs : List (Key × V)), xs = [.ref a] ∧ SqL K H a (ps.map V.ref) ∧ Paired (fun p kv => SqT K H p [kV kv.1, kv.2]) ps kvs ∧
    ∀ p, H p = none → Q (.ref p) (upd H p (.dK (mergeK [] kvs)))
theorem cal_dict : CalO K g (rDictP K) fDict := by
  intro B H x dx d Q hn hg hx e k
  unfold fDict at e
  split at e
  · rename_i ds
    obtain ⟨ps, ep, rfl⟩ := Option.map_eq_some_iff.mp e
    obtain ⟨a, vs, rfl, h1, s1, z1⟩ := hx.lst hg
    obtain ⟨as, kvs, rfl, p1, p2⟩ := pairs_is h1 ep
    refine ⟨a, as, kvs, rfl, .inl (.inl (s1 H (Evo.refl _ _))), Paired.imp p1 fun p kv h => fz_le.t h, fun p hp => ?_⟩
    exact k _ _ (Ex.new hp) hp (top_dK hp (merge_kr p2 .nil))
  · cases e
/-! sorted(d) -/
def intK : List (PyData × PyData) → Option (List Int) := fun ds => intsOf (ds.map (·.1))
def fSortDI : PyData → Option PyData | .dict ds => (intK ds).bind fun ns => if decide (ns.length < 64) then some (.list ((sortI ns).map .int)) else none | _ => none
def fSortX (x : PyData) : Option PyData := match fSort x with | some d => some d | none => fSortDI x
theorem fSortX_or {x d : PyData} (h : fSortX x = some d) : fSort x = some d ∨ fSortDI x = some d := by
  unfold fSortX at h
  split at h
  · rename_i e; cases h; exact .inl e
  · exact .inr h
def rSortDI : List V → Hp → VK → Prop := fun xs H Q => ∃ (a : Addr) (kvs : List (Key × V)) (ks : List Int), xs = [.ref a] ∧ Rd H a (.dK kvs) ∧ kvs.map (·.1) = ks.map Sum.inl ∧ ks.length < 64 ∧
    ∀ (ys : List Int) (p : Addr), ys.Perm ks → ys.Pairwise (· ≤ ·) → H p = none → Q (.ref p) (upd H p (.lst (ys.map V.int)))
theorem ints_keys : ∀ {ds : List (PyData × PyData)} {ns : List Int}, intK ds = some ns → keysK ds = true ∧ ∀ {kvs : List (Key × V)}, KR K H kvs ds → kvs.map (·.1) = ns.map Sum.inl := by
  intro ds ns h
  have e : ds.map (·.1) = ns.map .int := intsOf_eq h
  constructor
  · unfold keysK
    rw [List.all_eq_true]
    intro p hp
    have : p.1 ∈ ns.map PyData.int := by rw [← e]; exact List.mem_map.mpr ⟨p, hp, rfl⟩
    obtain ⟨i, _, hi⟩ := List.mem_map.mp this
    rw [← hi]
    rfl
  · intro kvs r
    have e2 := r.back.1
    rw [e] at e2
    clear h e r
    induction ns generalizing kvs with
    | nil => cases kvs with | nil => rfl | cons a t => simp at e2
    | cons n ns ih =>
      cases kvs with
      | nil => simp at e2
      | cons a t =>
        simp only [List.map_cons, List.cons.injEq] at e2
        rw [List.map_cons, List.map_cons, ih e2.2]
        congr 1
        obtain ⟨k, v⟩ := a
        cases k with
        | inl i => have q := e2.1; cases q; rfl
        | inr z => have q := e2.1; cases q
theorem cal_sortDI : CalO K g rSortDI fSortDI := by
  intro B H x dx d Q hn hg hx e k
  unfold fSortDI at e
  split at e
  · rename_i ds
    obtain ⟨ns, en, e⟩ := Option.bind_eq_some_iff.mp e
    split at e
    · rename_i hl
      cases e
      obtain ⟨hk, hks⟩ := ints_keys (K := K) (H := Fz B H) en
      obtain ⟨a, kvs, rfl, r, s1⟩ := hx.dic hg hk
      have hl := of_decide_eq_true hl
      refine ⟨a, kvs, ns, rfl, .inl (s1 H (Evo.refl _ _)), hks r, hl, fun ys p hp hs hl' => ?_⟩
      rw [sortI_eq hp hs]
      exact k _ _ (Ex.new hl') hl' (top_newL hl' (by rw [List.length_map, (sortI_perm ns).length_eq, sizeLine_eq]; omega) IsAll.of_ints)
    · cases e
  · cases e
/-! d[k] = v -/
theorem top_dic {p : Addr} {ds : List (PyData × PyData)} (t : Top K B H p (.dict ds)) (hk : keysK ds = true) : ∃ kvs, H p = some (.dK kvs) ∧ KR K (Fz B H) kvs ds := by
  rcases t with ⟨ds, vs, e, _⟩ | ⟨ds, kvs, e, a, k, b⟩ | ⟨ds, kvs, e, a, k, b⟩ <;> cases e
  · exact ⟨kvs, a, KR.of k b⟩
  · exact (no_tupK k hk).elim
theorem top_updD {p : Addr} {kvs : List (Key × V)} {ds : List (PyData × PyData)} (hp : p ∈ B) (h : KR K (Fz B H) kvs ds) : Top K B (upd H p (.dK kvs)) p (.dict ds) :=
  .inr (.inl ⟨ds, kvs, rfl, upd_same, h.back.1, by rw [fz_upd hp]; exact h.back.2⟩)
theorem dK_code {D : Addr} {kvs : List (Key × V)} (h : H D = some (.dK kvs)) (q : Str) : H D ≠ some (LamX.CodeO D q) := fun z => by
  rw [h] at z
  unfold LamX.CodeO at z
  cases z
end
def onDic (ρ : Env) (i : Nat) (k : List (PyData × PyData) → RS) : RS := match ρ.getD i none with | some (.dict xs) => k xs | _ => .bad
def fPutD (ds : List (PyData × PyData)) (k d : PyData) : Option PyData := if keysK ds && decide (ds.length < sizeLine) then (keyO k).map fun kk => .dict (putD ds kk d) else none
def dSetD (i : Nat) (k a : DE) : DS := fun ρ S => onDic ρ i fun xs => (a ρ S).st ρ fun d S1 => (k ρ S1).st ρ fun j S2 => putO ρ i (fPutD xs j d) S2
section
variable {c : Cc} {m : List Md} {a b : Expr} {da db : DE} {pos p : Pos}
theorem eo_dict (hc : c.X.calm = true) (hg : Gl c.X "dict") (hm : c.X.mg "dict" = none) (ha : EB c m a da) (hs : Pl a := by intro _ _; rfl) : EO c m (.Call (.Name "dict" p) [a] [] pos) (d1 fDict da) := eo_callT (call_dictP hc) cal_dict hg hm (by rfl) ha hs
theorem eo_sortX (hc : c.X.calm = true) (hu : c.X.A.units + 65 < cLine) (hg : Gl c.X "sorted") (hm : c.X.mg "sorted" = none) (ha : EB c m a da) (hs : Pl a := by intro _ _; rfl) : EO c m (.Call (.Name "sorted" p) [a] [] pos) (d1 fSortX da) :=
  eo_callB (CallR.or (CallR.or cr_sortedI (cr_sortG hu)) (call_sortedDI hc)) (CalO.or (CalO.or cal_sortI cal_sortG fun _ _ => fSort_or) cal_sortDI fun _ _ => fSortX_or) hg hm PyProof.Rows.boot_sorted ha hs
end
section
variable {c : Cc} {x : Fx} {m m' m1 m2 : List Md} {He : Hp} {B0 B : List Addr} {ow : Addr → Nat} {ρ : Env} {σ : L2.St} {H : Hp} {S : Store} {D : Ends}
theorem on_dic {i : Nat} {d0 : PyData} {k : List (PyData × PyData) → RS} (e0 : ρ.getD i none = some d0) (w : Wants c x He B0 B H m' (onDic ρ i k) D) : ∃ xs, d0 = .dict xs ∧ Wants c x He B0 B H m' (k xs) D := by
  unfold onDic at w
  rw [e0] at w
  cases d0 with
  | dict xs => exact ⟨xs, rfl, w⟩
  | _ => exact absurd rfl w.nb
theorem putK_len (kvs : List (Key × V)) (k : Key) (v : V) : (putK kvs k v).length ≤ kvs.length + 1 := by
  unfold putK
  split
  · rw [List.length_map]; omega
  · rw [List.length_append]; exact Nat.le_refl _
theorem sv_setD {i : Nat} {e k : Expr} {a dk : DE} {y : Str} {p1 p2 pos : Pos} (hu : c.X.A.units + 65 < cLine) (hm : m[i]? = some .own) (ha : EV c m e a) (hk : EV c m k dk) (hp : PE c.X (.Name y p1) (tVar i))
    (hq : ∀ te g, PE c.X e te → PG c.X (.Subscript (.Name y p1) k p2) g → PS c.X (.Assign [.Subscript (.Name y p1) k p2] e pos) (tAsg te g)) (hps : PlainSub c.X (.Name y p1) k p2 := by intro _; rfl) (hx : WkX m x.mx = true := by rfl) :
    SV c x m m (.Assign [.Subscript (.Name y p1) k p2] e pos) (dSetD i dk a) := by
  intro He B0 B ow ρ σ H S D i1 w
  refine WS.of (hq _ _ we (pg_sub hp we (set_dict (by omega)) hps)) ?_
  obtain ⟨d0, p, e0, hv, hv', hw', t⟩ := own_read i1 hm
  obtain ⟨ds, rfl, w⟩ := on_dic e0 w
  have pG : p ∉ c.g.G := fun z => hw'.2.1 (i1.fr.gsub p z)
  refine ha σ H ρ S B0 B ow _ i1.fr i1.gi (goalS i1 hx w fun d S1 v H1 e ev i2 w2 gd => ?_)
  refine ⟨.ref p, hv, ?_⟩
  refine hk σ H1 ρ S1 B0 B ow _ i2.fr i2.gi (goalS i2 hx w2 fun d2 S2 v2 H2 e2 ev2 i3 w3 gd2 => ?_)
  unfold putO fPutD at w3
  by_cases hc : (keysK ds && decide (ds.length < sizeLine)) = true
  · obtain ⟨hk1, hl⟩ := Bool.and_eq_true_iff.mp hc
    have hl := of_decide_eq_true hl
    obtain ⟨kvs, h0, r⟩ := top_dic t hk1
    have h2 : H2 p = some (.dK kvs) := ev2 p _ pG (ev p _ pG h0)
    rw [if_pos hc] at w3
    cases ek : keyO d2 with
    | none => rw [ek] at w3; exact absurd rfl w3.nb
    | some kk =>
      rw [ek] at w3
      obtain rfl := keyO_eq ek
      obtain rfl := is_key gd2
      have r2 : KR c.X.K (Fz B H2) (putK kvs kk v) (putD ds kk d) := KR.put (gd.mono (ev2.fz i2.gi.sub)) ((r.mono (ev.fz i1.gi.sub)).mono (ev2.fz i2.gi.sub))
      obtain ⟨i4, ex⟩ := i3.write hm hv' hw' (dK_code h2) (top_updD (kvs := putK kvs kk v) (ds := putD ds kk d) hw'.1 r2)
      exact ⟨p, _, rfl, DPut.k h2 (by rw [r.length]; exact hl), w3.nx _ _ rfl σ _ B ow i4 ex⟩
  · rw [if_neg hc] at w3
    exact absurd rfl w3.nb
end
end PD
/-! PDtf: sum, max, min. -/
namespace PD
open PySem PySem.Spec PyProof.Rows L2
open PySem.W (alike dataLt AlikeAll minD maxD)
def noneB : PyData → Bool | .none => true | _ => false
def okMM (ds : List PyData) : Bool := ds.all (fun d => ds.all fun e => alike d e) && ds.all (fun d => !noneB d) && decide (PyData.depthAll ds ≤ 60) && SeqAt.shaped (.list ds)
def fMM (f : PyData → List PyData → PyData) : PyData → Option PyData
  | .list (d :: ds) => if okMM (d :: ds) then some (f d ds) else none
  | .tuple (d :: ds) => if okMM (d :: ds) then some (f d ds) else none
  | _ => none
theorem okMM_iff {ds : List PyData} (h : okMM ds = true) : AlikeAll ds ∧ PyData.depthAll ds ≤ 60 ∧ SeqAt.shaped (.list ds) = true := by
  unfold okMM at h
  obtain ⟨h, h4⟩ := Bool.and_eq_true_iff.mp h
  obtain ⟨h, h3⟩ := Bool.and_eq_true_iff.mp h
  obtain ⟨h1, h2⟩ := Bool.and_eq_true_iff.mp h
  refine ⟨⟨fun d hd e he => List.all_eq_true.mp (List.all_eq_true.mp h1 d hd) e he, fun d hd e => ?_⟩, of_decide_eq_true h3, h4⟩
  have := List.all_eq_true.mp h2 d hd
  rw [e] at this
  cases this
theorem fold_mem {f : PyData → PyData → PyData} (hf : ∀ a b, f a b = a ∨ f a b = b) : ∀ (xs : List PyData) (x : PyData), xs.foldl f x ∈ x :: xs
  | [], x => List.mem_cons_self
  | y :: xs, x => by
    rw [List.foldl_cons]
    rcases List.mem_cons.mp (fold_mem hf xs (f x y)) with e | h
    · rw [e]
      rcases hf x y with e | e
      · rw [e]; exact List.mem_cons_self
      · rw [e]; exact List.mem_cons_of_mem _ List.mem_cons_self
    · exact List.mem_cons_of_mem _ (List.mem_cons_of_mem _ h)
theorem minD_mem (x : PyData) (xs : List PyData) : minD x xs ∈ x :: xs := fold_mem (fun a b => by split <;> simp) xs x
theorem maxD_mem (x : PyData) (xs : List PyData) : maxD x xs ∈ x :: xs := fold_mem (fun a b => by split <;> simp) xs x
def rMM (f : PyData → List PyData → PyData) (K : PySem.W.Frag) : List V → Hp → VK → Prop := fun vs H Q => ∃ (a : Addr) (xs : List V) (d : PyData) (ds : List PyData) (Hf : Hp), vs = [V.ref a] ∧ (SqL K H a xs ∨ SqT K H a xs) ∧ IsAll K Hf xs (d :: ds) ∧ DpAll K H xs (d :: ds) ∧ okMM (d :: ds) = true ∧
  ∀ x, Is K Hf x (f d ds) → Q x H
theorem reads_at : ∀ {h : Heap} {us : List Value} {ds : List PyData} {as : List Addr}, ReadsAll h us ds as → ∀ {i : Nat} {u : Value}, us[i]? = some u → ∃ d bs, ds[i]? = some d ∧ Reads h u d bs
  | _, _, _, _, .nil, i, u, e => by simp at e
  | _, _, _, _, .cons r rs, 0, u, e => by
    simp at e
    subst e
    exact ⟨_, _, rfl, r⟩
  | _, _, _, _, .cons r rs, i + 1, u, e => by
    obtain ⟨d, bs, h1, h2⟩ := reads_at rs (i := i) (by simpa using e)
    exact ⟨d, bs, by simpa using h1, h2⟩
theorem vals_at : ∀ {xs : List V} {us : List Value}, Vals xs us → ∀ {i : Nat} {u : Value}, us[i]? = some u → ∃ x, xs[i]? = some x ∧ RelV x u
  | _, _, .nil, i, u, e => by simp at e
  | _, _, .cons r rs, 0, u, e => by
    simp at e
    subst e
    exact ⟨_, rfl, r⟩
  | _, _, .cons r rs, i + 1, u, e => by
    obtain ⟨x, h1, h2⟩ := vals_at rs (i := i) (by simpa using e)
    exact ⟨x, by simpa using h1, h2⟩
theorem mm_end {X : Cx} {pins : List (Addr × Obj)} {s : Shared} {σ : L2.St} {H Hf : Hp} {Q : VK} {xs : List V} {its : List Value} {d : PyData} {ds : List PyData} {as bs : List Addr} {f : PyData → List PyData → PyData} {i : Nat} {v : Value} {h' : Heap} {tk : Nat} (I : Inv X pins σ H s) (hf : f d ds ∈ d :: ds) (ok : okMM (d :: ds) = true) (rv : Vals xs its) (ia : IsAll X.K Hf xs (d :: ds)) (hr : ReadsAll s.heap its (d :: ds) as)
    (hv : its.toArray[i]? = some v) (h1 : Reads h' v (f d ds) bs) (hk : ∀ b o, s.heap.get? b = some o → h'.get? b = some o) (q : ∀ x, Is X.K Hf x (f d ds) → Q x H) : EP X pins σ Q v { s with heap := h', toks := tk } := by
  have hv' : its[i]? = some v := by simpa using hv
  obtain ⟨x, hx, rx⟩ := vals_at rv hv'
  obtain ⟨e, cs, he, re⟩ := reads_at hr hv'
  obtain ⟨w, hw, iw⟩ := ia.get he
  rw [hx] at hw
  cases hw
  have hm := (okMM_iff ok).1.1 e (List.mem_of_getElem? he) _ hf
  have ee : e = f d ds := PySem.W.alike_unique (h := h') e _ v _ _ hm (PyProof.Rows.Reads.keeps hk re) h1
  exact ⟨x, H, I.kept hk, rx, q x (ee ▸ iw)⟩
theorem cr_minD {X : Cx} (hc : X.calm = true) (hu : X.A.units + 65 < cLine) : CallR X (.builtin "min") (rMM minD X.K) := by
  intro pins s σ H vs us Q I r h
  obtain ⟨a, xs, d, ds, Hf, rfl, hs, ia, dp, ok, q⟩ := h
  rw [Vals.ref1 r]
  obtain ⟨k1, k2, k3⟩ := okMM_iff ok
  rcases hs with hs | hs
  · obtain ⟨its, rv, hl, hz⟩ := I.list hs
    obtain ⟨as, hr⟩ := Dp.readsAll I (d :: ds) xs its dp rv
    exact PySem.W.min_list_data (I.ok.hd hc) hl.isList hr k1 (by omega) fun i v h' tk bs hv h1 hk => mm_end I (minD_mem d ds) ok rv ia hr hv h1 hk q
  · obtain ⟨its, rv, hl, hz⟩ := I.tuple hs
    obtain ⟨as, hr⟩ := Dp.readsAll I (d :: ds) xs its dp rv
    exact PySem.W.min_tuple_data (I.ok.hd hc) hl hr k1 (by omega) fun i v h' tk bs hv h1 hk => mm_end I (minD_mem d ds) ok rv ia hr hv h1 hk q
theorem cr_maxD' {X : Cx} (hc : X.calm = true) (hu : X.A.units + 65 < cLine) : CallR X (.builtin "max") (rMM maxD X.K) := by
  intro pins s σ H vs us Q I r h
  obtain ⟨a, xs, d, ds, Hf, rfl, hs, ia, dp, ok, q⟩ := h
  rw [Vals.ref1 r]
  obtain ⟨k1, k2, k3⟩ := okMM_iff ok
  rcases hs with hs | hs
  · obtain ⟨its, rv, hl, hz⟩ := I.list hs
    obtain ⟨as, hr⟩ := Dp.readsAll I (d :: ds) xs its dp rv
    exact PySem.W.max_list_data (I.ok.hd hc) hl.isList hr k1 (by omega) fun i v h' tk bs hv h1 hk => mm_end I (maxD_mem d ds) ok rv ia hr hv h1 hk q
  · obtain ⟨its, rv, hl, hz⟩ := I.tuple hs
    obtain ⟨as, hr⟩ := Dp.readsAll I (d :: ds) xs its dp rv
    exact PySem.W.max_tuple_data (I.ok.hd hc) hl hr k1 (by omega) fun i v h' tk bs hv h1 hk => mm_end I (maxD_mem d ds) ok rv ia hr hv h1 hk q
theorem cal_mm {K : PySem.W.Frag} {g : Gx} {f : PyData → List PyData → PyData} : CalD K g (rMM f K) (fMM f) := by
  intro B H x dx d Q hn hg hx e k
  unfold fMM at e
  split at e
  · split at e
    · rename_i ok
      cases e
      obtain ⟨p, vs, rfl, h1, s1, z1⟩ := hx.lst hg
      exact ⟨p, vs, _, _, Fz B H, rfl, .inl (.inl (.inl (s1 H (Evo.refl _ _)))), h1, (h1.mono fz_le).dp (by have := SeqAt.canLay_of_shaped (okMM_iff ok).2.2; simpa only [PyData.canLay0] using this), ok, fun u iu => k _ _ (Ex.refl _) iu⟩
    · cases e
  · split at e
    · rename_i ok
      cases e
      obtain ⟨p, vs, rfl, h1, s1, z1⟩ := hx.tup hg
      exact ⟨p, vs, _, _, Fz B H, rfl, .inr (s1 H (Evo.refl _ _)), h1, (h1.mono fz_le).dp (by have := SeqAt.canLay_of_shaped (okMM_iff ok).2.2; simpa only [PyData.canLay0] using this), ok, fun u iu => k _ _ (Ex.refl _) iu⟩
    · cases e
  · cases e
/-! sum -/
def fSum : PyData → Option PyData | .list xs => (intsOf xs).map fun ns => .int ns.sum | _ => none
theorem cal_sum {K : PySem.W.Frag} {g : Gx} : CalD K g (rSum K) fSum := by
  intro B H x dx d Q hn hg hx e k
  unfold fSum at e
  split at e
  · rename_i xs
    cases q : intsOf xs with
    | none => rw [q] at e; cases e
    | some ns =>
      rw [q] at e
      cases e
      obtain rfl := intsOf_eq q
      obtain ⟨p, vs, rfl, h1, s1, z1⟩ := hx.lst hg
      obtain rfl := h1.ints
      exact ⟨p, ns, rfl, .inl (.inl (s1 H (Evo.refl _ _))), k _ _ (Ex.refl _) (.int _)⟩
  · cases e
section
variable {c : Cc} {m : List Md} {a b : Expr} {da db : DE} {pos p : Pos}
theorem ev_min1 (hc : c.X.calm = true) (hu : c.X.A.units + 65 < cLine) (hg : Gl c.X "min") (hm : c.X.mg "min" = none) (ha : EB c m a da) (hs : Pl a := by intro _ _; rfl) : EV c m (.Call (.Name "min" p) [a] [] pos) (d1 (fMM minD) da) := ev_callB (cr_minD hc hu) cal_mm hg hm (by rfl) ha hs
theorem ev_max1 (hc : c.X.calm = true) (hu : c.X.A.units + 65 < cLine) (hg : Gl c.X "max") (hm : c.X.mg "max" = none) (ha : EB c m a da) (hs : Pl a := by intro _ _; rfl) : EV c m (.Call (.Name "max" p) [a] [] pos) (d1 (fMM maxD) da) := ev_callB (cr_maxD' hc hu) cal_mm hg hm (by rfl) ha hs
theorem ev_sum (hc : c.X.calm = true) (hg : Gl c.X "sum") (hm : c.X.mg "sum" = none) (ha : EB c m a da) (hs : Pl a := by intro _ _; rfl) : EV c m (.Call (.Name "sum" p) [a] [] pos) (d1 fSum da) := ev_callB (cr_sum hc) cal_sum hg hm (by rfl) ha hs
end
end PD
/-! PDtg: max(a, b), min(a, b), list(range(n)), x.append(y.pop(k)), x += e. -/
namespace PD
open PySem PySem.Spec PyProof.Rows L2
section
variable {c : Cc} {m : List Md} {a b : Expr} {da db : DE} {pos p p2 pos2 : Pos}
def fMax2 (x y : PyData) : Option PyData := match x, y with | .int i, .int j => some (.int (if j > i then j else i)) | _, _ => none
def fMin2 (x y : PyData) : Option PyData := match x, y with | .int i, .int j => some (.int (if j < i then j else i)) | _, _ => none
theorem two_int {F : PyData → PyData → Option PyData} {f : Int → Int → Int} (hF : ∀ x y d, F x y = some d → ∃ i j, x = .int i ∧ y = .int j ∧ d = .int (f i j)) (ha : EV c m a da) (hb : EV c m b db) {σ : L2.St} {H : Hp} {ρ : PD.Env} {S : Store} {B0 B : List Addr} {ow : Addr → Nat} {Q : VK} (fr : Frame c.X.K c.g B0 B ow m ρ σ H) (gi : GI c.X.K c.g B H S)
    (g : Goal c B H σ (d2 F da db ρ S) (fun _ H' v d => Is c.X.K (Fz B H') v d) Q) : tCB (fun xs H Q => ∃ i j, xs = [.int i, .int j] ∧ Q (.int (f i j)) H) (tCons (PD.WE c.X a) (tCons (PD.WE c.X b) tNil)) σ H Q := by
  refine ha σ H ρ S B0 B ow _ fr gi (g.bind fun d S1 v H1 _ ev1 gi1 gd1 g1 => ?_)
  refine hb σ H1 ρ S1 B0 B ow _ (fr.evo ev1) gi1 (g1.bind fun d2 S2 v2 H2 _ ev2 gi2 gd2 g2 => ?_)
  cases q : F d d2 with
  | none => rw [q] at g2; exact absurd rfl g2.not_bad
  | some z =>
    rw [q] at g2
    obtain ⟨i, j, rfl, rfl, rfl⟩ := hF _ _ _ q
    cases gd1
    cases gd2
    exact ⟨i, j, rfl, g2.ok0 gi2 (.int _)⟩
theorem ev_max2 (hc : c.X.calm = true) (hg : Gl c.X "max") (hm : c.X.mg "max" = none) (ha : EV c m a da) (hb : EV c m b db) (hs : Pl a := by intro _ _; rfl) (hs2 : Pl b := by intro _ _; rfl) (hp : ∀ env : PySem.Env, (backTo pos (starEach [b] env)).any (·.1) = false := by intro _; rfl) : EV c m (.Call (.Name "max" p) [a, b] [] pos) (d2 fMax2 da db) := fun σ H ρ S B0 B ow Q fr gi g =>
  PD.WE.of (pe_callB (call_max2 hc) hg hm (by rfl) (pa_cons we (pa_cons we pa_nil (hs2 _ _)) (hs _ _)) (by decide) (by decide) (hs _ _) (hp _)) (two_int (f := fun i j => if j > i then j else i) (fun x y d e => by
    unfold fMax2 at e
    split at e
    · cases e; exact ⟨_, _, rfl, rfl, rfl⟩
    · cases e) ha hb fr gi g)
theorem ev_min2 (hc : c.X.calm = true) (hg : Gl c.X "min") (hm : c.X.mg "min" = none) (ha : EV c m a da) (hb : EV c m b db) (hs : Pl a := by intro _ _; rfl) (hs2 : Pl b := by intro _ _; rfl) (hp : ∀ env : PySem.Env, (backTo pos (starEach [b] env)).any (·.1) = false := by intro _; rfl) : EV c m (.Call (.Name "min" p) [a, b] [] pos) (d2 fMin2 da db) := fun σ H ρ S B0 B ow Q fr gi g =>
  PD.WE.of (pe_callB (call_min2 hc) hg hm (by rfl) (pa_cons we (pa_cons we pa_nil (hs2 _ _)) (hs _ _)) (by decide) (by decide) (hs _ _) (hp _)) (two_int (f := fun i j => if j < i then j else i) (fun x y d e => by
    unfold fMin2 at e
    split at e
    · cases e; exact ⟨_, _, rfl, rfl, rfl⟩
    · cases e) ha hb fr gi g)
/-! list(range(n)) -/
def fLR : PyData → Option PyData | .int j => if cR j && sz j.toNat then some (.list (rngD 0 j.toNat)) else none | _ => none
theorem rg_is {K : PySem.W.Frag} {H : Hp} (j : Int) : IsAll K H (rgV 0 j) (rngD 0 j.toNat) := by
  have e1 : rgV 0 j = ((List.range j.toNat).map fun i : Nat => (0 + (i : Int))).map V.int := by
    unfold rgV
    rw [List.map_map, Int.sub_zero]
    rfl
  have e2 : rngD 0 j.toNat = ((List.range j.toNat).map fun i : Nat => (0 + (i : Int))).map .int := by
    unfold rngD
    rw [List.map_map]
    rfl
  rw [e1, e2]
  exact IsAll.of_ints
theorem eo_listR (hc : c.X.calm = true) (hg : Gl c.X "list") (hm : c.X.mg "list" = none) (hg2 : Gl c.X "range") (hm2 : c.X.mg "range" = none) (ha : EV c m a da) (hs : Pl a := by intro _ _; rfl) (hs2 : Pl (.Call (.Name "range" p2) [a] [] pos2) := by intro _ _; rfl) :
    EO c m (.Call (.Name "list" p) [.Call (.Name "range" p2) [a] [] pos2] [] pos) (d1 fLR da) := fun σ H ρ S B0 B ow Q fr gi g => by
  refine PD.WE.of (pe_listRg hc hg hm (prg_1 hg2 hm2 we (hs _ _)) (hs2 _ _)) (ha σ H ρ S B0 B ow _ fr gi (g.bind fun d S1 v H1 _ ev1 gi1 gd1 g1 => ?_))
  cases d with
  | int j =>
    unfold fLR at g1
    by_cases hq : (cR j && sz j.toNat) = true
    · simp only [hq, if_true] at g1
      cases gd1
      obtain ⟨h1, h2⟩ := Bool.and_eq_true_iff.mp hq
      have b := of_decide_eq_true h1
      have hz : j.toNat ≤ sizeLine := of_decide_eq_true h2
      have hz' : j.toNat ≤ 16777216 := by rw [sizeLine_eq] at hz; exact hz
      refine ⟨j, rfl, ⟨by decide, by decide, b.1, b.2, by rw [Int.sub_zero]; omega⟩, fun l hl => g1.ok (Ex.new hl).evo (gi1.ex (Ex.new hl)) ⟨l, rfl, free_back ev1 gi1 hl, top_newL hl (by rw [rgV_length, Int.sub_zero]; exact hz) (rg_is j), gi1.fresh (Ex.new hl) hl (by rw [upd_same]; intro z; cases z)⟩⟩
    · simp only [hq] at g1
      exact absurd rfl g1.not_bad
  | _ => exact absurd rfl g1.not_bad
end
/-! x.append(y.pop(k)) -/
theorem IsAll.eraseIdx {K : PySem.W.Frag} {H : Hp} : ∀ {vs : List V} {ds : List PyData} (i : Nat), IsAll K H vs ds → IsAll K H (vs.eraseIdx i) (ds.eraseIdx i)
  | _, _, _, .nil => .nil
  | _, _, 0, .cons h t => t
  | _, _, i + 1, .cons h t => .cons h (IsAll.eraseIdx i t)
def fPopAt (ys : List PyData) (z : Int) : Option (PyData × List PyData) := if cR z then (seqIndex? z ys.length).bind fun n => (ys[n]?).map fun y => (y, ys.eraseIdx n) else none
def dAppPop (i j : Nat) (k : DE) : DS := fun ρ S => onLst ρ i fun xs => onLst ρ j fun ys => (k ρ S).st ρ fun d S1 => match d with
  | .int z => match fPopAt ys z with
    | some (y, ys') => putO (ρ.set j (some (.list ys'))) i (fApp xs y) S1
    | none => .bad
  | _ => .bad
section
variable {c : Cc} {x : Fx} {m m' m1 m2 : List Md} {He : Hp} {B0 B : List Addr} {ow : Addr → Nat} {ρ : Env} {σ : L2.St} {H : Hp} {S : Store} {D : Ends}
theorem sv_appPop {i j : Nat} {e : Expr} {a : DE} {y y2 : Str} {p1 p2 q1 q2 pos pos' pos2 : Pos} (hij : i ≠ j) (hm : m[i]? = some .own) (hmj : m[j]? = some .own) (ha : EV c m e a) (hp : PE c.X (.Name y p1) (tVar i)) (hpj : PE c.X (.Name y2 q1) (tVar j))
    (hs : Pl e := by intro _ _; rfl) (hs2 : Pl (.Call (.Attribute (.Name y2 q1) "pop" q2) [e] [] pos2) := by intro _ _; rfl) (hw : swapsWith (.Call (.Attribute (.Name y p1) "append" p2) [.Call (.Attribute (.Name y2 q1) "pop" q2) [e] [] pos2] [] pos') none pos.line c.X.env = pure false := by rfl)
    (hbase : attributeBase (.Name y p1) "append" c.X.env (eval (.Name y p1) c.X.env) = eval (.Name y p1) c.X.env := by rfl)
    (hbase2 : attributeBase (.Name y2 q1) "pop" c.X.env (eval (.Name y2 q1) c.X.env) = eval (.Name y2 q1) c.X.env := by rfl)
    (hfew : ((backTo pos' (starEach [.Call (.Attribute (.Name y2 q1) "pop" q2) [e] [] pos2] c.X.env)).all (fun x => !x.1) && (backToKw pos' (keywordEach [] c.X.env)).all (fun x => x.1.isSome) && decide ([Expr.Call (.Attribute (.Name y2 q1) "pop" q2) [e] [] pos2].length + ([] : List Keyword).length + (if ([] : List Keyword).isEmpty then 0 else 1) < 30)) = true := by rfl)
    (hfew2 : ((backTo pos2 (starEach [e] c.X.env)).all (fun x => !x.1) && (backToKw pos2 (keywordEach [] c.X.env)).all (fun x => x.1.isSome) && decide ([e].length + ([] : List Keyword).length + (if ([] : List Keyword).isEmpty then 0 else 1) < 30)) = true := by rfl)
    (hline : (p2.endLine == pos'.line) = true := by rfl) (hline2 : (q2.endLine == pos2.line) = true := by rfl) (hx : WkX m x.mx = true := by rfl) :
    SV c x m m (.Expr (.Call (.Attribute (.Name y p1) "append" p2) [.Call (.Attribute (.Name y2 q1) "pop" q2) [e] [] pos2] [] pos') pos) (dAppPop i j a) := by
  intro He B0 B ow ρ σ H S D i1 w
  have hpop := pe_bm PySem.F.plainAttrs_list PySem.F.slot_list_pop PySem.F.type_list_pop mt_popAt hpj (pa_cons (X := c.X) we pa_nil (hs _ _)) hbase2 hfew2 hline2 (hs _ _) (by rw [show starEach [] c.X.env = [] from rfl]; rfl)
  refine WS.of (ps_expr (pe_bm PySem.F.plainAttrs_list PySem.F.slot_list_append PySem.F.type_list_append mt_append hp (pa_cons hpop pa_nil (hs2 _ _)) hbase hfew hline (hs2 _ _) (by rw [show starEach [] c.X.env = [] from rfl]; rfl)) hw) ?_
  obtain ⟨d0, p, e0, hv, hv', hw', t⟩ := own_read i1 hm
  obtain ⟨d0j, q, e0j, hvj, hvj', hwj', tj⟩ := own_read i1 hmj
  obtain ⟨xs, rfl, w⟩ := on_lst e0 w
  obtain ⟨ys, rfl, w⟩ := on_lst e0j w
  obtain ⟨vs, h1, hz, r⟩ := top_lst t
  obtain ⟨ws, h1j, hzj, rj⟩ := top_lst tj
  have npq : p ≠ q := fun e => hij (by rw [← hw'.2.2, ← hwj'.2.2, e])
  refine ⟨.ref p, hv, .inl ⟨rfl, vs, .inl (.inl h1)⟩, ?_⟩
  refine ⟨.ref q, hvj, .inl ⟨rfl, ws, .inl (.inl h1j)⟩, ?_⟩
  refine ha σ H ρ S B0 B ow _ i1.fr i1.gi (goalS i1 hx w fun d S' v H' e ev i2 w2 gd => ?_)
  have pG : p ∉ c.g.G := fun z => hw'.2.1 (i1.fr.gsub p z)
  have qG : q ∉ c.g.G := fun z => hwj'.2.1 (i1.fr.gsub q z)
  have h2 : H' p = some (.lst vs) := ev p _ pG h1
  have h2j : H' q = some (.lst ws) := ev q _ qG h1j
  cases d with
  | int z =>
    cases gd
    simp only at w2
    cases hf : fPopAt ys z with
    | none => rw [hf] at w2; exact absurd rfl w2.nb
    | some yy =>
      obtain ⟨yd, ys'⟩ := yy
      rw [hf] at w2
      unfold fPopAt at hf
      split at hf
      · rename_i hcz
        obtain ⟨n, hn, hf⟩ := Option.bind_eq_some_iff.mp hf
        obtain ⟨yd', hy, hf⟩ := Option.map_eq_some_iff.mp hf
        cases hf
        obtain ⟨u, hu, iu⟩ := rj.get hy
        have b := of_decide_eq_true hcz
        refine ⟨q, ws, z, n, u, rfl, rfl, h2j, by omega, by omega, by rw [rj.length]; exact hn, hu, ?_⟩
        have rj2 := (rj.mono (ev.fz i1.gi.sub)).eraseIdx n
        obtain ⟨i3, ex⟩ := i2.write hmj hvj' hwj' (lst_code h2j) (top_upd (vs := ws.eraseIdx n) (xs := ys.eraseIdx n) hwj'.1 (by have := List.length_eraseIdx_le ws n; omega) rj2)
        have h3 : upd H' q (.lst (ws.eraseIdx n)) p = some (.lst vs) := by rw [upd_ne npq]; exact h2
        unfold putO fApp at w2
        simp only at w2
        by_cases hlt : xs.length < sizeLine
        · rw [if_pos (decide_eq_true hlt)] at w2
          refine ⟨p, vs, u, rfl, rfl, h3, by rw [r.length]; exact hlt, ?_⟩
          obtain ⟨i4, ex4⟩ := i3.write hm hv' hw' (lst_code h3) (top_upd (vs := vs ++ [u]) (xs := xs ++ [yd]) hw'.1 (by rw [List.length_append, r.length]; show _ + 1 ≤ _; omega) (((r.mono (ev.fz i1.gi.sub)).mono ex).append (.cons ((iu.mono (ev.fz i1.gi.sub)).mono ex) .nil)))
          exact w2.nx _ _ rfl σ _ B ow i4 (ex.trans ex4)
        · rw [if_neg (by simpa using hlt)] at w2
          exact absurd rfl w2.nb
      · cases hf
  | _ => exact absurd rfl w2.nb
end
end PD
/-! PDth: zip of two, each a list, a tuple, a text. -/
namespace PD
open PySem PySem.Spec PyProof.Rows L2
def Src.ap : Src → List Addr | .l a => [a] | .t a => [a] | .s _ => []
theorem src_draws2 {X : Cx} {pins : List (Addr × Obj)} {σ : L2.St} {H : Hp} {s : Shared} (I : Inv X pins σ H s) (hc : X.calm = true) {r : Src} {xs : List V} {it : Addr} {i : Nat} (hs : r.At X.K H xs) (hit : r.it it i s.heap) :
    ∃ (P : Nat → Value → Prop) (St : Nat → Heap → Prop), Draws X.prog X.w X.A.in1 it (it :: r.ap) xs.length P St ∧ St i s.heap ∧ (∀ u, P i u → ∃ x, xs[i]? = some x ∧ RelV x u) ∧ ∀ j h', St j h' → r.it it j h' := by
  have hd : X.A.in1.handled = none := I.ok.hd hc
  cases r with
  | l a =>
    obtain ⟨its, rv, p, hz⟩ := I.list hs
    have el := rv.length
    have nai : a ≠ it := fun z => by
      obtain ⟨o, h1, h2, h3⟩ := hit
      obtain ⟨o', h4, h5, _⟩ := p.isList
      rw [z, h1] at h4
      cases h4
      rw [h2] at h5
      exact absurd h5 (by decide)
    refine ⟨_, _, (show xs.length = its.toArray.size by simpa using el) ▸ Draws.list hd it a nai its.toArray, ⟨hit, p.isList⟩, fun u hu => ?_, fun j h' st => st.1⟩
    have hu : its.toArray[i]? = some u := hu
    have hi : i < xs.length := by
      have := (Array.getElem?_eq_some_iff.mp hu).1
      simpa [el] using this
    obtain ⟨w, hw, rw'⟩ := rv.get (List.getElem?_eq_getElem hi)
    rw [List.getElem?_toArray, hw] at hu
    cases hu
    exact ⟨_, List.getElem?_eq_getElem hi, rw'⟩
  | t a =>
    obtain ⟨its, rv, p, hz⟩ := I.tuple hs
    have p' : s.heap.IsTuple a its.toArray := p
    have el := rv.length
    have nai : a ≠ it := fun z => by
      obtain ⟨o, h1, h2, h3⟩ := hit
      obtain ⟨o', h4, h5, _⟩ := p'
      rw [z, h1] at h4
      cases h4
      rw [h2] at h5
      exact absurd h5 (by decide)
    refine ⟨_, _, (show xs.length = its.toArray.size by simpa using el) ▸ Draws.tuple hd it a nai its.toArray, ⟨hit, p'⟩, fun u hu => ?_, fun j h' st => st.1⟩
    have hu : its.toArray[i]? = some u := hu
    have hi : i < xs.length := by
      have := (Array.getElem?_eq_some_iff.mp hu).1
      simpa [el] using this
    obtain ⟨w, hw, rw'⟩ := rv.get (List.getElem?_eq_getElem hi)
    rw [List.getElem?_toArray, hw] at hu
    cases hu
    exact ⟨_, List.getElem?_eq_getElem hi, rw'⟩
  | s z =>
    obtain ⟨t, hit⟩ := hit
    have hs : xs = signs z := hs
    subst hs
    have el : (signs z).length = z.cps.size := by unfold signs; rw [List.length_map, Array.length_toList]
    refine ⟨_, _, el ▸ Draws.text hd it z t, hit, fun u hu => ?_, fun j h' st => ⟨t, st⟩⟩
    obtain ⟨cc, t2, h1, rfl⟩ := hu
    refine ⟨.str ⟨#[cc]⟩, ?_, ⟨t2, rfl⟩⟩
    unfold signs
    rw [List.getElem?_map, Array.getElem?_toList, h1]
    rfl
def Izm (K : PySem.W.Frag) (r1 r2 : Src) (n1 n2 : Nat) : It :=
  ⟨fun i H => ∃ (xs ys : List V) (x y : V), r1.At K H xs ∧ r2.At K H ys ∧ xs.length = n1 ∧ ys.length = n2 ∧ xs[i]? = some x ∧ ys[i]? = some y,
    fun i H v H' => ∃ T x y, v = .ref T ∧ H T = none ∧ H' = upd H T (.tup [x, y]) ∧ (∀ xs, r1.At K H xs → xs[i]? = some x) ∧ ∀ ys, r2.At K H ys → ys[i]? = some y,
    fun i H => ∃ xs ys : List V, r1.At K H xs ∧ r2.At K H ys ∧ xs.length = n1 ∧ ys.length = n2 ∧ (n1 ≤ i ∨ n2 ≤ i)⟩
theorem turn_zm {P : Program} {w : World} {K : PySem.W.Frag} {elts : List Expr} {kk : Nat} {tpos : Pos} (r1 r2 : Src) (n1 n2 : Nat) (N : Addr) (ap1 : ∀ b ∈ r1.ap, b < N) (ap2 : ∀ b ∈ r2.ap, b < N) :
    Turn P w K (.Tuple elts kk tpos) (Izm K r1 r2 n1 n2) [N + 4, N + 2, N + 3, N, N + 1] (N + 4) (fun i h => IsZip h (N + 4) (N + 2) (N + 3) .none ∧ IsTupOf2 h (N + 2) (.ref N) (.ref (N + 1)) ∧ (∃ x y, IsTupOf2 h (N + 3) x y) ∧ r1.it N i h ∧ r2.it (N + 1) i h ∧ i ≤ n1 ∧ i ≤ n2) where
  mem := by simp
  obj := fun i h st c hc => by
    obtain ⟨hz, hTI, ⟨x, y, hTO⟩, h1, h2, _⟩ := st
    have e' : c = N + 4 ∨ c = N + 2 ∨ c = N + 3 ∨ c = N ∨ c = N + 1 := by simpa using hc
    rcases e' with q | q | q | q | q
    · rw [q]; exact ⟨_, hz, fun v q => nomatch q⟩
    · rw [q]; exact ⟨_, hTI, fun v q => nomatch q⟩
    · rw [q]; exact ⟨_, hTO, fun v q => nomatch q⟩
    · rw [q]; exact Src.it_obj h1
    · rw [q]; exact Src.it_obj h2
  keep := fun i h h' st k => by
    obtain ⟨hz, hTI, ⟨x, y, hTO⟩, h1, h2, l1, l2⟩ := st
    exact ⟨k _ (by simp) _ hz, k _ (by simp) _ hTI, ⟨x, y, k _ (by simp) _ hTO⟩, Src.it_keep h1 fun o q => k _ (by simp) o q, Src.it_keep h2 fun o q => k _ (by simp) o q, l1, l2⟩
  item := by
    intro X hP hw hK hc i pins s σ H E I hf st hg
    subst hP hw hK
    obtain ⟨hz, hTI, ⟨x0, y0, hTO⟩, h1, h2, l1, l2⟩ := st
    obtain ⟨xs, ys, x, y, hqx, hqy, e1, e2, hx, hy⟩ := hg
    obtain ⟨P1, St1, D1, st1, g1, k1⟩ := src_draws2 I hc hqx h1
    obtain ⟨P2, St2, D2, st2, g2, k2⟩ := src_draws2 I hc hqy h2
    have hlt1 : i < xs.length := (List.getElem?_eq_some_iff.mp hx).1
    have hlt2 : i < ys.length := (List.getElem?_eq_some_iff.mp hy).1
    have S := zip_sep2 ap1 ap2
    have hzl : N + 4 < s.heap.objs.size := Heap.lt_size hz
    refine wpAny_pyNext_zipD2_item S D1 D2 hz hTI hTO st1 st2 hlt1 hlt2 fun u u2 h' tk q1 q2 z' TO' st1' st2' hT hsz hk => ?_
    obtain ⟨x', hx', ru⟩ := g1 u q1
    rw [hx] at hx'
    cases hx'
    obtain ⟨y', hy', ru2⟩ := g2 u2 q2
    rw [hy] at hy'
    cases hy'
    refine ⟨_, rfl, wpAny_letOwnedTupleGo_zip (s := { s with heap := h', toks := tk }) z' fun h'' z'' sb => ?_⟩
    have hT2 : h''.get? s.heap.objs.size = some { cls := .type "tuple", data := .seq #[u, u2] } := (sb.2 _ (Nat.ne_of_gt hzl)).trans hT
    have new : ObjOk X.prog X.w (upd H s.heap.objs.size (.tup [x, y])) h'' s.heap.objs.size (.tup [x, y]) :=
      ⟨by show 2 ≤ sizeLine; decide, [u, u2], .cons ru (.cons ru2 .nil), ⟨_, hT2, rfl, _, rfl⟩⟩
    have I1 : Inv X pins σ (upd H s.heap.objs.size (.tup [x, y])) { s with heap := h'', toks := tk } :=
      I.turnedNew (ch := [N + 4, N + 2, N + 3, N, N + 1]) (fun c o hb q => (sb.2 c (fun q' => hb (by simp [q']))).trans (hk c o (fun q' => hb (by simp [q'])) (fun q' => hb (by simp [q'])) (fun q' => hb (by simp [q'])) (fun q' => hb (by simp [q'])) q)) hf (Nat.le_refl _) new
    refine ⟨.ref s.heap.objs.size, _, I1, rfl, ⟨_, x, y, rfl, I.hok.fresh (Nat.le_refl _), rfl, fun l hl => by rw [Src.At_inj I hl hqx]; exact hx, fun l hl => by rw [Src.At_inj I hl hqy]; exact hy⟩, ⟨z'', ?_, ⟨u, u2, ?_⟩, ?_, ?_, by omega, by omega⟩, fun c hcm => ?_⟩
    · exact (sb.2 _ S.TIz).trans (hk _ _ S.TIz S.TITO S.TIi1 S.TIi2 hTI)
    · exact (sb.2 _ S.TOz).trans TO'
    · exact Src.it_keep (k1 _ _ st1') fun o q => (sb.2 _ (Ne.symm S.zi1)).trans q
    · exact Src.it_keep (k2 _ _ st2') fun o q => (sb.2 _ (Ne.symm S.zi2)).trans q
    · have hlt : c < s.heap.objs.size := by
        have e' : c = N + 4 ∨ c = N + 2 ∨ c = N + 3 ∨ c = N ∨ c = N + 1 := by simpa using hcm
        have hzl' : (N : Nat) + 4 < s.heap.objs.size := hzl
        rcases e' with q | q | q | q | q
        · rw [q]; exact hzl
        · rw [q]; exact Heap.lt_size hTI
        · rw [q]; exact Heap.lt_size hTO
        · rw [q]; obtain ⟨_, e1, _⟩ := Src.it_obj h1; exact Heap.lt_size e1
        · rw [q]; obtain ⟨_, e2, _⟩ := Src.it_obj h2; exact Heap.lt_size e2
      rw [upd_ne (Nat.ne_of_lt hlt)]
      exact (hf c hcm).1
  done := by
    intro X hP hw hK hc i pins s σ H E I hf st hg
    subst hP hw hK
    obtain ⟨hz, hTI, ⟨x0, y0, hTO⟩, h1, h2, l1, l2⟩ := st
    obtain ⟨xs, ys, hqx, hqy, e1, e2, hend⟩ := hg
    obtain ⟨P1, St1, D1, st1, g1, k1⟩ := src_draws2 I hc hqx h1
    obtain ⟨P2, St2, D2, st2, g2, k2⟩ := src_draws2 I hc hqy h2
    have S := zip_sep2 ap1 ap2
    exact wpAny_pyNext_zipD2_end S D1 D2 hz hTI hTO st1 st2 (by omega) (by omega) (by omega) fun h' tk hk => ⟨rfl, I.turnedL (t' := tk) (ch := [N + 4, N + 2, N + 3, N, N + 1]) (fun c o hb q =>
      hk c o (fun q' => hb (by simp [q'])) (fun q' => hb (by simp [q'])) (fun q' => hb (by simp [q'])) (fun q' => hb (by simp [q'])) q) hf⟩
  self := fun A i s Q E st h => wpAny_pyIter_zip st.1 h
def iZipM (K : PySem.W.Frag) (ta : TA) : TI := fun σ H R => ta σ H fun vs H1 => ∃ (r1 r2 : Src) (xs ys : List V), vs = [r1.v, r2.v] ∧ r1.At K H1 xs ∧ r2.At K H1 ys ∧ R (Izm K r1 r2 xs.length ys.length) H1
theorem src_low {X : Cx} {pins : List (Addr × Obj)} {σ : L2.St} {H : Hp} {s : Shared} (I : Inv X pins σ H s) {r : Src} {xs : List V} (hs : r.At X.K H xs) : ∀ b ∈ r.ap, b < s.heap.objs.size := by
  cases r with
  | l a =>
    obtain ⟨its, rv, p, hz⟩ := I.list hs
    intro b hb
    rw [List.mem_singleton.mp hb]
    exact p.lt
  | t a =>
    obtain ⟨its, rv, p, hz⟩ := I.tuple hs
    intro b hb
    rw [List.mem_singleton.mp hb]
    obtain ⟨o, ho, _⟩ := id p
    exact Heap.lt_size ho
  | s z => intro b hb; cases hb
theorem pi_zipM {X : Cx} {e e2 : Expr} {ta : TA} {p pos tpos : Pos} {elts : List Expr} {kk : Nat} (hg : Gl X "zip") (hm : X.mg "zip" = none) (ha : PA X [e, e2] ta)
    (hs : starEach [e, e2] X.env = (false, eval e X.env) :: starEach [e2] X.env := by rfl) (hpl : (backTo pos (starEach [e2] X.env)).any (·.1) = false := by rfl) :
    PI X (.Tuple elts kk tpos) (.Call (.Name "zip" p) [e, e2] [] pos) (iZipM X.K ta) := by
  refine ⟨fun pins s σ H R I h => ?_⟩
  refine Call_ (ld_blt I hg hm PyProof.Rows.boot_zip (PyProof.Rows.callWith_type1 (thn (ha.run pos pins s σ H _ I h) fun us s1 ⟨vs, H1, I1, r1, q1⟩ => ?_) hs hpl))
  obtain ⟨ra, rb, xs, ys, ex, hqx, hqy, q⟩ := q1
  subst ex
  cases r1 with
  | cons r rr =>
    cases rr with
    | cons r' rr =>
      cases rr
      have fresh5 : ∀ c, c ∈ [s1.heap.objs.size + 4, s1.heap.objs.size + 2, s1.heap.objs.size + 3, s1.heap.objs.size, s1.heap.objs.size + 1] → FpOk X pins H1 c := fun c hcm => by
        have e' : c = s1.heap.objs.size + 4 ∨ c = s1.heap.objs.size + 2 ∨ c = s1.heap.objs.size + 3 ∨ c = s1.heap.objs.size ∨ c = s1.heap.objs.size + 1 := by simpa using hcm
        have hle : s1.heap.objs.size ≤ c := by
          rcases e' with z | z | z | z | z
          · rw [z]; exact Nat.le_add_right _ _
          · rw [z]; exact Nat.le_add_right _ _
          · rw [z]; exact Nat.le_add_right _ _
          · rw [z]; exact Nat.le_refl _
          · rw [z]; exact Nat.le_add_right _ _
        exact I1.fpOk hle (I1.hok.fresh hle)
      obtain ⟨o1, Hq1, B1, q1, i1⟩ := src_begins I1 hqx r
      obtain ⟨o2, Hq2, B2, q2, i2⟩ := src_begins I1 hqy r'
      refine zip_begins2 B1 B2 q1 q2 fun h' hz hTI hTO g1 g2 hsz hk => wpAny_pyIter_zip hz ?_
      have I2 : Inv X pins σ H1 { s1 with heap := h' } := I1.kept (t' := s1.toks) hk
      exact ⟨s1.heap.objs.size + 4, [s1.heap.objs.size + 4, s1.heap.objs.size + 2, s1.heap.objs.size + 3, s1.heap.objs.size, s1.heap.objs.size + 1], _, _, H1, rfl, I2, turn_zm ra rb xs.length ys.length s1.heap.objs.size (src_low I1 hqx) (src_low I1 hqy), ⟨hz, hTI, ⟨_, _, hTO⟩, i1 _ _ g1, i2 _ _ g2, Nat.zero_le _, Nat.zero_le _⟩, fresh5, q⟩
section
variable {c : Cc} {m : List Md} {a b : Expr} {da db : DE} {p pos tpos : Pos} {elts : List Expr} {kk : Nat}
def fZipM (x y : PyData) : Option (List PyData) := match seqD x, seqD y with | some xs, some ys => some (zipD xs ys) | _, _ => none
theorem if_zipM (hg : Gl c.X "zip") (hm : c.X.mg "zip" = none) (ha : EV c m a da) (hb : EV c m b db) (hs : Pl a := by intro _ _; rfl) (hs2 : Pl b := by intro _ _; rfl) : IFo c m (.Tuple elts kk tpos) (.Call (.Name "zip" p) [a, b] [] pos) (dIt2 fZipM da db) := by
  intro σ H ρ S B0 B ow Q fr gi g
  refine WI.of (pi_zipM hg hm (pa_cons we (pa_cons we pa_nil (hs2 _ _)) (hs _ _)) (hs _ _) (by rw [hs2 _ _]; rfl)) (ha σ H ρ S B0 B ow _ fr gi (g.bind fun d S1 v H1 _ ev1 gi1 gd1 g1 => ?_))
  refine hb σ H1 ρ S1 B0 B ow _ (fr.evo ev1) gi1 (g1.bind fun d2 S2 v2 H2 _ ev2 gi2 gd2 g2 => ?_)
  have gd1 := gd1.mono (ev2.fz gi2.sub)
  unfold fZipM at g2
  cases e1 : seqD d with
  | none => rw [e1] at g2; exact absurd rfl g2.not_bad
  | some ds =>
    cases e2 : seqD d2 with
    | none => rw [e1, e2] at g2; exact absurd rfl g2.not_bad
    | some es =>
      rw [e1, e2] at g2
      obtain ⟨r1, xs, rfl, a1, i1, z1⟩ := src_of gd1 e1
      obtain ⟨r2, ys, rfl, a2, i2, z2⟩ := src_of gd2 e2
      refine ⟨r1, r2, xs, ys, rfl, Src.At_mono fz_le a1, Src.At_mono fz_le a2, g2.ok0 gi2 ⟨by rw [zipD_len, ← i1.length]; omega, fun B' H' e kn => ⟨fun i d hd => ?_, fun i hi => ?_⟩⟩⟩
      · obtain ⟨x, y, q1, q2, rfl⟩ := zipD_get _ _ _ _ hd
        obtain ⟨v, hv, iv⟩ := i1.get q1
        obtain ⟨w, hw, iw⟩ := i2.get q2
        have s1 : r1.At c.X.K H' xs := Src.At_mono fz_le (Src.At_mono e a1)
        have s2 : r2.At c.X.K H' ys := Src.At_mono fz_le (Src.At_mono e a2)
        refine ⟨⟨xs, ys, v, w, s1, s2, rfl, rfl, hv, hw⟩, fun q H3 ⟨T, x', y', e3, hT, e4, k1, k2⟩ => ?_⟩
        subst e3 e4
        have q1 := k1 xs s1
        have q2 := k2 ys s2
        rw [hv] at q1
        rw [hw] at q2
        cases q1
        cases q2
        exact ⟨Ex.new hT, pair_is kn hT (iv.mono e) (iw.mono e)⟩
      · rw [zipD_len, ← i1.length, ← i2.length] at hi
        exact ⟨xs, ys, Src.At_mono fz_le (Src.At_mono e a1), Src.At_mono fz_le (Src.At_mono e a2), rfl, rfl, by omega⟩
end
end PD
namespace K92
open PySem PySem.Spec PyProof.Rows L2 LamX PD
def top (i : Nat) : Stmt := PySem.Challenge.pw_colourhouse_k92_whole_windows_of_times.main.body.getD i (.Pass ⟨0, 0, 0, 0⟩)
/-- the classes of exceptions that are raised -/
abbrev xcs : List Str := ["NoCount", "NoMixed"]
/-- what the head has written -/
structure Tx (K : PySem.W.Frag) (mg : Str → Option Value) where
  A_is_integer : Addr
  D_is_integer : FuncData
  A_is_sized : Addr
  D_is_sized : FuncData
  A_next_times : Addr
  D_next_times : FuncData
  A_pairs_ahead : Addr
  D_pairs_ahead : FuncData
  A__law_hand : Addr
  D__law_hand : FuncData
  A__law_draw : Addr
  D__law_draw : FuncData
  A__law_fits : Addr
  D__law_fits : FuncData
  A__law_ring : Addr
  D__law_ring : FuncData
  A__law_word : Addr
  D__law_word : FuncData
  A__law_levels : Addr
  D__law_levels : FuncData
  A_is_within : Addr
  D_is_within : FuncData
  A_all_times : Addr
  D_all_times : FuncData
  A__law_any : Addr
  D__law_any : FuncData
  A__law_web : Addr
  D__law_web : FuncData
  A__law_names : Addr
  D__law_names : FuncData
  A__law_times : Addr
  D__law_times : FuncData
  A_is_lot : Addr
  D_is_lot : FuncData
  A__law_mixed : Addr
  D__law_mixed : FuncData
  A__law_no_mixed : Addr
  D__law_no_mixed : FuncData
  A_are_ties : Addr
  D_are_ties : FuncData
  A_is_web : Addr
  D_is_web : FuncData
  A_is_mixed : Addr
  D_is_mixed : FuncData
  A_check_mixed : Addr
  D_check_mixed : FuncData
  A_check_within : Addr
  D_check_within : FuncData
  A_windows : Addr
  D_windows : FuncData
  A_sure_ahead : Addr
  D_sure_ahead : FuncData
  A_time_count : Addr
  D_time_count : FuncData
  A_law : Addr
  D_law : FuncData
  cA_law : Addr
  P_law : Addr
  C_ColourError : Addr
  C_NoCount : Addr
  C_NoMixed : Addr
  C_NoTimes : Addr
  C_NoTurning : Addr
  C_TooMany : Addr
  F_is_integer : Fun K "is_integer" "is_integer" (top 1) A_is_integer D_is_integer
  G_is_integer : mg "is_integer" = some (.ref A_is_integer)
  B_is_integer : Binds K D_is_integer ["thing"] []
  F_is_sized : Fun K "is_sized" "is_sized" (top 3) A_is_sized D_is_sized
  G_is_sized : mg "is_sized" = some (.ref A_is_sized)
  B_is_sized : Binds K D_is_sized ["thing", "low", "high"] []
  F_next_times : Fun K "next_times" "next_times" (top 22) A_next_times D_next_times
  G_next_times : mg "next_times" = some (.ref A_next_times)
  B_next_times : Binds K D_next_times ["mixed", "k", "times"] []
  F_pairs_ahead : Fun K "pairs_ahead" "pairs_ahead" (top 25) A_pairs_ahead D_pairs_ahead
  G_pairs_ahead : mg "pairs_ahead" = some (.ref A_pairs_ahead)
  B_pairs_ahead : Binds K D_pairs_ahead ["times"] []
  F__law_hand : Fun K "_law_hand" "_law_hand" (top 29) A__law_hand D__law_hand
  G__law_hand : mg "_law_hand" = some (.ref A__law_hand)
  B__law_hand : Binds K D__law_hand ["script"] []
  F__law_draw : Fun K "_law_draw" "_law_draw" (top 30) A__law_draw D__law_draw
  G__law_draw : mg "_law_draw" = some (.ref A__law_draw)
  B__law_draw : Binds K D__law_draw ["hand", "many"] []
  F__law_fits : Fun K "_law_fits" "_law_fits" (top 35) A__law_fits D__law_fits
  G__law_fits : mg "_law_fits" = some (.ref A__law_fits)
  B__law_fits : Binds K D__law_fits ["mixed", "row"] []
  F__law_ring : Fun K "_law_ring" "_law_ring" (top 37) A__law_ring D__law_ring
  G__law_ring : mg "_law_ring" = some (.ref A__law_ring)
  B__law_ring : Binds K D__law_ring ["n", "steps"] []
  F__law_word : Fun K "_law_word" "_law_word" (top 39) A__law_word D__law_word
  G__law_word : mg "_law_word" = some (.ref A__law_word)
  B__law_word : Binds K D__law_word ["call"] []
  F__law_levels : Fun K "_law_levels" "_law_levels" (top 40) A__law_levels D__law_levels
  G__law_levels : mg "_law_levels" = some (.ref A__law_levels)
  B__law_levels : Binds K D__law_levels ["n", "steps"] []
  F_is_within : Fun K "is_within" "is_within" (top 2) A_is_within D_is_within
  G_is_within : mg "is_within" = some (.ref A_is_within)
  B_is_within : Binds K D_is_within ["thing", "low", "high"] []
  F_all_times : Fun K "all_times" "all_times" (top 23) A_all_times D_all_times
  G_all_times : mg "all_times" = some (.ref A_all_times)
  B_all_times : Binds K D_all_times ["mixed", "k", "most"] []
  F__law_any : Fun K "_law_any" "_law_any" (top 31) A__law_any D__law_any
  G__law_any : mg "_law_any" = some (.ref A__law_any)
  B__law_any : Binds K D__law_any ["hand", "some"] []
  F__law_web : Fun K "_law_web" "_law_web" (top 32) A__law_web D__law_web
  G__law_web : mg "_law_web" = some (.ref A__law_web)
  B__law_web : Binds K D__law_web ["hand", "most"] []
  F__law_names : Fun K "_law_names" "_law_names" (top 33) A__law_names D__law_names
  G__law_names : mg "_law_names" = some (.ref A__law_names)
  B__law_names : Binds K D__law_names ["hand", "n"] []
  F__law_times : Fun K "_law_times" "_law_times" (top 36) A__law_times D__law_times
  G__law_times : mg "_law_times" = some (.ref A__law_times)
  B__law_times : Binds K D__law_times ["mixed", "k"] []
  F_is_lot : Fun K "is_lot" "is_lot" (top 4) A_is_lot D_is_lot
  G_is_lot : mg "is_lot" = some (.ref A_is_lot)
  B_is_lot : Binds K D_is_lot ["thing", "many"] []
  F__law_mixed : Fun K "_law_mixed" "_law_mixed" (top 34) A__law_mixed D__law_mixed
  G__law_mixed : mg "_law_mixed" = some (.ref A__law_mixed)
  B__law_mixed : Binds K D__law_mixed ["hand", "most"] []
  F__law_no_mixed : Fun K "_law_no_mixed" "_law_no_mixed" (top 38) A__law_no_mixed D__law_no_mixed
  G__law_no_mixed : mg "_law_no_mixed" = some (.ref A__law_no_mixed)
  B__law_no_mixed : Binds K D__law_no_mixed ["hand"] []
  F_are_ties : Fun K "are_ties" "are_ties" (top 14) A_are_ties D_are_ties
  G_are_ties : mg "are_ties" = some (.ref A_are_ties)
  B_are_ties : Binds K D_are_ties ["n", "thing"] []
  F_is_web : Fun K "is_web" "is_web" (top 15) A_is_web D_is_web
  G_is_web : mg "is_web" = some (.ref A_is_web)
  B_is_web : Binds K D_is_web ["thing"] []
  F_is_mixed : Fun K "is_mixed" "is_mixed" (top 19) A_is_mixed D_is_mixed
  G_is_mixed : mg "is_mixed" = some (.ref A_is_mixed)
  B_is_mixed : Binds K D_is_mixed ["thing"] []
  F_check_mixed : Fun K "check_mixed" "check_mixed" (top 20) A_check_mixed D_check_mixed
  G_check_mixed : mg "check_mixed" = some (.ref A_check_mixed)
  B_check_mixed : Binds K D_check_mixed ["thing"] []
  F_check_within : Fun K "check_within" "check_within" (top 21) A_check_within D_check_within
  G_check_within : mg "check_within" = some (.ref A_check_within)
  B_check_within : Binds K D_check_within ["mixed", "k"] []
  F_windows : Fun K "windows" "windows" (top 24) A_windows D_windows
  G_windows : mg "windows" = some (.ref A_windows)
  B_windows : Binds K D_windows ["mixed", "k"] []
  F_sure_ahead : Fun K "sure_ahead" "sure_ahead" (top 26) A_sure_ahead D_sure_ahead
  G_sure_ahead : mg "sure_ahead" = some (.ref A_sure_ahead)
  B_sure_ahead : Binds K D_sure_ahead ["mixed", "k"] []
  F_time_count : Fun K "time_count" "time_count" (top 27) A_time_count D_time_count
  G_time_count : mg "time_count" = some (.ref A_time_count)
  B_time_count : Binds K D_time_count ["mixed", "k"] []
  F_law : FunC K "law" "law" (top 41) A_law D_law cA_law
  G_law : mg "law" = some (.ref A_law)
  B_law : Binds K D_law ["script"] []
  b_abs : mg "abs" = none
  b_all : mg "all" = none
  b_any : mg "any" = none
  b_bool : mg "bool" = none
  b_enumerate : mg "enumerate" = none
  b_int : mg "int" = none
  b_isinstance : mg "isinstance" = none
  b_len : mg "len" = none
  b_list : mg "list" = none
  b_max : mg "max" = none
  b_min : mg "min" = none
  b_range : mg "range" = none
  b_sorted : mg "sorted" = none
  b_tuple : mg "tuple" = none
  b_zip : mg "zip" = none
  c_MOST_PLACES : ∃ t, mg "MOST_PLACES" = some (.int 8 t)
  c_MOST_MIXED : ∃ t, mg "MOST_MIXED" = some (.int 7 t)
  c_MOST_TIME : ∃ t, mg "MOST_TIME" = some (.int 8 t)
  nd : ([P_law] : List Addr).Nodup
  g_ColourError : mg "ColourError" = some (.ref C_ColourError)
  g_NoCount : mg "NoCount" = some (.ref C_NoCount)
  g_NoMixed : mg "NoMixed" = some (.ref C_NoMixed)
  g_NoTimes : mg "NoTimes" = some (.ref C_NoTimes)
  g_NoTurning : mg "NoTurning" = some (.ref C_NoTurning)
  g_TooMany : mg "TooMany" = some (.ref C_TooMany)
  xB : ([("NoCount", C_NoCount), ("NoMixed", C_NoMixed)] : List (Str × Addr)).all (fun p => excB K p.2) = true
  q_NoCount : PySem.W.excIn K C_NoCount [.type "ValueError", .type "Exception", .type "BaseException", .type "object"] "ValueError.__new__" = true
  q_NoMixed : PySem.W.excIn K C_NoMixed [.type "ValueError", .type "Exception", .type "BaseException", .type "object"] "ValueError.__new__" = true
  kB_NoCount : ([("NoCount", C_NoCount), ("NoMixed", C_NoMixed)] : List (Str × Addr)).all (fun p => decide (PySem.W.kitOne K (.ref p.2) (.ref C_NoCount) = some (inS ["NoCount"] p.1))) = true
  kB_NoMixed : ([("NoCount", C_NoCount), ("NoMixed", C_NoMixed)] : List (Str × Addr)).all (fun p => decide (PySem.W.kitOne K (.ref p.2) (.ref C_NoMixed) = some (inS ["NoMixed"] p.1))) = true
  kB_NoTimes : ([("NoCount", C_NoCount), ("NoMixed", C_NoMixed)] : List (Str × Addr)).all (fun p => decide (PySem.W.kitOne K (.ref p.2) (.ref C_NoTimes) = some (inS [] p.1))) = true
  kB_NoTurning : ([("NoCount", C_NoCount), ("NoMixed", C_NoMixed)] : List (Str × Addr)).all (fun p => decide (PySem.W.kitOne K (.ref p.2) (.ref C_NoTurning) = some (inS [] p.1))) = true
  eB_ColourError : ([("NoCount", C_NoCount), ("NoMixed", C_NoMixed)] : List (Str × Addr)).all (fun p => decide (PySem.W.exmOne K (.ref p.2) (.ref C_ColourError) = some (inS ["NoCount", "NoMixed"] p.1))) = true
  eB_TooMany : ([("NoCount", C_NoCount), ("NoMixed", C_NoMixed)] : List (Str × Addr)).all (fun p => decide (PySem.W.exmOne K (.ref p.2) (.ref C_TooMany) = some (inS [] p.1))) = true
  nB_most : ([("NoCount", C_NoCount), ("NoMixed", C_NoMixed)] : List (Str × Addr)).all (fun p => decide (PySem.W.findIn K (.ref p.2) "most" = some none)) = true
section
variable {K : PySem.W.Frag} {mg : Str → Option Value} (T : Tx K mg)
def Tx.cs : List (Addr × Addr) := [(T.cA_law, T.P_law)]
def Tx.tabs : List (Addr × Str) := [(T.P_law, (Str.ofString "law" ++ ".<locals>.") ++ "<lambda>")]
include T
theorem Tx.ndT : (T.tabs.map (·.1)).Nodup := T.nd
theorem Tx.gs : ∀ p ∈ ([("NoCount", T.C_NoCount), ("NoMixed", T.C_NoMixed)] : List (Str × Addr)), mg p.1 = some (.ref p.2) := by
  intro p hp
  simp only [List.mem_cons, List.not_mem_nil, or_false] at hp
  rcases hp with rfl | rfl
  · exact T.g_NoCount
  · exact T.g_NoMixed
theorem Tx.exc : ∀ n ∈ xcs, ∀ E, mg n = some (.ref E) → ExcT K E := by_cls (l := [("NoCount", T.C_NoCount), ("NoMixed", T.C_NoMixed)]) T.gs fun p hp => excB_ok (all_cls T.xB p hp)
theorem Tx.kit_NoCount : ∀ n ∈ xcs, ∀ E, mg n = some (.ref E) → PySem.W.kitOne K (.ref E) (.ref T.C_NoCount) = some (inS ["NoCount"] n) := by_cls (l := [("NoCount", T.C_NoCount), ("NoMixed", T.C_NoMixed)]) (F := fun n E => PySem.W.kitOne K (.ref E) (.ref T.C_NoCount) = some (inS ["NoCount"] n)) T.gs fun p hp => of_decide_eq_true (all_cls T.kB_NoCount p hp)
theorem Tx.kit_NoMixed : ∀ n ∈ xcs, ∀ E, mg n = some (.ref E) → PySem.W.kitOne K (.ref E) (.ref T.C_NoMixed) = some (inS ["NoMixed"] n) := by_cls (l := [("NoCount", T.C_NoCount), ("NoMixed", T.C_NoMixed)]) (F := fun n E => PySem.W.kitOne K (.ref E) (.ref T.C_NoMixed) = some (inS ["NoMixed"] n)) T.gs fun p hp => of_decide_eq_true (all_cls T.kB_NoMixed p hp)
theorem Tx.kit_NoTimes : ∀ n ∈ xcs, ∀ E, mg n = some (.ref E) → PySem.W.kitOne K (.ref E) (.ref T.C_NoTimes) = some (inS [] n) := by_cls (l := [("NoCount", T.C_NoCount), ("NoMixed", T.C_NoMixed)]) (F := fun n E => PySem.W.kitOne K (.ref E) (.ref T.C_NoTimes) = some (inS [] n)) T.gs fun p hp => of_decide_eq_true (all_cls T.kB_NoTimes p hp)
theorem Tx.kit_NoTurning : ∀ n ∈ xcs, ∀ E, mg n = some (.ref E) → PySem.W.kitOne K (.ref E) (.ref T.C_NoTurning) = some (inS [] n) := by_cls (l := [("NoCount", T.C_NoCount), ("NoMixed", T.C_NoMixed)]) (F := fun n E => PySem.W.kitOne K (.ref E) (.ref T.C_NoTurning) = some (inS [] n)) T.gs fun p hp => of_decide_eq_true (all_cls T.kB_NoTurning p hp)
theorem Tx.exm_ColourError : ∀ n ∈ xcs, ∀ E, mg n = some (.ref E) → PySem.W.exmOne K (.ref E) (.ref T.C_ColourError) = some (inS ["NoCount", "NoMixed"] n) := by_cls (l := [("NoCount", T.C_NoCount), ("NoMixed", T.C_NoMixed)]) (F := fun n E => PySem.W.exmOne K (.ref E) (.ref T.C_ColourError) = some (inS ["NoCount", "NoMixed"] n)) T.gs fun p hp => of_decide_eq_true (all_cls T.eB_ColourError p hp)
theorem Tx.exm_TooMany : ∀ n ∈ xcs, ∀ E, mg n = some (.ref E) → PySem.W.exmOne K (.ref E) (.ref T.C_TooMany) = some (inS [] n) := by_cls (l := [("NoCount", T.C_NoCount), ("NoMixed", T.C_NoMixed)]) (F := fun n E => PySem.W.exmOne K (.ref E) (.ref T.C_TooMany) = some (inS [] n)) T.gs fun p hp => of_decide_eq_true (all_cls T.eB_TooMany p hp)
theorem Tx.nof_most : ∀ n ∈ xcs, ∀ E, mg n = some (.ref E) → PySem.W.findIn K (.ref E) "most" = some none := by_cls (l := [("NoCount", T.C_NoCount), ("NoMixed", T.C_NoMixed)]) (F := fun n E => PySem.W.findIn K (.ref E) "most" = some none) T.gs fun p hp => of_decide_eq_true (all_cls T.nB_most p hp)
theorem x0_NoCount : Ex0 K mg "NoCount" T.C_NoCount :=
  have t := excB_ok (all_cls T.xB ("NoCount", T.C_NoCount) (by simp))
  ⟨T.q_NoCount, T.g_NoCount, t.k, t.b, t.t⟩
theorem x0_NoMixed : Ex0 K mg "NoMixed" T.C_NoMixed :=
  have t := excB_ok (all_cls T.xB ("NoMixed", T.C_NoMixed) (by simp))
  ⟨T.q_NoMixed, T.g_NoMixed, t.k, t.b, t.t⟩
end
theorem sc_is_integer : FnScope ["thing"] ["thing"] (defScope (top 1)) := ⟨rfl, rfl, rfl, by decide +kernel, rfl, by decide +kernel, by decide +kernel⟩
theorem sc_is_sized : FnScope ["thing", "low", "high"] ["thing", "low", "high"] (defScope (top 3)) := ⟨rfl, rfl, rfl, by decide +kernel, rfl, by decide +kernel, by decide +kernel⟩
theorem sc_next_times : FnScope ["mixed", "k", "times", "n", "ties", "arrows", "place", "low", "high", "a", "b", "taken", "time"] ["mixed", "k", "times"] (defScope (top 22)) := ⟨rfl, rfl, rfl, by decide +kernel, rfl, by decide +kernel, by decide +kernel⟩
theorem sc_pairs_ahead : FnScope ["times", "found", "a", "time", "b", "other"] ["times"] (defScope (top 25)) := ⟨rfl, rfl, rfl, by decide +kernel, rfl, by decide +kernel, by decide +kernel⟩
theorem sc__law_hand : FnScope ["script", "cells", "cell"] ["script"] (defScope (top 29)) := ⟨rfl, rfl, rfl, by decide +kernel, rfl, by decide +kernel, by decide +kernel⟩
theorem sc__law_draw : FnScope ["hand", "many", "cell", "digit", "number"] ["hand", "many"] (defScope (top 30)) := ⟨rfl, rfl, rfl, by decide +kernel, rfl, by decide +kernel, by decide +kernel⟩
theorem sc__law_fits : FnScope ["mixed", "row", "n", "ties", "arrows", "many", "a", "b"] ["mixed", "row"] (defScope (top 35)) := ⟨rfl, rfl, rfl, by decide +kernel, rfl, by decide +kernel, by decide +kernel⟩
theorem sc__law_ring : FnScope ["n", "steps", "rows", "size", "done", "longer", "row", "place", "a", "b"] ["n", "steps"] (defScope (top 37)) := ⟨rfl, rfl, rfl, by decide +kernel, rfl, by decide +kernel, by decide +kernel⟩
theorem sc__law_word : FnScope ["call", "word", "e", "flags", "names"] ["call"] (defScope (top 39)) := ⟨rfl, rfl, rfl, by decide +kernel, rfl, by decide +kernel, by decide +kernel⟩
theorem sc__law_levels : FnScope ["n", "steps", "found", "step", "a", "b"] ["n", "steps"] (defScope (top 40)) := ⟨rfl, rfl, rfl, by decide +kernel, rfl, by decide +kernel, by decide +kernel⟩
theorem sc_is_within : FnScope ["thing", "low", "high"] ["thing", "low", "high"] (defScope (top 2)) := ⟨rfl, rfl, rfl, by decide +kernel, rfl, by decide +kernel, by decide +kernel⟩
theorem sc_all_times : FnScope ["mixed", "k", "most", "found", "waiting", "times", "time"] ["mixed", "k", "most"] (defScope (top 23)) := ⟨rfl, rfl, rfl, by decide +kernel, rfl, by decide +kernel, by decide +kernel⟩
theorem sc__law_any : FnScope ["hand", "some"] ["hand", "some"] (defScope (top 31)) := ⟨rfl, rfl, rfl, by decide +kernel, rfl, by decide +kernel, by decide +kernel⟩
theorem sc__law_web : FnScope ["hand", "most", "n", "share", "ties", "a", "b"] ["hand", "most"] (defScope (top 32)) := ⟨rfl, rfl, rfl, by decide +kernel, rfl, by decide +kernel, by decide +kernel⟩
theorem sc__law_names : FnScope ["hand", "n", "left", "found", "step"] ["hand", "n"] (defScope (top 33)) := ⟨rfl, rfl, rfl, by decide +kernel, rfl, by decide +kernel, by decide +kernel⟩
theorem sc__law_times : FnScope ["mixed", "k", "found", "place", "longer", "row", "one"] ["mixed", "k"] (defScope (top 36)) := ⟨rfl, rfl, rfl, by decide +kernel, rfl, by decide +kernel, by decide +kernel⟩
theorem sc_is_lot : FnScope ["thing", "many", "one", "other"] ["thing", "many"] (defScope (top 4)) := ⟨rfl, rfl, rfl, by decide +kernel, rfl, by decide +kernel, by decide +kernel⟩
theorem sc__law_mixed : FnScope ["hand", "most", "web", "n", "arrows", "wild", "a", "b", "names", "ties"] ["hand", "most"] (defScope (top 34)) := ⟨rfl, rfl, rfl, by decide +kernel, rfl, by decide +kernel, by decide +kernel⟩
theorem sc__law_no_mixed : FnScope ["hand", "some"] ["hand"] (defScope (top 38)) := ⟨rfl, rfl, rfl, by decide +kernel, rfl, by decide +kernel, by decide +kernel⟩
theorem sc_are_ties : FnScope ["n", "thing", "one", "other", "pair"] ["n", "thing"] (defScope (top 14)) := ⟨rfl, rfl, rfl, by decide +kernel, rfl, by decide +kernel, by decide +kernel⟩
theorem sc_is_web : FnScope ["thing"] ["thing"] (defScope (top 15)) := ⟨rfl, rfl, rfl, by decide +kernel, rfl, by decide +kernel, by decide +kernel⟩
theorem sc_is_mixed : FnScope ["thing", "n", "ties", "arrows", "pair", "one", "other", "a", "b", "place"] ["thing"] (defScope (top 19)) := ⟨rfl, rfl, rfl, by decide +kernel, rfl, by decide +kernel, by decide +kernel⟩
theorem sc_check_mixed : FnScope ["thing"] ["thing"] (defScope (top 20)) := ⟨rfl, rfl, rfl, by decide +kernel, rfl, by decide +kernel, by decide +kernel⟩
theorem sc_check_within : FnScope ["mixed", "k"] ["mixed", "k"] (defScope (top 21)) := ⟨rfl, rfl, rfl, by decide +kernel, rfl, by decide +kernel, by decide +kernel⟩
theorem sc_windows : FnScope ["mixed", "k", "low", "high", "times", "one", "time", "other"] ["mixed", "k"] (defScope (top 24)) := ⟨rfl, rfl, rfl, by decide +kernel, rfl, by decide +kernel, by decide +kernel⟩
theorem sc_sure_ahead : FnScope ["mixed", "k", "found", "times", "some", "pair"] ["mixed", "k"] (defScope (top 26)) := ⟨rfl, rfl, rfl, by decide +kernel, rfl, by decide +kernel, by decide +kernel⟩
theorem sc_time_count : FnScope ["mixed", "k"] ["mixed", "k"] (defScope (top 27)) := ⟨rfl, rfl, rfl, by decide +kernel, rfl, by decide +kernel, by decide +kernel⟩
theorem sc_law : FnScope ["script", "hand", "turn", "mixed", "n", "k", "some", "due", "pairs", "a", "free", "ends", "begins", "wide", "bad", "off", "words", "b", "pair", "low", "high", "row"] ["script"] (defScope (top 41)) := ⟨rfl, rfl, rfl, by decide +kernel, rfl, by decide +kernel, by decide +kernel⟩
section
variable {P : Program} {w : World} {K : PySem.W.Frag} {mg : Str → Option Value} {base : Heap} (T : Tx K mg) (tb : ∀ p ∈ T.cs, TabB base mg p.1 p.2) (SA : List Addr)
include tb
/-! is_integer -/
def b_is_integer : DS := dRet (dAndV (d1 (fun d => some (.bool (isT "int" d))) (dVar 0)) (dNotV (d1 (fun d => some (.bool (isT "bool" d))) (dVar 0))))
def d_is_integer : List PyData → Store → R PyData := dFn false 1 b_is_integer
theorem ok_is_integer : FnOk P w K mg base (L2.CX P w) 1 T.A_is_integer T.D_is_integer ["thing"] (spD K mg (gW T.tabs SA) [.fz] false d_is_integer) := by
  refine fn_den (N := ["thing"]) (m1 := []) T.F_is_integer sc_is_integer rfl rfl (by decide) (fun cdv A outer s H E hr => ?_)
  have kx := kx_fn (g := gW T.tabs SA) (P := P) (w := w) (K := K) (mg := mg) (base := base) (N := ["thing"]) (qual := "is_integer") (st := top 1) (f := T.A_is_integer) (cdv := cdv) (A := A) (outer := outer) (s := s) (H := H) (E := E) (k := 0) sc_is_integer hr
  exact svs_one (sv_ret (ev_andV (ev_isi isT_int rfl rfl T.b_isinstance rfl T.b_int (vv 0)) (ev_one (ev_notV (ev_isi isT_bool rfl rfl T.b_isinstance rfl T.b_bool (vv 0))))))
/-! is_sized -/
def b_is_sized : DS := dRet (dAndV (d1 (fun d => some (.bool (isT "tuple" d))) (dVar 0)) (dChain fLe fLe (dVar 1) (d1 fLen (dVar 0)) (dVar 2)))
def d_is_sized : List PyData → Store → R PyData := dFn false 3 b_is_sized
theorem ok_is_sized : FnOk P w K mg base (L2.CX P w) 1 T.A_is_sized T.D_is_sized ["thing", "low", "high"] (spD K mg (gW T.tabs SA) [.fz, .fz, .fz] false d_is_sized) := by
  refine fn_den (N := ["thing", "low", "high"]) (m1 := []) T.F_is_sized sc_is_sized rfl rfl (by decide) (fun cdv A outer s H E hr => ?_)
  have kx := kx_fn (g := gW T.tabs SA) (P := P) (w := w) (K := K) (mg := mg) (base := base) (N := ["thing", "low", "high"]) (qual := "is_sized") (st := top 3) (f := T.A_is_sized) (cdv := cdv) (A := A) (outer := outer) (s := s) (H := H) (E := E) (k := 0) sc_is_sized hr
  exact svs_one (sv_ret (ev_andV (ev_isi isT_tuple rfl rfl T.b_isinstance rfl T.b_tuple (vv 0)) (ev_one (c2 (rel_le kx.ux) (rel_le kx.ux) (EV.eb (vv 1)) (EV.eb (ev_len rfl T.b_len (EV.eb (vv 0)))) (EV.eb (vv 2))))))
/-! next_times -/
def b_next_times : DS := dSeq (dTupSet [3, 4, 5] (dVar 0)) (dSeq (dPar [6, 7, 8] (dCons (d1 fLen (dVar 2)) (dCons (dC (.int 0)) (dCons (d2 (fI (fun _ _ => true) fun i j => i - j) (dVar 1) (dC (.int 1))) (dNil))))) (dSeq (dFor (dIt seqD (dVar 5)) (.tup [9, 10]) (dSeq (dIfS (dAnd (dTest (d2 fEq (dVar 10) (dVar 6))) (dTest (d2 fLt (dVar 9) (dVar 6)))) (dSet 7 (d2 fMax2 (dVar 7) (d2 fAdd (d2 fIx (dVar 2) (dVar 9)) (dC (.int 1))))) (dNx)) (dIfS (dAnd (dTest (d2 fEq (dVar 9) (dVar 6))) (dTest (d2 fLt (dVar 10) (dVar 6)))) (dSet 8 (d2 fMin2 (dVar 8) (d2 (fI (fun _ _ => true) fun i j => i - j) (d2 fIx (dVar 2) (dVar 10)) (dC (.int 1))))) (dNx)))) (dSeq (dSet 11 (dComp (dIt seqD (dVar 4)) (.tup [9, 10]) (dTest (d2 fEq (dVar 10) (dVar 6))) (d2 fIx (dVar 2) (dVar 9)))) (dRet (dComp (dRng2 (dVar 7) (d2 fAdd (dVar 8) (dC (.int 1)))) (.nm 12) (dTest (d2 (fIn true) (dVar 12) (dVar 11))) (dVar 12))))))
def d_next_times : List PyData → Store → R PyData := dFn false 13 b_next_times
theorem ok_next_times : FnOk P w K mg base (L2.CX P w) 1 T.A_next_times T.D_next_times ["mixed", "k", "times"] (spD K mg (gW T.tabs SA) [.fz, .fz, .fz] false d_next_times) := by
  refine fn_den (N := ["mixed", "k", "times", "n", "ties", "arrows", "place", "low", "high", "a", "b", "taken", "time"]) (m1 := []) T.F_next_times sc_next_times rfl rfl (by decide) (fun cdv A outer s H E hr => ?_)
  have kx := kx_fn (g := gW T.tabs SA) (P := P) (w := w) (K := K) (mg := mg) (base := base) (N := ["mixed", "k", "times", "n", "ties", "arrows", "place", "low", "high", "a", "b", "taken", "time"]) (qual := "next_times") (st := top 22) (f := T.A_next_times) (cdv := cdv) (A := A) (outer := outer) (s := s) (H := H) (E := E) (k := 0) sc_next_times hr
  exact svs_cons (sv_tup (is := [3, 4, 5]) (vv 0) (by decide) (ps_asg we (pg_tup kx.hc (pgs_cons (pgn 3 kx.hN) (pgs_cons (pgn 4 kx.hN) (pgs_cons (pgn 5 kx.hN) (pgs_nil)))))))
      (svs_cons (sv_parT (is := [6, 7, 8]) (eq_val (ev_len rfl T.b_len (EV.eb (vv 2))) (eq_val (ev_int) (eq_val (ev_sub (EV.eb (vv 1)) (EV.eb (ev_int))) (eq_nil)))) (by decide) rfl (by decide) (fun ta h => ps_asg (pe_tup h) (pg_tup kx.hc (pgs_cons (pgn 6 kx.hN) (pgs_cons (pgn 7 kx.hN) (pgs_cons (pgn 8 kx.hN) (pgs_nil)))))))
      (svs_cons (sv_for (m := [.fz, .fz, .fz, .fz, .fz, .fz, .fz, .fz, .fz, .fz, .fz, .fz, .fz]) (t := (.tup [9, 10])) (passes_of rfl) kx.hc (if_any (vv 5)) (by decide) (pg_tup kx.hc (pgs_cons (pgn 9 kx.hN) (pgs_cons (pgn 10 kx.hN) (pgs_nil)))) (svs_cons (sv_if (m1 := [.fz, .fz, .fz, .fz, .fz, .fz, .fz, .fz, .fz, .fz, .fz, .fz, .fz]) (et_w (ew_and (t1 (rel_eq kx.ux) (EV.eb (vv 10)) (EV.eb (vv 6))) (ew_and1 (t1 (rel_lt kx.ux) (EV.eb (vv 9)) (EV.eb (vv 6)))))) (svs_one (sv_set (i := 7) (ev_max2 kx.hc (by rfl) T.b_max (vv 7) (ev_add (EV.eb (ev_ix (EV.eb (vv 2)) (EV.eb (vv 9)) (fun _ _ => rfl))) (EV.eb (ev_int)))) (by decide) (ps_set kx.hN rfl (Or.inl rfl) we))) (svs_nil))
      (svs_one (sv_if (m1 := [.fz, .fz, .fz, .fz, .fz, .fz, .fz, .fz, .fz, .fz, .fz, .fz, .fz]) (et_w (ew_and (t1 (rel_eq kx.ux) (EV.eb (vv 9)) (EV.eb (vv 6))) (ew_and1 (t1 (rel_lt kx.ux) (EV.eb (vv 10)) (EV.eb (vv 6)))))) (svs_one (sv_set (i := 8) (ev_min2 kx.hc (by rfl) T.b_min (vv 8) (ev_sub (EV.eb (ev_ix (EV.eb (vv 2)) (EV.eb (vv 10)) (fun _ _ => rfl))) (EV.eb (ev_int)))) (by decide) (ps_set kx.hN rfl (Or.inl rfl) we))) (svs_nil)))))
      (svs_cons (sv_set (i := 11) (EO.ev (eo_lcIf (t := (.tup [9, 10])) (own := [("a", 9), ("b", 10)]) kx.hc kx.hN (IFo.c (if_any (vv 4))) (blk_by (by show blkB ["mixed", "k", "times", "n", "ties", "arrows", "place", "low", "high", "a", "b", "taken", "time"] (defScope (top 22)) _ _ = true; decide +kernel)) (by decide) (by decide) (fun sc1 Hc1 Cc1 lc1 fc1 => pg_tup (kx.inn _ sc1 Hc1 Cc1 lc1 fc1).hc (pgs_cons (pgn 9 (kx.inn _ sc1 Hc1 Cc1 lc1 fc1).hN) (pgs_cons (pgn 10 (kx.inn _ sc1 Hc1 Cc1 lc1 fc1).hN) (pgs_nil)))) (fun sc1 Hc1 Cc1 lc1 fc1 => t1 (rel_eq (kx.inn _ sc1 Hc1 Cc1 lc1 fc1).ux) (EV.eb (vv 10)) (EV.eb (vv 6))) (fun sc1 Hc1 Cc1 lc1 fc1 => ev_ix (EV.eb (vv 2)) (EV.eb (vv 9)) (fun _ _ => rfl)))) (by decide) (ps_set kx.hN rfl (Or.inr rfl) we))
      (svs_one (sv_ret (EO.ev (eo_lcIf (t := (.nm 12)) (own := [("time", 12)]) kx.hc kx.hN (IFo.c (if_rng2 rfl T.b_range (vv 7) (ev_add (EV.eb (vv 8)) (EV.eb (ev_int))))) (blk_by (by show blkB ["mixed", "k", "times", "n", "ties", "arrows", "place", "low", "high", "a", "b", "taken", "time"] (defScope (top 22)) _ _ = true; decide +kernel)) (by decide) (by decide) (fun sc2 Hc2 Cc2 lc2 fc2 => pgn 12 (kx.inn _ sc2 Hc2 Cc2 lc2 fc2).hN) (fun sc2 Hc2 Cc2 lc2 fc2 => t1 (rel_notIn (kx.inn _ sc2 Hc2 Cc2 lc2 fc2).ux) (EV.eb (vv 12)) (EV.eb (vv 11))) (fun sc2 Hc2 Cc2 lc2 fc2 => vv 12))))))))
/-! pairs_ahead -/
def b_pairs_ahead : DS := dSeq (dSet 1 (dLst (dNil))) (dSeq (dFor (dIt (fEnum 0) (dVar 0)) (.tup [2, 3]) (dExt 1 (dComp (dIt (fEnum 0) (dVar 0)) (.tup [4, 5]) (dTest (d2 fLt (dVar 3) (dVar 5))) (dTup (dCons (dVar 2) (dCons (dVar 4) (dNil))))))) (dRet (dVar 1)))
def d_pairs_ahead : List PyData → Store → R PyData := dFn false 6 b_pairs_ahead
theorem ok_pairs_ahead : FnOk P w K mg base (L2.CX P w) 1 T.A_pairs_ahead T.D_pairs_ahead ["times"] (spD K mg (gW T.tabs SA) [.fz] false d_pairs_ahead) := by
  refine fn_den (N := ["times", "found", "a", "time", "b", "other"]) (m1 := []) T.F_pairs_ahead sc_pairs_ahead rfl rfl (by decide) (fun cdv A outer s H E hr => ?_)
  have kx := kx_fn (g := gW T.tabs SA) (P := P) (w := w) (K := K) (mg := mg) (base := base) (N := ["times", "found", "a", "time", "b", "other"]) (qual := "pairs_ahead") (st := top 25) (f := T.A_pairs_ahead) (cdv := cdv) (A := A) (outer := outer) (s := s) (H := H) (E := E) (k := 0) sc_pairs_ahead hr
  exact svs_cons (sv_seto (i := 1) (eo_lst (ea_nil)) (by decide) (ps_set kx.hN rfl (Or.inl rfl) we))
      (svs_cons (sv_for (m := [.fz, .own, .fz, .fz, .fz, .fz]) (t := (.tup [2, 3])) (passes_of rfl) kx.hc (if_enum rfl T.b_enumerate (vv 0)) (by decide) (pg_tup kx.hc (pgs_cons (pgn 2 kx.hN) (pgs_cons (pgn 3 kx.hN) (pgs_nil)))) (svs_one (sv_extend rfl (EO.eb (eo_lcIf (t := (.tup [4, 5])) (own := [("b", 4), ("other", 5)]) kx.hc kx.hN (IFo.c (if_enum rfl T.b_enumerate (vv 0))) (blk_by (by show blkB ["times", "found", "a", "time", "b", "other"] (defScope (top 25)) _ _ = true; decide +kernel)) (by decide) (by decide) (fun sc1 Hc1 Cc1 lc1 fc1 => pg_tup (kx.inn _ sc1 Hc1 Cc1 lc1 fc1).hc (pgs_cons (pgn 4 (kx.inn _ sc1 Hc1 Cc1 lc1 fc1).hN) (pgs_cons (pgn 5 (kx.inn _ sc1 Hc1 Cc1 lc1 fc1).hN) (pgs_nil)))) (fun sc1 Hc1 Cc1 lc1 fc1 => t1 (rel_lt (kx.inn _ sc1 Hc1 Cc1 lc1 fc1).ux) (EV.eb (vv 3)) (EV.eb (vv 5))) (fun sc1 Hc1 Cc1 lc1 fc1 => ev_tup (ea_cons (vv 2) (ea_cons (vv 4) (ea_nil)))))) (pv 1))))
      (svs_freeze (j := 1) rfl (svs_one (sv_ret (vv 1)))))
/-! _law_hand -/
def b__law_hand : DS := dSeq (dSet 1 (dComp (dIt lstD (dSl fSlL (dVar 0) (pNo) (pSm (dC (.int 63))))) (.nm 2) (dYes) (d1 fAbs (d1 fInt (dVar 2))))) (dRet (dLst (dCons (dVar 1) (dCons (dC (.int 0)) (dCons (dC (.int 0)) (dCons (d2 fAdd (dC (.int 61)) (d2 fTimes (dC (.int 7)) (d1 fLen (dVar 1)))) (dCons (dC (.int 0)) (dNil))))))))
def d__law_hand : List PyData → Store → R PyData := dFn true 3 b__law_hand
theorem ok__law_hand : FnOk P w K mg base (L2.CX P w) 1 T.A__law_hand T.D__law_hand ["script"] (spD K mg (gW T.tabs SA) [.cs] true d__law_hand) := by
  refine fn_den (N := ["script", "cells", "cell"]) (m1 := []) T.F__law_hand sc__law_hand rfl rfl (by decide) (fun cdv A outer s H E hr => ?_)
  have kx := kx_fn (g := gW T.tabs SA) (P := P) (w := w) (K := K) (mg := mg) (base := base) (N := ["script", "cells", "cell"]) (qual := "_law_hand") (st := top 29) (f := T.A__law_hand) (cdv := cdv) (A := A) (outer := outer) (s := s) (H := H) (E := E) (k := 0) sc__law_hand hr
  exact svs_cons (sv_lc (i := 1) (t := (.nm 2)) (own := [("cell", 2)]) (by decide) rfl rfl rfl kx.hc kx.hN (ic_list (EO.eb (eo_csSl (i := 0) rfl (pv 0) (ep_no) (ep_sm (ev_int))))) (blk_by (by show blkB ["script", "cells", "cell"] (defScope (top 29)) _ _ = true; decide +kernel)) (by decide) (by decide) (fun sc1 Hc1 Cc1 lc1 fc1 => pgn 2 (kx.inn _ sc1 Hc1 Cc1 lc1 fc1).hN) (fun sc1 Hc1 Cc1 lc1 fc1 => ev_abs rfl T.b_abs (EV.eb (ev_int_ rfl T.b_int (EV.eb (vv 2))))))
      (svs_freeze (j := 1) rfl (svs_one (sv_reto (eo_lst (ea_cons (vv 1) (ea_cons (ev_int) (ea_cons (ev_int) (ea_cons (ev_add (EV.eb (ev_int)) (EV.eb (ev_times (EV.eb (ev_int)) (EV.eb (ev_len rfl T.b_len (EV.eb (vv 1))))))) (ea_cons (ev_int) (ea_nil))))))))))
/-! _law_draw -/
def b__law_draw : DS := dSeq (dIfS (dAnd (dTest (d2 fEq (dStIx 0 (dC (.int 2))) (dC (.int 0)))) (dTest (d2 fLt (dStIx 0 (dC (.int 1))) (d1 fLen (dStIx 0 (dC (.int 0))))))) (dSeq (dSet 2 (d2 fIx (dStIx 0 (dC (.int 0))) (dStIx 0 (dC (.int 1))))) (dSeq (dStSet 0 (dC (.int 1)) (d2 fAdd (dStIx 0 (dC (.int 1))) (dC (.int 1)))) (dSeq (dStSet 0 (dC (.int 3)) (d2 (fI cMod fun i j => i % j) (d1 fInt (d2 fAdd (d2 fAdd (d2 fTimes (dStIx 0 (dC (.int 3))) (dC (.int 69621))) (d2 fTimes (dVar 2) (dC (.int 40692)))) (dC (.int 31)))) (dC (.int 2147483629)))) (dIfS (dTest (d2 fGe (dVar 2) (d2 (fI cPow fun i j => i ^ j.toNat) (dC (.int 10)) (dC (.int 18))))) (dStSet 0 (dC (.int 2)) (dVar 2)) (dNx))))) (dNx)) (dSeq (dIfS (dTest (d2 fGt (dStIx 0 (dC (.int 2))) (dC (.int 0)))) (dSeq (dSet 3 (d2 (fI cMod fun i j => i % j) (d1 fInt (dStIx 0 (dC (.int 2)))) (dVar 1))) (dSeq (dStSet 0 (dC (.int 2)) (d2 (fI cDiv fun i j => i / j) (dStIx 0 (dC (.int 2))) (dVar 1))) (dRet (dVar 3)))) (dNx)) (dSeq (dStSet 0 (dC (.int 4)) (d2 fAdd (dStIx 0 (dC (.int 4))) (dC (.int 1)))) (dSeq (dSet 4 (d2 (fI cMod fun i j => i % j) (d1 fInt (d2 fTimes (d1 fInt (d2 fAdd (dStIx 0 (dC (.int 3))) (d2 fTimes (dC (.int 7919)) (dStIx 0 (dC (.int 4)))))) (dC (.int 48271)))) (dC (.int 2147483647)))) (dSeq (dSet 4 (d2 (fI cMod fun i j => i % j) (d1 fInt (d2 fTimes (dVar 4) (d2 fAdd (d2 (fI cDiv fun i j => i / j) (dVar 4) (dC (.int 1009))) (dC (.int 69621))))) (dC (.int 2147483647)))) (dSeq (dSet 4 (d2 (fI cMod fun i j => i % j) (d1 fInt (d2 fTimes (dVar 4) (d2 fAdd (d2 (fI cDiv fun i j => i / j) (dVar 4) (dC (.int 2003))) (dC (.int 40014))))) (dC (.int 2147483563)))) (dRet (d2 (fI cMod fun i j => i % j) (d1 fInt (d2 (fI cDiv fun i j => i / j) (dVar 4) (dC (.int 16)))) (dVar 1))))))))
def d__law_draw : List PyData → Store → R PyData := dFn false 5 b__law_draw
theorem ok__law_draw : FnOk P w K mg base (L2.CX P w) 1 T.A__law_draw T.D__law_draw ["hand", "many"] (spD K mg (gW T.tabs SA) [.st 0, .fz] false d__law_draw) := by
  refine fn_den (N := ["hand", "many", "cell", "digit", "number"]) (m1 := []) T.F__law_draw sc__law_draw rfl rfl (by decide) (fun cdv A outer s H E hr => ?_)
  have kx := kx_fn (g := gW T.tabs SA) (P := P) (w := w) (K := K) (mg := mg) (base := base) (N := ["hand", "many", "cell", "digit", "number"]) (qual := "_law_draw") (st := top 30) (f := T.A__law_draw) (cdv := cdv) (A := A) (outer := outer) (s := s) (H := H) (E := E) (k := 0) sc__law_draw hr
  exact svs_cons (sv_if (m1 := [.st 0, .fz, .fz, .fz, .fz]) (et_w (ew_and (t1 (rel_eq kx.ux) (EV.eb (ev_stIx (k := 0) rfl (pv 0) (ev_int) (fun _ _ => rfl))) (EV.eb (ev_int))) (ew_and1 (t1 (rel_lt kx.ux) (EV.eb (ev_stIx (k := 0) rfl (pv 0) (ev_int) (fun _ _ => rfl))) (EV.eb (ev_len rfl T.b_len (EV.eb (ev_stIx (k := 0) rfl (pv 0) (ev_int) (fun _ _ => rfl))))))))) (svs_cons (sv_set (i := 2) (ev_ix (EV.eb (ev_stIx (k := 0) rfl (pv 0) (ev_int) (fun _ _ => rfl))) (EV.eb (ev_stIx (k := 0) rfl (pv 0) (ev_int) (fun _ _ => rfl))) (fun _ _ => rfl)) (by decide) (ps_set kx.hN rfl (Or.inl rfl) we))
      (svs_cons (sv_stSet (k := 0) rfl (pv 0) (ev_add (EV.eb (ev_stIx (k := 0) rfl (pv 0) (ev_int) (fun _ _ => rfl))) (EV.eb (ev_int))) (ev_int) (fun te g h1 h2 => ps_asg h1 h2))
      (svs_cons (sv_stSet (k := 0) rfl (pv 0) (ev_mod (EV.eb (ev_int_ rfl T.b_int (EV.eb (ev_add (EV.eb (ev_add (EV.eb (ev_times (EV.eb (ev_stIx (k := 0) rfl (pv 0) (ev_int) (fun _ _ => rfl))) (EV.eb (ev_int)))) (EV.eb (ev_times (EV.eb (vv 2)) (EV.eb (ev_int)))))) (EV.eb (ev_int)))))) (EV.eb (ev_int))) (ev_int) (fun te g h1 h2 => ps_asg h1 h2))
      (svs_one (sv_if (m1 := [.st 0, .fz, .fz, .fz, .fz]) (t1 (rel_ge kx.ux) (EV.eb (vv 2)) (EV.eb (ev_pow (EV.eb (ev_int)) (EV.eb (ev_int))))) (svs_one (sv_stSet (k := 0) rfl (pv 0) (vv 2) (ev_int) (fun te g h1 h2 => ps_asg h1 h2))) (svs_nil)))))) (svs_nil))
      (svs_cons (sv_if (m1 := [.st 0, .fz, .fz, .fz, .fz]) (t1 (rel_gt kx.ux) (EV.eb (ev_stIx (k := 0) rfl (pv 0) (ev_int) (fun _ _ => rfl))) (EV.eb (ev_int))) (svs_cons (sv_set (i := 3) (ev_mod (EV.eb (ev_int_ rfl T.b_int (EV.eb (ev_stIx (k := 0) rfl (pv 0) (ev_int) (fun _ _ => rfl))))) (EV.eb (vv 1))) (by decide) (ps_set kx.hN rfl (Or.inl rfl) we))
      (svs_cons (sv_stSet (k := 0) rfl (pv 0) (ev_fdiv (EV.eb (ev_stIx (k := 0) rfl (pv 0) (ev_int) (fun _ _ => rfl))) (EV.eb (vv 1))) (ev_int) (fun te g h1 h2 => ps_asg h1 h2))
      (svs_one (sv_ret (vv 3))))) (svs_nil))
      (svs_cons (sv_stSet (k := 0) rfl (pv 0) (ev_add (EV.eb (ev_stIx (k := 0) rfl (pv 0) (ev_int) (fun _ _ => rfl))) (EV.eb (ev_int))) (ev_int) (fun te g h1 h2 => ps_asg h1 h2))
      (svs_cons (sv_set (i := 4) (ev_mod (EV.eb (ev_int_ rfl T.b_int (EV.eb (ev_times (EV.eb (ev_int_ rfl T.b_int (EV.eb (ev_add (EV.eb (ev_stIx (k := 0) rfl (pv 0) (ev_int) (fun _ _ => rfl))) (EV.eb (ev_times (EV.eb (ev_int)) (EV.eb (ev_stIx (k := 0) rfl (pv 0) (ev_int) (fun _ _ => rfl))))))))) (EV.eb (ev_int)))))) (EV.eb (ev_int))) (by decide) (ps_set kx.hN rfl (Or.inl rfl) we))
      (svs_cons (sv_set (i := 4) (ev_mod (EV.eb (ev_int_ rfl T.b_int (EV.eb (ev_times (EV.eb (vv 4)) (EV.eb (ev_add (EV.eb (ev_fdiv (EV.eb (vv 4)) (EV.eb (ev_int)))) (EV.eb (ev_int)))))))) (EV.eb (ev_int))) (by decide) (ps_set kx.hN rfl (Or.inl rfl) we))
      (svs_cons (sv_set (i := 4) (ev_mod (EV.eb (ev_int_ rfl T.b_int (EV.eb (ev_times (EV.eb (vv 4)) (EV.eb (ev_add (EV.eb (ev_fdiv (EV.eb (vv 4)) (EV.eb (ev_int)))) (EV.eb (ev_int)))))))) (EV.eb (ev_int))) (by decide) (ps_set kx.hN rfl (Or.inl rfl) we))
      (svs_one (sv_ret (ev_mod (EV.eb (ev_int_ rfl T.b_int (EV.eb (ev_fdiv (EV.eb (vv 4)) (EV.eb (ev_int)))))) (EV.eb (vv 1))))))))))
/-! _law_fits -/
def b__law_fits : DS := dSeq (dTupSet [2, 3, 4] (dVar 0)) (dSeq (dSet 5 (d1 fLen (dVar 1))) (dSeq (dIfS (dTest (d1 (fBs fun bs => bs.any _root_.id) (dComp (dIt seqD (dVar 3)) (.tup [6, 7]) (dYes) (dAndV (d2 fLt (dVar 7) (dVar 5)) (d2 fEq (d2 fIx (dVar 1) (dVar 6)) (d2 fIx (dVar 1) (dVar 7))))))) (dRet (dC (.bool false))) (dNx)) (dRet (d1 (fBs fun bs => bs.all _root_.id) (dComp (dIt seqD (dVar 4)) (.tup [6, 7]) (dYes) (dOrV (d2 fGe (d2 fMax2 (dVar 6) (dVar 7)) (dVar 5)) (d2 fLt (d2 fIx (dVar 1) (dVar 6)) (d2 fIx (dVar 1) (dVar 7)))))))))
def d__law_fits : List PyData → Store → R PyData := dFn false 8 b__law_fits
theorem ok__law_fits : FnOk P w K mg base (L2.CX P w) 1 T.A__law_fits T.D__law_fits ["mixed", "row"] (spD K mg (gW T.tabs SA) [.fz, .fz] false d__law_fits) := by
  refine fn_den (N := ["mixed", "row", "n", "ties", "arrows", "many", "a", "b"]) (m1 := []) T.F__law_fits sc__law_fits rfl rfl (by decide) (fun cdv A outer s H E hr => ?_)
  have kx := kx_fn (g := gW T.tabs SA) (P := P) (w := w) (K := K) (mg := mg) (base := base) (N := ["mixed", "row", "n", "ties", "arrows", "many", "a", "b"]) (qual := "_law_fits") (st := top 35) (f := T.A__law_fits) (cdv := cdv) (A := A) (outer := outer) (s := s) (H := H) (E := E) (k := 0) sc__law_fits hr
  exact svs_cons (sv_tup (is := [2, 3, 4]) (vv 0) (by decide) (ps_asg we (pg_tup kx.hc (pgs_cons (pgn 2 kx.hN) (pgs_cons (pgn 3 kx.hN) (pgs_cons (pgn 4 kx.hN) (pgs_nil)))))))
      (svs_cons (sv_set (i := 5) (ev_len rfl T.b_len (EV.eb (vv 1))) (by decide) (ps_set kx.hN rfl (Or.inr rfl) we))
      (svs_cons (sv_if (m1 := [.fz, .fz, .fz, .fz, .fz, .fz, .fz, .fz]) (et_val (ev_any kx.hc rfl T.b_any (EO.eb (eo_lc (t := (.tup [6, 7])) (own := [("a", 6), ("b", 7)]) kx.hc kx.hN (IFo.c (if_any (vv 3))) (blk_by (by show blkB ["mixed", "row", "n", "ties", "arrows", "many", "a", "b"] (defScope (top 35)) _ _ = true; decide +kernel)) (by decide) (by decide) (fun sc1 Hc1 Cc1 lc1 fc1 => pg_tup (kx.inn _ sc1 Hc1 Cc1 lc1 fc1).hc (pgs_cons (pgn 6 (kx.inn _ sc1 Hc1 Cc1 lc1 fc1).hN) (pgs_cons (pgn 7 (kx.inn _ sc1 Hc1 Cc1 lc1 fc1).hN) (pgs_nil)))) (fun sc1 Hc1 Cc1 lc1 fc1 => ev_andV (c1 (rel_lt (kx.inn _ sc1 Hc1 Cc1 lc1 fc1).ux) (EV.eb (vv 7)) (EV.eb (vv 5))) (ev_one (c1 (rel_eq (kx.inn _ sc1 Hc1 Cc1 lc1 fc1).ux) (EV.eb (ev_ix (EV.eb (vv 1)) (EV.eb (vv 6)) (fun _ _ => rfl))) (EV.eb (ev_ix (EV.eb (vv 1)) (EV.eb (vv 7)) (fun _ _ => rfl)))))))))) (svs_one (sv_ret (ev_bl))) (svs_nil))
      (svs_one (sv_ret (ev_all kx.hc rfl T.b_all (EO.eb (eo_lc (t := (.tup [6, 7])) (own := [("a", 6), ("b", 7)]) kx.hc kx.hN (IFo.c (if_any (vv 4))) (blk_by (by show blkB ["mixed", "row", "n", "ties", "arrows", "many", "a", "b"] (defScope (top 35)) _ _ = true; decide +kernel)) (by decide) (by decide) (fun sc2 Hc2 Cc2 lc2 fc2 => pg_tup (kx.inn _ sc2 Hc2 Cc2 lc2 fc2).hc (pgs_cons (pgn 6 (kx.inn _ sc2 Hc2 Cc2 lc2 fc2).hN) (pgs_cons (pgn 7 (kx.inn _ sc2 Hc2 Cc2 lc2 fc2).hN) (pgs_nil)))) (fun sc2 Hc2 Cc2 lc2 fc2 => ev_orV (c1 (rel_ge (kx.inn _ sc2 Hc2 Cc2 lc2 fc2).ux) (EV.eb (ev_max2 (kx.inn _ sc2 Hc2 Cc2 lc2 fc2).hc (by rfl) T.b_max (vv 6) (vv 7))) (EV.eb (vv 5))) (ev_one (c1 (rel_lt (kx.inn _ sc2 Hc2 Cc2 lc2 fc2).ux) (EV.eb (ev_ix (EV.eb (vv 1)) (EV.eb (vv 6)) (fun _ _ => rfl))) (EV.eb (ev_ix (EV.eb (vv 1)) (EV.eb (vv 7)) (fun _ _ => rfl)))))))))))))
/-! _law_ring -/
def b__law_ring : DS := dSeq (dSet 2 (dComp (dRng1 (dVar 0)) (.nm 7) (dYes) (dTup (dCons (dVar 7) (dNil))))) (dSeq (dFor (dRng1 (dVar 0)) (.nm 3) (dSeq (dSet 4 (dComp (dIt seqD (dVar 2)) (.nm 6) (dTest (d2 (fIn false) (dTup (dCons (d2 fIx (dVar 6) (d1 fNeg (dC (.int 1)))) (dCons (d2 fIx (dVar 6) (dC (.int 0))) (dNil)))) (dVar 1))) (dVar 6))) (dSeq (dIfS (dTest (d2 fNe (dVar 4) (dLst (dNil)))) (dRet (d1 (fMM PySem.W.minD) (dVar 4))) (dNx)) (dSeq (dSet 5 (dLst (dNil))) (dSeq (dFor (dIt seqD (dVar 2)) (.nm 6) (dSet 5 (d2 fAddL (dVar 5) (dComp (dIt seqD (dVar 1)) (.tup [8, 9]) (dAnd (dTest (d2 fEq (dVar 8) (d2 fIx (dVar 6) (d1 fNeg (dC (.int 1)))))) (dTest (d2 (fIn true) (dVar 9) (dVar 6)))) (d2 fAdd (dVar 6) (dTup (dCons (dVar 9) (dNil)))))))) (dSet 2 (dVar 5))))))) (dRet (dC .none)))
def d__law_ring : List PyData → Store → R PyData := dFn false 10 b__law_ring
theorem ok__law_ring : FnOk P w K mg base (L2.CX P w) 1 T.A__law_ring T.D__law_ring ["n", "steps"] (spD K mg (gW T.tabs SA) [.fz, .fz] false d__law_ring) := by
  refine fn_den (N := ["n", "steps", "rows", "size", "done", "longer", "row", "place", "a", "b"]) (m1 := []) T.F__law_ring sc__law_ring rfl rfl (by decide) (fun cdv A outer s H E hr => ?_)
  have kx := kx_fn (g := gW T.tabs SA) (P := P) (w := w) (K := K) (mg := mg) (base := base) (N := ["n", "steps", "rows", "size", "done", "longer", "row", "place", "a", "b"]) (qual := "_law_ring") (st := top 37) (f := T.A__law_ring) (cdv := cdv) (A := A) (outer := outer) (s := s) (H := H) (E := E) (k := 0) sc__law_ring hr
  exact svs_cons (sv_lc (i := 2) (t := (.nm 7)) (own := [("place", 7)]) (by decide) rfl rfl rfl kx.hc kx.hN (IFo.c (if_rng1 rfl T.b_range (vv 0))) (blk_by (by show blkB ["n", "steps", "rows", "size", "done", "longer", "row", "place", "a", "b"] (defScope (top 37)) _ _ = true; decide +kernel)) (by decide) (by decide) (fun sc1 Hc1 Cc1 lc1 fc1 => pgn 7 (kx.inn _ sc1 Hc1 Cc1 lc1 fc1).hN) (fun sc1 Hc1 Cc1 lc1 fc1 => ev_tup (ea_cons (vv 7) (ea_nil))))
      (svs_freeze (j := 2) rfl (svs_cons (sv_for (m := [.fz, .fz, .fz, .fz, .fz, .fz, .fz, .fz, .fz, .fz]) (t := (.nm 3)) (passes_of rfl) kx.hc (if_rng1 rfl T.b_range (vv 0)) (by decide) (pgn 3 kx.hN) (svs_cons (sv_lcIf (i := 4) (t := (.nm 6)) (own := [("row", 6)]) (by decide) rfl rfl rfl kx.hc kx.hN (IFo.c (if_any (vv 2))) (blk_by (by show blkB ["n", "steps", "rows", "size", "done", "longer", "row", "place", "a", "b"] (defScope (top 37)) _ _ = true; decide +kernel)) (by decide) (by decide) (fun sc2 Hc2 Cc2 lc2 fc2 => pgn 6 (kx.inn _ sc2 Hc2 Cc2 lc2 fc2).hN) (fun sc2 Hc2 Cc2 lc2 fc2 => t1 (rel_in (kx.inn _ sc2 Hc2 Cc2 lc2 fc2).ux) (EV.eb (ev_tup (ea_cons (ev_ix (EV.eb (vv 6)) (EV.eb (ev_neg (ev_int))) (fun _ _ => rfl)) (ea_cons (ev_ix (EV.eb (vv 6)) (EV.eb (ev_int)) (fun _ _ => rfl)) (ea_nil))))) (EV.eb (vv 1))) (fun sc2 Hc2 Cc2 lc2 fc2 => vv 6))
      (svs_freeze (j := 4) rfl (svs_cons (sv_if (m1 := [.fz, .fz, .fz, .fz, .fz, .fz, .fz, .fz, .fz, .fz]) (t1 (rel_ne kx.ux) (EV.eb (vv 4)) (EO.eb (eo_lst (ea_nil)))) (svs_one (sv_ret (ev_min1 kx.hc kx.ux.u65 (by rfl) T.b_min (EV.eb (vv 4))))) (svs_nil))
      (svs_cons (sv_set (i := 5) (EO.ev (eo_lst (ea_nil))) (by decide) (ps_set kx.hN rfl (Or.inl rfl) we))
      (svs_cons (sv_for (m := [.fz, .fz, .fz, .fz, .fz, .fz, .fz, .fz, .fz, .fz]) (t := (.nm 6)) (passes_of rfl) kx.hc (if_any (vv 2)) (by decide) (pgn 6 kx.hN) (svs_one (sv_set (i := 5) (EO.ev (eo_add (EV.eb (vv 5)) (EO.eb (eo_lcIf (t := (.tup [8, 9])) (own := [("a", 8), ("b", 9)]) kx.hc kx.hN (IFo.c (if_any (vv 1))) (blk_by (by show blkB ["n", "steps", "rows", "size", "done", "longer", "row", "place", "a", "b"] (defScope (top 37)) _ _ = true; decide +kernel)) (by decide) (by decide) (fun sc3 Hc3 Cc3 lc3 fc3 => pg_tup (kx.inn _ sc3 Hc3 Cc3 lc3 fc3).hc (pgs_cons (pgn 8 (kx.inn _ sc3 Hc3 Cc3 lc3 fc3).hN) (pgs_cons (pgn 9 (kx.inn _ sc3 Hc3 Cc3 lc3 fc3).hN) (pgs_nil)))) (fun sc3 Hc3 Cc3 lc3 fc3 => et_w (ew_and (t1 (rel_eq (kx.inn _ sc3 Hc3 Cc3 lc3 fc3).ux) (EV.eb (vv 8)) (EV.eb (ev_ix (EV.eb (vv 6)) (EV.eb (ev_neg (ev_int))) (fun _ _ => rfl)))) (ew_and1 (t1 (rel_notIn (kx.inn _ sc3 Hc3 Cc3 lc3 fc3).ux) (EV.eb (vv 9)) (EV.eb (vv 6)))))) (fun sc3 Hc3 Cc3 lc3 fc3 => ev_add (EV.eb (vv 6)) (EV.eb (ev_tup (ea_cons (vv 9) (ea_nil))))))))) (by decide) (ps_set kx.hN rfl (Or.inl rfl) we))))
      (svs_one (sv_set (i := 2) (vv 5) (by decide) (ps_set kx.hN rfl (Or.inl rfl) we)))))))))
      (svs_one (sv_ret (ev_non)))))
/-! _law_word -/
def bl__law_word (dl0 : Store → R PyData) : DS := dSeq (dSet 1 (dC (.str "let"))) (dSeq (dTryN xcs (dDrop ((fun _ S => dl0 S))) ((inS [], fun xc => dSet 1 (dXc (xc.fs.lookup ("most" : Str)))) :: (inS ["NoCount", "NoMixed"], fun xc => dSeq (dSet 3 (dLst (dCons (dXc (some (.bool (inS ["NoCount"] xc.cls)))) (dCons (dXc (some (.bool (inS ["NoMixed"] xc.cls)))) (dCons (dXc (some (.bool (inS [] xc.cls)))) (dCons (dXc (some (.bool (inS [] xc.cls)))) (dNil))))))) (dSeq (dSet 4 (dLst (dCons (dC (.str "count")) (dCons (dC (.str "mixed")) (dCons (dC (.str "times")) (dCons (dC (.str "turning")) (dNil))))))) (dSet 1 (dIfE (dTest (d2 fEq (dM2 fCount (dVar 3) (dC (.bool true))) (dC (.int 1)))) (d2 fIx (dVar 4) (dM2 fIndex (dVar 3) (dC (.bool true)))) (dC (.str "other")))))) :: [])) (dRet (dVar 1)))
theorem lm__law_word : ∀ cdv, LamFn P w K mg base (gW T.tabs SA) "_law_word" "call" ["call", "word", "e", "flags", "names"] (defScope (top 39)) T.A__law_word cdv (defBody (top 39)) bl__law_word := by
  intro cdv A stack s H l dl0 hr act
  have kx := kx_nx (g := (gW T.tabs SA).withL l) (P := P) (w := w) (K := K) (mg := mg) (base := base) (Ng := ["call", "word", "e", "flags", "names"]) (x := "_law_word") (st := top 39) (gA := T.A__law_word) (cdg := cdv) (A := A) (stack := stack) (s := s) (H := H) sc__law_word hr
  exact ⟨[], svs_cons (sv_set (i := 1) (ev_str) (by decide) (ps_set kx.hN rfl (Or.inl rfl) we))
      (svs_cons (sv_tryN (cs := xcs) (mh := [.lm, .fz, .fz, .fz, .fz]) (m' := [.lm, .fz, .un, .fz, .fz]) rfl rfl kx.hN kx.tk rfl (fun W pn xe ty1 py1 => svs_weakB (m1 := [.lm, .fz, .fz, .fz, .fz]) rfl (svs_one (sv_expr (act _ _ _ _ _ _ ty1 rfl)))) (.cons (i := 2) (sub := inS []) (m2 := [.lm, .fz, .ea, .fz, .fz]) rfl rfl ⟨rfl, by decide, Or.inl T.g_TooMany⟩ (by decide) T.exm_TooMany (fun a oe d pn xc E hz hf hE hcs => svs_one (sv_set (i := 1) (ev_fldK 2 (cs := xcs) T.exc T.nof_most hz hf hE hcs) (by decide) (ps_set kx.sx.hN rfl (Or.inl rfl) we))) rfl rfl (by decide) (.cons (i := 2) (sub := inS ["NoCount", "NoMixed"]) (m2 := [.lm, .fz, .ea, .fz, .fz]) rfl rfl ⟨rfl, by decide, Or.inl T.g_ColourError⟩ (by decide) T.exm_ColourError (fun a oe d pn xc E hz hf hE hcs => svs_cons (sv_set (i := 3) (EO.ev (eo_lst (ea_cons (ev_isK 2 (cs := xcs) T.exc T.kit_NoCount hz hf hE hcs T.g_NoCount T.b_isinstance) (ea_cons (ev_isK 2 (cs := xcs) T.exc T.kit_NoMixed hz hf hE hcs T.g_NoMixed T.b_isinstance) (ea_cons (ev_isK 2 (cs := xcs) T.exc T.kit_NoTimes hz hf hE hcs T.g_NoTimes T.b_isinstance) (ea_cons (ev_isK 2 (cs := xcs) T.exc T.kit_NoTurning hz hf hE hcs T.g_NoTurning T.b_isinstance) (ea_nil))))))) (by decide) (ps_set kx.sx.hN rfl (Or.inl rfl) we))
      (svs_cons (sv_set (i := 4) (EO.ev (eo_lst (ea_cons (ev_str) (ea_cons (ev_str) (ea_cons (ev_str) (ea_cons (ev_str) (ea_nil))))))) (by decide) (ps_set kx.sx.hN rfl (Or.inl rfl) we))
      (svs_one (sv_set (i := 1) (ev_if (t1 (rel_eq kx.sx.ux) (EV.eb (ev_count kx.sx.ux.u65 (EV.eb (vv 3)) (ev_bl))) (EV.eb (ev_int))) (ev_ix (EV.eb (vv 4)) (EV.eb (ev_index kx.sx.ux.u65 (EV.eb (vv 3)) (ev_bl))) (fun _ _ => rfl)) (ev_str)) (by decide) (ps_set kx.sx.hN rfl (Or.inl rfl) we))))) rfl rfl (by decide) (.nil))) rfl)
      (svs_one (sv_ret (vv 1))))⟩
/-! _law_levels -/
def b__law_levels : DS := dSeq (dSet 2 (d2 fRepL (dLst (dCons (dC (.int 0)) (dNil))) (dVar 0))) (dSeq (dFor (dRng1 (dVar 0)) (.nm 3) (dFor (dIt seqD (dVar 1)) (.tup [4, 5]) (dSetI 2 (dVar 5) (d2 fMax2 (d2 fIx (dVar 2) (dVar 5)) (d2 fAdd (d2 fIx (dVar 2) (dVar 4)) (dC (.int 1))))))) (dRet (dVar 2)))
def d__law_levels : List PyData → Store → R PyData := dFn false 6 b__law_levels
theorem ok__law_levels : FnOk P w K mg base (L2.CX P w) 1 T.A__law_levels T.D__law_levels ["n", "steps"] (spD K mg (gW T.tabs SA) [.fz, .fz] false d__law_levels) := by
  refine fn_den (N := ["n", "steps", "found", "step", "a", "b"]) (m1 := []) T.F__law_levels sc__law_levels rfl rfl (by decide) (fun cdv A outer s H E hr => ?_)
  have kx := kx_fn (g := gW T.tabs SA) (P := P) (w := w) (K := K) (mg := mg) (base := base) (N := ["n", "steps", "found", "step", "a", "b"]) (qual := "_law_levels") (st := top 40) (f := T.A__law_levels) (cdv := cdv) (A := A) (outer := outer) (s := s) (H := H) (E := E) (k := 0) sc__law_levels hr
  exact svs_cons (sv_seto (i := 2) (eo_mul (EO.eb (eo_lst (ea_cons (ev_int) (ea_nil)))) (EV.eb (vv 0))) (by decide) (ps_set kx.hN rfl (Or.inl rfl) we))
      (svs_cons (sv_for (m := [.fz, .fz, .own, .fz, .fz, .fz]) (t := (.nm 3)) (passes_of rfl) kx.hc (if_rng1 rfl T.b_range (vv 0)) (by decide) (pgn 3 kx.hN) (svs_one (sv_for (m := [.fz, .fz, .own, .fz, .fz, .fz]) (t := (.tup [4, 5])) (passes_of rfl) kx.hc (if_any (vv 1)) (by decide) (pg_tup kx.hc (pgs_cons (pgn 4 kx.hN) (pgs_cons (pgn 5 kx.hN) (pgs_nil)))) (svs_one (sv_setI rfl (ev_max2 kx.hc (by rfl) T.b_max (ev_ix (vo 2) (EV.eb (vv 5)) (fun _ _ => rfl)) (ev_add (EV.eb (ev_ix (vo 2) (EV.eb (vv 4)) (fun _ _ => rfl))) (EV.eb (ev_int)))) (vv 5) (pv 2) (fun te g h1 h2 => ps_asg h1 h2))))))
      (svs_freeze (j := 2) rfl (svs_one (sv_ret (vv 2)))))
/-! is_within -/
def b_is_within : DS := dRet (dAndV (dCall d_is_integer (dCons (dVar 0) (dNil))) (dChain fLe fLe (dVar 1) (dVar 0) (dVar 2)))
def d_is_within : List PyData → Store → R PyData := dFn false 3 b_is_within
theorem ok_is_within : FnOk P w K mg base (L2.CX P w) 2 T.A_is_within T.D_is_within ["thing", "low", "high"] (spD K mg (gW T.tabs SA) [.fz, .fz, .fz] false d_is_within) := by
  refine fn_den (N := ["thing", "low", "high"]) (m1 := []) T.F_is_within sc_is_within rfl rfl (by decide) (fun cdv A outer s H E hr => ?_)
  have kx := kx_fn (g := gW T.tabs SA) (P := P) (w := w) (K := K) (mg := mg) (base := base) (N := ["thing", "low", "high"]) (qual := "is_within") (st := top 2) (f := T.A_is_within) (cdv := cdv) (A := A) (outer := outer) (s := s) (H := H) (E := E) (k := 1) sc_is_within hr
  exact svs_one (sv_ret (ev_andV (ev_call (ok_is_integer T tb _) (kx.hr.mono (by decide)) rfl (at_mk T.F_is_integer T.G_is_integer T.B_is_integer) kx.tk (em_val (vv 0) (em_nil))) (ev_one (c2 (rel_le kx.ux) (rel_le kx.ux) (EV.eb (vv 1)) (EV.eb (vv 0)) (EV.eb (vv 2))))))
/-! all_times -/
def b_all_times : DS := dSeq (dPar [3, 4] (dCons (dLst (dNil)) (dCons (dLst (dCons (dTup (dNil)) (dNil))) (dNil)))) (dSeq (dWhile fuel (dAnd (dTest (d2 fGt (d1 fLen (dVar 4)) (dC (.int 0)))) (dTest (d2 fLt (d1 fLen (dVar 3)) (dVar 2)))) (dSeq (dPop (.nm 5) 4) (dIfS (dTest (d2 fEq (d1 fLen (dVar 5)) (d2 fIx (dVar 0) (dC (.int 0))))) (dApp 3 (dVar 5)) (dExt 4 (dComp (dIt seqD (d1 fRevA (dCall d_next_times (dCons (dVar 0) (dCons (dVar 1) (dCons (dVar 5) (dNil))))))) (.nm 6) (dYes) (d2 fAdd (dVar 5) (dTup (dCons (dVar 6) (dNil))))))))) (dRet (dVar 3)))
def d_all_times : List PyData → Store → R PyData := dFn false 7 b_all_times
theorem ok_all_times : FnOk P w K mg base (L2.CX P w) 2 T.A_all_times T.D_all_times ["mixed", "k", "most"] (spD K mg (gW T.tabs SA) [.fz, .fz, .fz] false d_all_times) := by
  refine fn_den (N := ["mixed", "k", "most", "found", "waiting", "times", "time"]) (m1 := []) T.F_all_times sc_all_times rfl rfl (by decide) (fun cdv A outer s H E hr => ?_)
  have kx := kx_fn (g := gW T.tabs SA) (P := P) (w := w) (K := K) (mg := mg) (base := base) (N := ["mixed", "k", "most", "found", "waiting", "times", "time"]) (qual := "all_times") (st := top 23) (f := T.A_all_times) (cdv := cdv) (A := A) (outer := outer) (s := s) (H := H) (E := E) (k := 1) sc_all_times hr
  exact svs_cons (sv_par2 (i := 3) (j := 4) (eq_own (eo_lst (ea_nil)) (eq_own (eo_lst (ea_cons (ev_tup (ea_nil)) (ea_nil))) (eq_nil))) (by decide) (fun ta h => ps_par rfl kx.hN rfl rfl (by decide) rfl rfl h rfl))
      (svs_cons (sv_while (m := [.fz, .fz, .fz, .own, .own, .fz, .fz]) (n := fuel) (passes_of rfl) (et_w (ew_and (t1 (rel_gt kx.ux) (EV.eb (ev_len rfl T.b_len (vo 4))) (EV.eb (ev_int))) (ew_and1 (t1 (rel_lt kx.ux) (EV.eb (ev_len rfl T.b_len (vo 3))) (EV.eb (vv 2)))))) (svs_cons (sv_pop (t := (.nm 5)) rfl (pv 4) (by decide) (fun te h => ps_asg h (pgn 5 kx.hN)))
      (svs_one (sv_if (m1 := [.fz, .fz, .fz, .own, .own, .fz, .fz]) (t1 (rel_eq kx.ux) (EV.eb (ev_len rfl T.b_len (EV.eb (vv 5)))) (EV.eb (ev_ix (EV.eb (vv 0)) (EV.eb (ev_int)) (fun _ _ => rfl)))) (svs_one (sv_append rfl (vv 5) (pv 3))) (svs_one (sv_extend rfl (EO.eb (eo_lc (t := (.nm 6)) (own := [("time", 6)]) kx.hc kx.hN (IFo.c (if_any (ev_revA (ev_call (ok_next_times T tb _) (kx.hr.mono (by decide)) rfl (at_mk T.F_next_times T.G_next_times T.B_next_times) kx.tk (em_val (vv 0) (em_val (vv 1) (em_val (vv 5) (em_nil)))))))) (blk_by (by show blkB ["mixed", "k", "most", "found", "waiting", "times", "time"] (defScope (top 23)) _ _ = true; decide +kernel)) (by decide) (by decide) (fun sc1 Hc1 Cc1 lc1 fc1 => pgn 6 (kx.inn _ sc1 Hc1 Cc1 lc1 fc1).hN) (fun sc1 Hc1 Cc1 lc1 fc1 => ev_add (EV.eb (vv 5)) (EV.eb (ev_tup (ea_cons (vv 6) (ea_nil))))))) (pv 4)))))))
      (svs_freeze (j := 3) rfl (svs_one (sv_ret (vv 3)))))
/-! _law_any -/
def b__law_any : DS := dRet (d2 fIx (dVar 1) (dCall d__law_draw (dCons dSt (dCons (d1 fLen (dVar 1)) (dNil)))))
def d__law_any : List PyData → Store → R PyData := dFn false 2 b__law_any
theorem ok__law_any : FnOk P w K mg base (L2.CX P w) 2 T.A__law_any T.D__law_any ["hand", "some"] (spD K mg (gW T.tabs SA) [.st 0, .fz] false d__law_any) := by
  refine fn_den (N := ["hand", "some"]) (m1 := []) T.F__law_any sc__law_any rfl rfl (by decide) (fun cdv A outer s H E hr => ?_)
  have kx := kx_fn (g := gW T.tabs SA) (P := P) (w := w) (K := K) (mg := mg) (base := base) (N := ["hand", "some"]) (qual := "_law_any") (st := top 31) (f := T.A__law_any) (cdv := cdv) (A := A) (outer := outer) (s := s) (H := H) (E := E) (k := 1) sc__law_any hr
  exact svs_one (sv_ret (ev_ix (EV.eb (vv 1)) (EV.eb (ev_call (ok__law_draw T tb _) (kx.hr.mono (by decide)) rfl (at_mk T.F__law_draw T.G__law_draw T.B__law_draw) kx.tk (em_st (k := 0) (i := 0) rfl (pv 0) (em_val (ev_len rfl T.b_len (EV.eb (vv 1))) (em_nil))))) (fun _ _ => rfl)))
/-! _law_web -/
def b__law_web : DS := dSeq (dPar [2, 3] (dCons (d2 fAdd (dC (.int 1)) (dCall d__law_draw (dCons dSt (dCons (dVar 1) (dNil))))) (dCons (d2 fAdd (dC (.int 1)) (dCall d__law_draw (dCons dSt (dCons (dC (.int 3)) (dNil))))) (dNil)))) (dSeq (dSet 4 (dLst (dNil))) (dSeq (dFor (dRng1 (dVar 2)) (.nm 5) (dSet 4 (d2 fAddL (dVar 4) (dComp (dRng2 (d2 fAdd (dVar 5) (dC (.int 1))) (dVar 2)) (.nm 6) (dTest (d2 fLt (dCall d__law_draw (dCons dSt (dCons (dC (.int 4)) (dNil)))) (dVar 3))) (dTup (dCons (dVar 5) (dCons (dVar 6) (dNil)))))))) (dRet (dTup (dCons (dVar 2) (dCons (d1 fTuple (dVar 4)) (dNil)))))))
def d__law_web : List PyData → Store → R PyData := dFn false 7 b__law_web
theorem ok__law_web : FnOk P w K mg base (L2.CX P w) 2 T.A__law_web T.D__law_web ["hand", "most"] (spD K mg (gW T.tabs SA) [.st 0, .fz] false d__law_web) := by
  refine fn_den (N := ["hand", "most", "n", "share", "ties", "a", "b"]) (m1 := []) T.F__law_web sc__law_web rfl rfl (by decide) (fun cdv A outer s H E hr => ?_)
  have kx := kx_fn (g := gW T.tabs SA) (P := P) (w := w) (K := K) (mg := mg) (base := base) (N := ["hand", "most", "n", "share", "ties", "a", "b"]) (qual := "_law_web") (st := top 32) (f := T.A__law_web) (cdv := cdv) (A := A) (outer := outer) (s := s) (H := H) (E := E) (k := 1) sc__law_web hr
  exact svs_cons (sv_parT (is := [2, 3]) (eq_val (ev_add (EV.eb (ev_int)) (EV.eb (ev_call (ok__law_draw T tb _) (kx.hr.mono (by decide)) rfl (at_mk T.F__law_draw T.G__law_draw T.B__law_draw) kx.tk (em_st (k := 0) (i := 0) rfl (pv 0) (em_val (vv 1) (em_nil)))))) (eq_val (ev_add (EV.eb (ev_int)) (EV.eb (ev_call (ok__law_draw T tb _) (kx.hr.mono (by decide)) rfl (at_mk T.F__law_draw T.G__law_draw T.B__law_draw) kx.tk (em_st (k := 0) (i := 0) rfl (pv 0) (em_val (ev_int) (em_nil)))))) (eq_nil))) (by decide) rfl (by decide) (fun ta h => ps_asg (pe_tup h) (pg_tup kx.hc (pgs_cons (pgn 2 kx.hN) (pgs_cons (pgn 3 kx.hN) (pgs_nil))))))
      (svs_cons (sv_set (i := 4) (EO.ev (eo_lst (ea_nil))) (by decide) (ps_set kx.hN rfl (Or.inl rfl) we))
      (svs_cons (sv_for (m := [.st 0, .fz, .fz, .fz, .fz, .fz, .fz]) (t := (.nm 5)) (passes_of rfl) kx.hc (if_rng1 rfl T.b_range (vv 2)) (by decide) (pgn 5 kx.hN) (svs_one (sv_set (i := 4) (EO.ev (eo_add (EV.eb (vv 4)) (EO.eb (eo_lcIf (t := (.nm 6)) (own := [("b", 6)]) kx.hc kx.hN (IFo.c (if_rng2 rfl T.b_range (ev_add (EV.eb (vv 5)) (EV.eb (ev_int))) (vv 2))) (blk_by (by show blkB ["hand", "most", "n", "share", "ties", "a", "b"] (defScope (top 32)) _ _ = true; decide +kernel)) (by decide) (by decide) (fun sc1 Hc1 Cc1 lc1 fc1 => pgn 6 (kx.inn _ sc1 Hc1 Cc1 lc1 fc1).hN) (fun sc1 Hc1 Cc1 lc1 fc1 => t1 (rel_lt (kx.inn _ sc1 Hc1 Cc1 lc1 fc1).ux) (EV.eb (ev_call (ok__law_draw T tb _) ((kx.inn _ sc1 Hc1 Cc1 lc1 fc1).hr.mono (by decide)) rfl (at_mk T.F__law_draw T.G__law_draw T.B__law_draw) (kx.inn _ sc1 Hc1 Cc1 lc1 fc1).tk (em_st (k := 0) (i := 0) rfl (pv 0) (em_val (ev_int) (em_nil))))) (EV.eb (vv 3))) (fun sc1 Hc1 Cc1 lc1 fc1 => ev_tup (ea_cons (vv 5) (ea_cons (vv 6) (ea_nil)))))))) (by decide) (ps_set kx.hN rfl (Or.inl rfl) we))))
      (svs_one (sv_ret (ev_tup (ea_cons (vv 2) (ea_cons (ev_tuple kx.hc rfl T.b_tuple (EV.eb (vv 4))) (ea_nil))))))))
/-! _law_names -/
def b__law_names : DS := dSeq (dPar [2, 3] (dCons (d1 fLR (dVar 1)) (dCons (dLst (dNil)) (dNil)))) (dSeq (dFor (dRng1 (dVar 1)) (.nm 4) (dAppPop 3 2 (dCall d__law_draw (dCons dSt (dCons (d1 fLen (dVar 2)) (dNil)))))) (dRet (d1 fTuple (dVar 3))))
def d__law_names : List PyData → Store → R PyData := dFn false 5 b__law_names
theorem ok__law_names : FnOk P w K mg base (L2.CX P w) 2 T.A__law_names T.D__law_names ["hand", "n"] (spD K mg (gW T.tabs SA) [.st 0, .fz] false d__law_names) := by
  refine fn_den (N := ["hand", "n", "left", "found", "step"]) (m1 := []) T.F__law_names sc__law_names rfl rfl (by decide) (fun cdv A outer s H E hr => ?_)
  have kx := kx_fn (g := gW T.tabs SA) (P := P) (w := w) (K := K) (mg := mg) (base := base) (N := ["hand", "n", "left", "found", "step"]) (qual := "_law_names") (st := top 33) (f := T.A__law_names) (cdv := cdv) (A := A) (outer := outer) (s := s) (H := H) (E := E) (k := 1) sc__law_names hr
  exact svs_cons (sv_par2 (i := 2) (j := 3) (eq_own (eo_listR kx.hc rfl T.b_list rfl T.b_range (vv 1)) (eq_own (eo_lst (ea_nil)) (eq_nil))) (by decide) (fun ta h => ps_par rfl kx.hN rfl rfl (by decide) rfl rfl h rfl))
      (svs_cons (sv_for (m := [.st 0, .fz, .own, .own, .fz]) (t := (.nm 4)) (passes_of rfl) kx.hc (if_rng1 rfl T.b_range (vv 1)) (by decide) (pgn 4 kx.hN) (svs_one (sv_appPop (by decide) rfl rfl (ev_call (ok__law_draw T tb _) (kx.hr.mono (by decide)) rfl (at_mk T.F__law_draw T.G__law_draw T.B__law_draw) kx.tk (em_st (k := 0) (i := 0) rfl (pv 0) (em_val (ev_len rfl T.b_len (vo 2)) (em_nil)))) (pv 3) (pv 2))))
      (svs_one (sv_ret (ev_tuple kx.hc rfl T.b_tuple (vo 3)))))
/-! _law_times -/
def b__law_times : DS := dSeq (dSet 2 (dLst (dCons (dTup (dNil)) (dNil)))) (dSeq (dFor (dRng1 (d2 fIx (dVar 0) (dC (.int 0)))) (.nm 3) (dSeq (dSet 4 (dLst (dNil))) (dSeq (dFor (dIt seqD (dVar 2)) (.nm 5) (dSet 4 (d2 fAddL (dVar 4) (dComp (dRng1 (dVar 1)) (.nm 6) (dTest (dCall d__law_fits (dCons (dVar 0) (dCons (d2 fAdd (dVar 5) (dTup (dCons (dVar 6) (dNil)))) (dNil))))) (d2 fAdd (dVar 5) (dTup (dCons (dVar 6) (dNil)))))))) (dSet 2 (dVar 4))))) (dRet (dVar 2)))
def d__law_times : List PyData → Store → R PyData := dFn false 7 b__law_times
theorem ok__law_times : FnOk P w K mg base (L2.CX P w) 2 T.A__law_times T.D__law_times ["mixed", "k"] (spD K mg (gW T.tabs SA) [.fz, .fz] false d__law_times) := by
  refine fn_den (N := ["mixed", "k", "found", "place", "longer", "row", "one"]) (m1 := []) T.F__law_times sc__law_times rfl rfl (by decide) (fun cdv A outer s H E hr => ?_)
  have kx := kx_fn (g := gW T.tabs SA) (P := P) (w := w) (K := K) (mg := mg) (base := base) (N := ["mixed", "k", "found", "place", "longer", "row", "one"]) (qual := "_law_times") (st := top 36) (f := T.A__law_times) (cdv := cdv) (A := A) (outer := outer) (s := s) (H := H) (E := E) (k := 1) sc__law_times hr
  exact svs_cons (sv_set (i := 2) (EO.ev (eo_lst (ea_cons (ev_tup (ea_nil)) (ea_nil)))) (by decide) (ps_set kx.hN rfl (Or.inl rfl) we))
      (svs_cons (sv_for (m := [.fz, .fz, .fz, .fz, .fz, .fz, .fz]) (t := (.nm 3)) (passes_of rfl) kx.hc (if_rng1 rfl T.b_range (ev_ix (EV.eb (vv 0)) (EV.eb (ev_int)) (fun _ _ => rfl))) (by decide) (pgn 3 kx.hN) (svs_cons (sv_set (i := 4) (EO.ev (eo_lst (ea_nil))) (by decide) (ps_set kx.hN rfl (Or.inl rfl) we))
      (svs_cons (sv_for (m := [.fz, .fz, .fz, .fz, .fz, .fz, .fz]) (t := (.nm 5)) (passes_of rfl) kx.hc (if_any (vv 2)) (by decide) (pgn 5 kx.hN) (svs_one (sv_set (i := 4) (EO.ev (eo_add (EV.eb (vv 4)) (EO.eb (eo_lcIf (t := (.nm 6)) (own := [("one", 6)]) kx.hc kx.hN (IFo.c (if_rng1 rfl T.b_range (vv 1))) (blk_by (by show blkB ["mixed", "k", "found", "place", "longer", "row", "one"] (defScope (top 36)) _ _ = true; decide +kernel)) (by decide) (by decide) (fun sc1 Hc1 Cc1 lc1 fc1 => pgn 6 (kx.inn _ sc1 Hc1 Cc1 lc1 fc1).hN) (fun sc1 Hc1 Cc1 lc1 fc1 => et_val (ev_call (ok__law_fits T tb _) ((kx.inn _ sc1 Hc1 Cc1 lc1 fc1).hr.mono (by decide)) rfl (at_mk T.F__law_fits T.G__law_fits T.B__law_fits) (kx.inn _ sc1 Hc1 Cc1 lc1 fc1).tk (em_val (vv 0) (em_val (ev_add (EV.eb (vv 5)) (EV.eb (ev_tup (ea_cons (vv 6) (ea_nil))))) (em_nil))))) (fun sc1 Hc1 Cc1 lc1 fc1 => ev_add (EV.eb (vv 5)) (EV.eb (ev_tup (ea_cons (vv 6) (ea_nil))))))))) (by decide) (ps_set kx.hN rfl (Or.inl rfl) we))))
      (svs_one (sv_set (i := 2) (vv 4) (by decide) (ps_set kx.hN rfl (Or.inl rfl) we))))))
      (svs_one (sv_ret (vv 2))))
/-! is_lot -/
def b_is_lot : DS := dSeq (dIfS (dOr (dNot (dTest (d1 (fun d => some (.bool (isT "tuple" d))) (dVar 0)))) (dNot (dTest (d1 (fBs fun bs => bs.all _root_.id) (dComp (dIt seqD (dVar 0)) (.nm 2) (dYes) (dCall d_is_within (dCons (dVar 2) (dCons (dC (.int 0)) (dCons (d2 (fI (fun _ _ => true) fun i j => i - j) (dVar 1) (dC (.int 1))) (dNil)))))))))) (dRet (dC (.bool false))) (dNx)) (dRet (d1 (fBs fun bs => bs.all _root_.id) (dComp (dIt2 fZip (dVar 0) (dSl fSl (dVar 0) (pSm (dC (.int 1))) (pNo))) (.tup [2, 3]) (dYes) (d2 fLt (dVar 2) (dVar 3)))))
def d_is_lot : List PyData → Store → R PyData := dFn false 4 b_is_lot
theorem ok_is_lot : FnOk P w K mg base (L2.CX P w) 3 T.A_is_lot T.D_is_lot ["thing", "many"] (spD K mg (gW T.tabs SA) [.fz, .fz] false d_is_lot) := by
  refine fn_den (N := ["thing", "many", "one", "other"]) (m1 := []) T.F_is_lot sc_is_lot rfl rfl (by decide) (fun cdv A outer s H E hr => ?_)
  have kx := kx_fn (g := gW T.tabs SA) (P := P) (w := w) (K := K) (mg := mg) (base := base) (N := ["thing", "many", "one", "other"]) (qual := "is_lot") (st := top 4) (f := T.A_is_lot) (cdv := cdv) (A := A) (outer := outer) (s := s) (H := H) (E := E) (k := 2) sc_is_lot hr
  exact svs_cons (sv_if (m1 := [.fz, .fz, .fz, .fz]) (et_w (ew_or (et_not (et_val (ev_isi isT_tuple rfl rfl T.b_isinstance rfl T.b_tuple (vv 0)))) (ew_or1 (et_not (et_val (ev_all kx.hc rfl T.b_all (EO.eb (eo_lc (t := (.nm 2)) (own := [("one", 2)]) kx.hc kx.hN (IFo.c (if_any (vv 0))) (blk_by (by show blkB ["thing", "many", "one", "other"] (defScope (top 4)) _ _ = true; decide +kernel)) (by decide) (by decide) (fun sc1 Hc1 Cc1 lc1 fc1 => pgn 2 (kx.inn _ sc1 Hc1 Cc1 lc1 fc1).hN) (fun sc1 Hc1 Cc1 lc1 fc1 => ev_call (ok_is_within T tb _) ((kx.inn _ sc1 Hc1 Cc1 lc1 fc1).hr.mono (by decide)) rfl (at_mk T.F_is_within T.G_is_within T.B_is_within) (kx.inn _ sc1 Hc1 Cc1 lc1 fc1).tk (em_val (vv 2) (em_val (ev_int) (em_val (ev_sub (EV.eb (vv 1)) (EV.eb (ev_int))) (em_nil))))))))))))) (svs_one (sv_ret (ev_bl))) (svs_nil))
      (svs_one (sv_ret (ev_all kx.hc rfl T.b_all (EO.eb (eo_lc (t := (.tup [2, 3])) (own := [("one", 2), ("other", 3)]) kx.hc kx.hN (IFo.c (if_zip rfl T.b_zip (vv 0) (ev_sl (EV.eb (vv 0)) (ep_sm (ev_int)) (ep_no)))) (blk_by (by show blkB ["thing", "many", "one", "other"] (defScope (top 4)) _ _ = true; decide +kernel)) (by decide) (by decide) (fun sc2 Hc2 Cc2 lc2 fc2 => pg_tup (kx.inn _ sc2 Hc2 Cc2 lc2 fc2).hc (pgs_cons (pgn 2 (kx.inn _ sc2 Hc2 Cc2 lc2 fc2).hN) (pgs_cons (pgn 3 (kx.inn _ sc2 Hc2 Cc2 lc2 fc2).hN) (pgs_nil)))) (fun sc2 Hc2 Cc2 lc2 fc2 => c1 (rel_lt (kx.inn _ sc2 Hc2 Cc2 lc2 fc2).ux) (EV.eb (vv 2)) (EV.eb (vv 3))))))))
/-! _law_mixed -/
def b__law_mixed : DS := dSeq (dSet 2 (dCall d__law_web (dCons dSt (dCons (dVar 1) (dNil))))) (dSeq (dPar [3, 4, 5] (dCons (d2 fIx (dVar 2) (dC (.int 0))) (dCons (dLst (dNil)) (dCons (d2 fEq (dCall d__law_draw (dCons dSt (dCons (dC (.int 4)) (dNil)))) (dC (.int 0))) (dNil))))) (dSeq (dFor (dRng1 (dVar 3)) (.nm 6) (dFor (dRng2 (d2 fAdd (dVar 6) (dC (.int 1))) (dVar 3)) (.nm 7) (dIfS (dAnd (dTest (d2 (fIn true) (dTup (dCons (dVar 6) (dCons (dVar 7) (dNil)))) (d2 fIx (dVar 2) (dC (.int 1))))) (dTest (d2 fEq (dCall d__law_draw (dCons dSt (dCons (dC (.int 3)) (dNil)))) (dC (.int 0))))) (dApp 4 (dIfE (dAnd (dTest (dVar 5)) (dTest (d2 fEq (dCall d__law_draw (dCons dSt (dCons (dC (.int 2)) (dNil)))) (dC (.int 0))))) (dTup (dCons (dVar 7) (dCons (dVar 6) (dNil)))) (dTup (dCons (dVar 6) (dCons (dVar 7) (dNil)))))) (dNx)))) (dSeq (dSet 8 (dCall d__law_names (dCons dSt (dCons (dVar 3) (dNil))))) (dSeq (dSet 9 (d1 fTuple (d1 fSort (dComp (dIt seqD (d2 fIx (dVar 2) (dC (.int 1)))) (.tup [6, 7]) (dYes) (dTup (dCons (d2 fMin2 (d2 fIx (dVar 8) (dVar 6)) (d2 fIx (dVar 8) (dVar 7))) (dCons (d2 fMax2 (d2 fIx (dVar 8) (dVar 6)) (d2 fIx (dVar 8) (dVar 7))) (dNil)))))))) (dRet (dTup (dCons (dVar 3) (dCons (dVar 9) (dCons (d1 fTuple (d1 fSort (dComp (dIt lstD (dVar 4)) (.tup [6, 7]) (dYes) (dTup (dCons (d2 fIx (dVar 8) (dVar 6)) (dCons (d2 fIx (dVar 8) (dVar 7)) (dNil))))))) (dNil))))))))))
def d__law_mixed : List PyData → Store → R PyData := dFn false 10 b__law_mixed
theorem ok__law_mixed : FnOk P w K mg base (L2.CX P w) 3 T.A__law_mixed T.D__law_mixed ["hand", "most"] (spD K mg (gW T.tabs SA) [.st 0, .fz] false d__law_mixed) := by
  refine fn_den (N := ["hand", "most", "web", "n", "arrows", "wild", "a", "b", "names", "ties"]) (m1 := []) T.F__law_mixed sc__law_mixed rfl rfl (by decide) (fun cdv A outer s H E hr => ?_)
  have kx := kx_fn (g := gW T.tabs SA) (P := P) (w := w) (K := K) (mg := mg) (base := base) (N := ["hand", "most", "web", "n", "arrows", "wild", "a", "b", "names", "ties"]) (qual := "_law_mixed") (st := top 34) (f := T.A__law_mixed) (cdv := cdv) (A := A) (outer := outer) (s := s) (H := H) (E := E) (k := 2) sc__law_mixed hr
  exact svs_cons (sv_set (i := 2) (ev_call (ok__law_web T tb _) (kx.hr.mono (by decide)) rfl (at_mk T.F__law_web T.G__law_web T.B__law_web) kx.tk (em_st (k := 0) (i := 0) rfl (pv 0) (em_val (vv 1) (em_nil)))) (by decide) (ps_set kx.hN rfl (Or.inl rfl) we))
      (svs_cons (sv_par3 (i := 3) (j := 4) (l := 5) (eq_val (ev_ix (EV.eb (vv 2)) (EV.eb (ev_int)) (fun _ _ => rfl)) (eq_own (eo_lst (ea_nil)) (eq_val (c1 (rel_eq kx.ux) (EV.eb (ev_call (ok__law_draw T tb _) (kx.hr.mono (by decide)) rfl (at_mk T.F__law_draw T.G__law_draw T.B__law_draw) kx.tk (em_st (k := 0) (i := 0) rfl (pv 0) (em_val (ev_int) (em_nil))))) (EV.eb (ev_int))) (eq_nil)))) (by decide) (fun ta h => ps_par3 rfl kx.hN rfl rfl rfl (by decide) (by decide) (by decide) rfl rfl rfl h rfl))
      (svs_cons (sv_for (m := [.st 0, .fz, .fz, .fz, .own, .fz, .fz, .fz, .fz, .fz]) (t := (.nm 6)) (passes_of rfl) kx.hc (if_rng1 rfl T.b_range (vv 3)) (by decide) (pgn 6 kx.hN) (svs_one (sv_for (m := [.st 0, .fz, .fz, .fz, .own, .fz, .fz, .fz, .fz, .fz]) (t := (.nm 7)) (passes_of rfl) kx.hc (if_rng2 rfl T.b_range (ev_add (EV.eb (vv 6)) (EV.eb (ev_int))) (vv 3)) (by decide) (pgn 7 kx.hN) (svs_one (sv_if (m1 := [.st 0, .fz, .fz, .fz, .own, .fz, .fz, .fz, .fz, .fz]) (et_w (ew_and (t1 (rel_notIn kx.ux) (EV.eb (ev_tup (ea_cons (vv 6) (ea_cons (vv 7) (ea_nil))))) (EV.eb (ev_ix (EV.eb (vv 2)) (EV.eb (ev_int)) (fun _ _ => rfl)))) (ew_and1 (t1 (rel_eq kx.ux) (EV.eb (ev_call (ok__law_draw T tb _) (kx.hr.mono (by decide)) rfl (at_mk T.F__law_draw T.G__law_draw T.B__law_draw) kx.tk (em_st (k := 0) (i := 0) rfl (pv 0) (em_val (ev_int) (em_nil))))) (EV.eb (ev_int)))))) (svs_one (sv_append rfl (ev_if (et_w (ew_and (et_val (vv 5)) (ew_and1 (t1 (rel_eq kx.ux) (EV.eb (ev_call (ok__law_draw T tb _) (kx.hr.mono (by decide)) rfl (at_mk T.F__law_draw T.G__law_draw T.B__law_draw) kx.tk (em_st (k := 0) (i := 0) rfl (pv 0) (em_val (ev_int) (em_nil))))) (EV.eb (ev_int)))))) (ev_tup (ea_cons (vv 7) (ea_cons (vv 6) (ea_nil)))) (ev_tup (ea_cons (vv 6) (ea_cons (vv 7) (ea_nil))))) (pv 4))) (svs_nil))))))
      (svs_cons (sv_set (i := 8) (ev_call (ok__law_names T tb _) (kx.hr.mono (by decide)) rfl (at_mk T.F__law_names T.G__law_names T.B__law_names) kx.tk (em_st (k := 0) (i := 0) rfl (pv 0) (em_val (vv 3) (em_nil)))) (by decide) (ps_set kx.hN rfl (Or.inr rfl) we))
      (svs_cons (sv_set (i := 9) (ev_tuple kx.hc rfl T.b_tuple (EV.eb (EO.ev (eo_sort kx.ux.u65 rfl T.b_sorted (EO.eb (eo_lc (t := (.tup [6, 7])) (own := [("a", 6), ("b", 7)]) kx.hc kx.hN (IFo.c (if_any (ev_ix (EV.eb (vv 2)) (EV.eb (ev_int)) (fun _ _ => rfl)))) (blk_by (by show blkB ["hand", "most", "web", "n", "arrows", "wild", "a", "b", "names", "ties"] (defScope (top 34)) _ _ = true; decide +kernel)) (by decide) (by decide) (fun sc1 Hc1 Cc1 lc1 fc1 => pg_tup (kx.inn _ sc1 Hc1 Cc1 lc1 fc1).hc (pgs_cons (pgn 6 (kx.inn _ sc1 Hc1 Cc1 lc1 fc1).hN) (pgs_cons (pgn 7 (kx.inn _ sc1 Hc1 Cc1 lc1 fc1).hN) (pgs_nil)))) (fun sc1 Hc1 Cc1 lc1 fc1 => ev_tup (ea_cons (ev_min2 (kx.inn _ sc1 Hc1 Cc1 lc1 fc1).hc (by rfl) T.b_min (ev_ix (EV.eb (vv 8)) (EV.eb (vv 6)) (fun _ _ => rfl)) (ev_ix (EV.eb (vv 8)) (EV.eb (vv 7)) (fun _ _ => rfl))) (ea_cons (ev_max2 (kx.inn _ sc1 Hc1 Cc1 lc1 fc1).hc (by rfl) T.b_max (ev_ix (EV.eb (vv 8)) (EV.eb (vv 6)) (fun _ _ => rfl)) (ev_ix (EV.eb (vv 8)) (EV.eb (vv 7)) (fun _ _ => rfl))) (ea_nil)))))))))) (by decide) (ps_set kx.hN rfl (Or.inl rfl) we))
      (svs_one (sv_ret (ev_tup (ea_cons (vv 3) (ea_cons (vv 9) (ea_cons (ev_tuple kx.hc rfl T.b_tuple (EV.eb (EO.ev (eo_sort kx.ux.u65 rfl T.b_sorted (EO.eb (eo_lc (t := (.tup [6, 7])) (own := [("a", 6), ("b", 7)]) kx.hc kx.hN (ic_list (vo 4)) (blk_by (by show blkB ["hand", "most", "web", "n", "arrows", "wild", "a", "b", "names", "ties"] (defScope (top 34)) _ _ = true; decide +kernel)) (by decide) (by decide) (fun sc2 Hc2 Cc2 lc2 fc2 => pg_tup (kx.inn _ sc2 Hc2 Cc2 lc2 fc2).hc (pgs_cons (pgn 6 (kx.inn _ sc2 Hc2 Cc2 lc2 fc2).hN) (pgs_cons (pgn 7 (kx.inn _ sc2 Hc2 Cc2 lc2 fc2).hN) (pgs_nil)))) (fun sc2 Hc2 Cc2 lc2 fc2 => ev_tup (ea_cons (ev_ix (EV.eb (vv 8)) (EV.eb (vv 6)) (fun _ _ => rfl)) (ea_cons (ev_ix (EV.eb (vv 8)) (EV.eb (vv 7)) (fun _ _ => rfl)) (ea_nil)))))))))) (ea_nil)))))))))))
/-! _law_no_mixed -/
def b__law_no_mixed : DS := dSeq (dSet 1 (dLst (dCons (dC .none) (dCons (dTup (dNil)) (dCons (dC (.int 0)) (dCons (dTup (dCons (dC (.int 2)) (dCons (dTup (dNil)) (dNil)))) (dCons (dLst (dCons (dC (.int 2)) (dCons (dTup (dNil)) (dCons (dTup (dNil)) (dNil))))) (dCons (dTup (dCons (dC (.int 0)) (dCons (dTup (dNil)) (dCons (dTup (dNil)) (dNil))))) (dCons (dTup (dCons (dC (.int 8)) (dCons (dTup (dNil)) (dCons (dTup (dNil)) (dNil))))) (dCons (dTup (dCons (dC (.int 2)) (dCons (dTup (dCons (dTup (dCons (dC (.int 1)) (dCons (dC (.int 0)) (dNil)))) (dNil))) (dCons (dTup (dNil)) (dNil))))) (dCons (dTup (dCons (dC (.int 2)) (dCons (dTup (dNil)) (dCons (dTup (dCons (dTup (dCons (dC (.int 0)) (dCons (dC (.int 0)) (dNil)))) (dNil))) (dNil))))) (dNil)))))))))))) (dSeq (dSet 1 (d2 fAddL (dVar 1) (dLst (dCons (dTup (dCons (dC (.int 2)) (dCons (dTup (dNil)) (dCons (dTup (dCons (dTup (dCons (dC (.int 0)) (dCons (dC (.int 2)) (dNil)))) (dNil))) (dNil))))) (dCons (dTup (dCons (dC (.int 2)) (dCons (dTup (dCons (dTup (dCons (dC (.int 0)) (dCons (dC (.int 1)) (dNil)))) (dNil))) (dCons (dTup (dCons (dTup (dCons (dC (.int 0)) (dCons (dC (.int 1)) (dNil)))) (dNil))) (dNil))))) (dCons (dTup (dCons (dC (.int 2)) (dCons (dTup (dCons (dTup (dCons (dC (.int 0)) (dCons (dC (.int 1)) (dNil)))) (dNil))) (dCons (dTup (dCons (dTup (dCons (dC (.int 1)) (dCons (dC (.int 0)) (dNil)))) (dNil))) (dNil))))) (dCons (dTup (dCons (dC (.int 2)) (dCons (dTup (dNil)) (dCons (dTup (dCons (dTup (dCons (dC (.int 0)) (dCons (dC (.int 1)) (dNil)))) (dCons (dTup (dCons (dC (.int 1)) (dCons (dC (.int 0)) (dNil)))) (dNil)))) (dNil))))) (dNil)))))))) (dRet (dCall d__law_any (dCons dSt (dCons (d2 fAddL (dVar 1) (dLst (dCons (dTup (dCons (dC (.int 2)) (dCons (dTup (dNil)) (dCons (dLst (dCons (dTup (dCons (dC (.int 0)) (dCons (dC (.int 1)) (dNil)))) (dNil))) (dNil))))) (dCons (dTup (dCons (dC (.int 3)) (dCons (dTup (dNil)) (dCons (dTup (dCons (dTup (dCons (dC (.int 1)) (dCons (dC (.int 2)) (dNil)))) (dCons (dTup (dCons (dC (.int 0)) (dCons (dC (.int 1)) (dNil)))) (dNil)))) (dNil))))) (dNil))))) (dNil))))))
def d__law_no_mixed : List PyData → Store → R PyData := dFn false 2 b__law_no_mixed
theorem ok__law_no_mixed : FnOk P w K mg base (L2.CX P w) 3 T.A__law_no_mixed T.D__law_no_mixed ["hand"] (spD K mg (gW T.tabs SA) [.st 0] false d__law_no_mixed) := by
  refine fn_den (N := ["hand", "some"]) (m1 := []) T.F__law_no_mixed sc__law_no_mixed rfl rfl (by decide) (fun cdv A outer s H E hr => ?_)
  have kx := kx_fn (g := gW T.tabs SA) (P := P) (w := w) (K := K) (mg := mg) (base := base) (N := ["hand", "some"]) (qual := "_law_no_mixed") (st := top 38) (f := T.A__law_no_mixed) (cdv := cdv) (A := A) (outer := outer) (s := s) (H := H) (E := E) (k := 2) sc__law_no_mixed hr
  exact svs_cons (sv_set (i := 1) (EO.ev (eo_lst (ea_cons (ev_non) (ea_cons (ev_tup (ea_nil)) (ea_cons (ev_int) (ea_cons (ev_tup (ea_cons (ev_int) (ea_cons (ev_tup (ea_nil)) (ea_nil)))) (ea_cons (EO.ev (eo_lst (ea_cons (ev_int) (ea_cons (ev_tup (ea_nil)) (ea_cons (ev_tup (ea_nil)) (ea_nil)))))) (ea_cons (ev_tup (ea_cons (ev_int) (ea_cons (ev_tup (ea_nil)) (ea_cons (ev_tup (ea_nil)) (ea_nil))))) (ea_cons (ev_tup (ea_cons (ev_int) (ea_cons (ev_tup (ea_nil)) (ea_cons (ev_tup (ea_nil)) (ea_nil))))) (ea_cons (ev_tup (ea_cons (ev_int) (ea_cons (ev_tup (ea_cons (ev_tup (ea_cons (ev_int) (ea_cons (ev_int) (ea_nil)))) (ea_nil))) (ea_cons (ev_tup (ea_nil)) (ea_nil))))) (ea_cons (ev_tup (ea_cons (ev_int) (ea_cons (ev_tup (ea_nil)) (ea_cons (ev_tup (ea_cons (ev_tup (ea_cons (ev_int) (ea_cons (ev_int) (ea_nil)))) (ea_nil))) (ea_nil))))) (ea_nil)))))))))))) (by decide) (ps_set kx.hN rfl (Or.inl rfl) we))
      (svs_cons (sv_set (i := 1) (EO.ev (eo_add (EV.eb (vv 1)) (EO.eb (eo_lst (ea_cons (ev_tup (ea_cons (ev_int) (ea_cons (ev_tup (ea_nil)) (ea_cons (ev_tup (ea_cons (ev_tup (ea_cons (ev_int) (ea_cons (ev_int) (ea_nil)))) (ea_nil))) (ea_nil))))) (ea_cons (ev_tup (ea_cons (ev_int) (ea_cons (ev_tup (ea_cons (ev_tup (ea_cons (ev_int) (ea_cons (ev_int) (ea_nil)))) (ea_nil))) (ea_cons (ev_tup (ea_cons (ev_tup (ea_cons (ev_int) (ea_cons (ev_int) (ea_nil)))) (ea_nil))) (ea_nil))))) (ea_cons (ev_tup (ea_cons (ev_int) (ea_cons (ev_tup (ea_cons (ev_tup (ea_cons (ev_int) (ea_cons (ev_int) (ea_nil)))) (ea_nil))) (ea_cons (ev_tup (ea_cons (ev_tup (ea_cons (ev_int) (ea_cons (ev_int) (ea_nil)))) (ea_nil))) (ea_nil))))) (ea_cons (ev_tup (ea_cons (ev_int) (ea_cons (ev_tup (ea_nil)) (ea_cons (ev_tup (ea_cons (ev_tup (ea_cons (ev_int) (ea_cons (ev_int) (ea_nil)))) (ea_cons (ev_tup (ea_cons (ev_int) (ea_cons (ev_int) (ea_nil)))) (ea_nil)))) (ea_nil))))) (ea_nil))))))))) (by decide) (ps_set kx.hN rfl (Or.inl rfl) we))
      (svs_one (sv_ret (ev_call (ok__law_any T tb _) (kx.hr.mono (by decide)) rfl (at_mk T.F__law_any T.G__law_any T.B__law_any) kx.tk (em_st (k := 0) (i := 0) rfl (pv 0) (em_val (EO.ev (eo_add (EV.eb (vv 1)) (EO.eb (eo_lst (ea_cons (ev_tup (ea_cons (ev_int) (ea_cons (ev_tup (ea_nil)) (ea_cons (EO.ev (eo_lst (ea_cons (ev_tup (ea_cons (ev_int) (ea_cons (ev_int) (ea_nil)))) (ea_nil)))) (ea_nil))))) (ea_cons (ev_tup (ea_cons (ev_int) (ea_cons (ev_tup (ea_nil)) (ea_cons (ev_tup (ea_cons (ev_tup (ea_cons (ev_int) (ea_cons (ev_int) (ea_nil)))) (ea_cons (ev_tup (ea_cons (ev_int) (ea_cons (ev_int) (ea_nil)))) (ea_nil)))) (ea_nil))))) (ea_nil))))))) (em_nil)))))))
/-! are_ties -/
def b_are_ties : DS := dSeq (dIfS (dOr (dNot (dTest (d1 (fun d => some (.bool (isT "tuple" d))) (dVar 1)))) (dNot (dTest (d1 (fBs fun bs => bs.all _root_.id) (dComp (dIt seqD (dVar 1)) (.nm 4) (dYes) (dAndV (dCall d_is_sized (dCons (dVar 4) (dCons (dC (.int 2)) (dCons (dC (.int 2)) (dNil))))) (dCall d_is_lot (dCons (dVar 4) (dCons (dVar 0) (dNil)))))))))) (dRet (dC (.bool false))) (dNx)) (dRet (d1 (fBs fun bs => bs.all _root_.id) (dComp (dIt2 fZip (dVar 1) (dSl fSl (dVar 1) (pSm (dC (.int 1))) (pNo))) (.tup [2, 3]) (dYes) (d2 fLt (dVar 2) (dVar 3)))))
def d_are_ties : List PyData → Store → R PyData := dFn false 5 b_are_ties
theorem ok_are_ties : FnOk P w K mg base (L2.CX P w) 4 T.A_are_ties T.D_are_ties ["n", "thing"] (spD K mg (gW T.tabs SA) [.fz, .fz] false d_are_ties) := by
  refine fn_den (N := ["n", "thing", "one", "other", "pair"]) (m1 := []) T.F_are_ties sc_are_ties rfl rfl (by decide) (fun cdv A outer s H E hr => ?_)
  have kx := kx_fn (g := gW T.tabs SA) (P := P) (w := w) (K := K) (mg := mg) (base := base) (N := ["n", "thing", "one", "other", "pair"]) (qual := "are_ties") (st := top 14) (f := T.A_are_ties) (cdv := cdv) (A := A) (outer := outer) (s := s) (H := H) (E := E) (k := 3) sc_are_ties hr
  exact svs_cons (sv_if (m1 := [.fz, .fz, .fz, .fz, .fz]) (et_w (ew_or (et_not (et_val (ev_isi isT_tuple rfl rfl T.b_isinstance rfl T.b_tuple (vv 1)))) (ew_or1 (et_not (et_val (ev_all kx.hc rfl T.b_all (EO.eb (eo_lc (t := (.nm 4)) (own := [("pair", 4)]) kx.hc kx.hN (IFo.c (if_any (vv 1))) (blk_by (by show blkB ["n", "thing", "one", "other", "pair"] (defScope (top 14)) _ _ = true; decide +kernel)) (by decide) (by decide) (fun sc1 Hc1 Cc1 lc1 fc1 => pgn 4 (kx.inn _ sc1 Hc1 Cc1 lc1 fc1).hN) (fun sc1 Hc1 Cc1 lc1 fc1 => ev_andV (ev_call (ok_is_sized T tb _) ((kx.inn _ sc1 Hc1 Cc1 lc1 fc1).hr.mono (by decide)) rfl (at_mk T.F_is_sized T.G_is_sized T.B_is_sized) (kx.inn _ sc1 Hc1 Cc1 lc1 fc1).tk (em_val (vv 4) (em_val (ev_int) (em_val (ev_int) (em_nil))))) (ev_one (ev_call (ok_is_lot T tb _) ((kx.inn _ sc1 Hc1 Cc1 lc1 fc1).hr.mono (by decide)) rfl (at_mk T.F_is_lot T.G_is_lot T.B_is_lot) (kx.inn _ sc1 Hc1 Cc1 lc1 fc1).tk (em_val (vv 4) (em_val (vv 0) (em_nil)))))))))))))) (svs_one (sv_ret (ev_bl))) (svs_nil))
      (svs_one (sv_ret (ev_all kx.hc rfl T.b_all (EO.eb (eo_lc (t := (.tup [2, 3])) (own := [("one", 2), ("other", 3)]) kx.hc kx.hN (IFo.c (if_zip rfl T.b_zip (vv 1) (ev_sl (EV.eb (vv 1)) (ep_sm (ev_int)) (ep_no)))) (blk_by (by show blkB ["n", "thing", "one", "other", "pair"] (defScope (top 14)) _ _ = true; decide +kernel)) (by decide) (by decide) (fun sc2 Hc2 Cc2 lc2 fc2 => pg_tup (kx.inn _ sc2 Hc2 Cc2 lc2 fc2).hc (pgs_cons (pgn 2 (kx.inn _ sc2 Hc2 Cc2 lc2 fc2).hN) (pgs_cons (pgn 3 (kx.inn _ sc2 Hc2 Cc2 lc2 fc2).hN) (pgs_nil)))) (fun sc2 Hc2 Cc2 lc2 fc2 => c1 (rel_lt (kx.inn _ sc2 Hc2 Cc2 lc2 fc2).ux) (EV.eb (vv 2)) (EV.eb (vv 3))))))))
/-! is_web -/
def b_is_web : DS := dSeq (dIfS (dOr (dNot (dTest (dCall d_is_sized (dCons (dVar 0) (dCons (dC (.int 2)) (dCons (dC (.int 2)) (dNil))))))) (dNot (dTest (dCall d_is_within (dCons (d2 fIx (dVar 0) (dC (.int 0))) (dCons (dC (.int 1)) (dCons (dC (.int 8)) (dNil)))))))) (dRet (dC (.bool false))) (dNx)) (dRet (dCall d_are_ties (dCons (d2 fIx (dVar 0) (dC (.int 0))) (dCons (d2 fIx (dVar 0) (dC (.int 1))) (dNil)))))
def d_is_web : List PyData → Store → R PyData := dFn false 1 b_is_web
theorem ok_is_web : FnOk P w K mg base (L2.CX P w) 5 T.A_is_web T.D_is_web ["thing"] (spD K mg (gW T.tabs SA) [.fz] false d_is_web) := by
  refine fn_den (N := ["thing"]) (m1 := []) T.F_is_web sc_is_web rfl rfl (by decide) (fun cdv A outer s H E hr => ?_)
  have kx := kx_fn (g := gW T.tabs SA) (P := P) (w := w) (K := K) (mg := mg) (base := base) (N := ["thing"]) (qual := "is_web") (st := top 15) (f := T.A_is_web) (cdv := cdv) (A := A) (outer := outer) (s := s) (H := H) (E := E) (k := 4) sc_is_web hr
  exact svs_cons (sv_if (m1 := [.fz]) (et_w (ew_or (et_not (et_val (ev_call (ok_is_sized T tb _) (kx.hr.mono (by decide)) rfl (at_mk T.F_is_sized T.G_is_sized T.B_is_sized) kx.tk (em_val (vv 0) (em_val (ev_int) (em_val (ev_int) (em_nil))))))) (ew_or1 (et_not (et_val (ev_call (ok_is_within T tb _) (kx.hr.mono (by decide)) rfl (at_mk T.F_is_within T.G_is_within T.B_is_within) kx.tk (em_val (ev_ix (EV.eb (vv 0)) (EV.eb (ev_int)) (fun _ _ => rfl)) (em_val (ev_int) (em_val (ev_gint rfl T.c_MOST_PLACES) (em_nil)))))))))) (svs_one (sv_ret (ev_bl))) (svs_nil))
      (svs_one (sv_ret (ev_call (ok_are_ties T tb _) (kx.hr.mono (by decide)) rfl (at_mk T.F_are_ties T.G_are_ties T.B_are_ties) kx.tk (em_val (ev_ix (EV.eb (vv 0)) (EV.eb (ev_int)) (fun _ _ => rfl)) (em_val (ev_ix (EV.eb (vv 0)) (EV.eb (ev_int)) (fun _ _ => rfl)) (em_nil))))))
/-! is_mixed -/
def b_is_mixed : DS := dSeq (dIfS (dOr (dNot (dTest (dCall d_is_sized (dCons (dVar 0) (dCons (dC (.int 3)) (dCons (dC (.int 3)) (dNil))))))) (dOr (dNot (dTest (dCall d_is_web (dCons (dSl fSl (dVar 0) (pNo) (pSm (dC (.int 2)))) (dNil))))) (dOr (dTest (d2 fGt (d2 fIx (dVar 0) (dC (.int 0))) (dC (.int 7)))) (dNot (dTest (d1 (fun d => some (.bool (isT "tuple" d))) (d2 fIx (dVar 0) (dC (.int 2))))))))) (dRet (dC (.bool false))) (dNx)) (dSeq (dTupSet [1, 2, 3] (dVar 0)) (dSeq (dIfS (dNot (dTest (d1 (fBs fun bs => bs.all _root_.id) (dComp (dIt seqD (dVar 3)) (.nm 4) (dYes) (dAndV (dCall d_is_sized (dCons (dVar 4) (dCons (dC (.int 2)) (dCons (dC (.int 2)) (dNil))))) (d1 (fBs fun bs => bs.all _root_.id) (dComp (dIt seqD (dVar 4)) (.nm 9) (dYes) (dCall d_is_within (dCons (dVar 9) (dCons (dC (.int 0)) (dCons (d2 (fI (fun _ _ => true) fun i j => i - j) (dVar 1) (dC (.int 1))) (dNil)))))))))))) (dRet (dC (.bool false))) (dNx)) (dSeq (dIfS (dNot (dTest (d1 (fBs fun bs => bs.all _root_.id) (dComp (dIt2 fZip (dVar 3) (dSl fSl (dVar 3) (pSm (dC (.int 1))) (pNo))) (.tup [5, 6]) (dYes) (d2 fLt (dVar 5) (dVar 6)))))) (dRet (dC (.bool false))) (dNx)) (dRet (dNotV (d1 (fBs fun bs => bs.any _root_.id) (dComp (dIt seqD (dVar 3)) (.tup [7, 8]) (dYes) (dOrV (d2 fEq (dVar 7) (dVar 8)) (dOrV (d2 (fIn false) (dTup (dCons (d2 fMin2 (dVar 7) (dVar 8)) (dCons (d2 fMax2 (dVar 7) (dVar 8)) (dNil)))) (dVar 2)) (d2 (fIn false) (dTup (dCons (dVar 8) (dCons (dVar 7) (dNil)))) (dVar 3)))))))))))
def d_is_mixed : List PyData → Store → R PyData := dFn false 10 b_is_mixed
theorem ok_is_mixed : FnOk P w K mg base (L2.CX P w) 6 T.A_is_mixed T.D_is_mixed ["thing"] (spD K mg (gW T.tabs SA) [.fz] false d_is_mixed) := by
  refine fn_den (N := ["thing", "n", "ties", "arrows", "pair", "one", "other", "a", "b", "place"]) (m1 := []) T.F_is_mixed sc_is_mixed rfl rfl (by decide) (fun cdv A outer s H E hr => ?_)
  have kx := kx_fn (g := gW T.tabs SA) (P := P) (w := w) (K := K) (mg := mg) (base := base) (N := ["thing", "n", "ties", "arrows", "pair", "one", "other", "a", "b", "place"]) (qual := "is_mixed") (st := top 19) (f := T.A_is_mixed) (cdv := cdv) (A := A) (outer := outer) (s := s) (H := H) (E := E) (k := 5) sc_is_mixed hr
  exact svs_cons (sv_if (m1 := [.fz, .fz, .fz, .fz, .fz, .fz, .fz, .fz, .fz, .fz]) (et_w (ew_or (et_not (et_val (ev_call (ok_is_sized T tb _) (kx.hr.mono (by decide)) rfl (at_mk T.F_is_sized T.G_is_sized T.B_is_sized) kx.tk (em_val (vv 0) (em_val (ev_int) (em_val (ev_int) (em_nil))))))) (ew_or (et_not (et_val (ev_call (ok_is_web T tb _) (kx.hr.mono (by decide)) rfl (at_mk T.F_is_web T.G_is_web T.B_is_web) kx.tk (em_val (ev_sl (EV.eb (vv 0)) (ep_no) (ep_sm (ev_int))) (em_nil))))) (ew_or (t1 (rel_gt kx.ux) (EV.eb (ev_ix (EV.eb (vv 0)) (EV.eb (ev_int)) (fun _ _ => rfl))) (EV.eb (ev_gint rfl T.c_MOST_MIXED))) (ew_or1 (et_not (et_val (ev_isi isT_tuple rfl rfl T.b_isinstance rfl T.b_tuple (ev_ix (EV.eb (vv 0)) (EV.eb (ev_int)) (fun _ _ => rfl)))))))))) (svs_one (sv_ret (ev_bl))) (svs_nil))
      (svs_cons (sv_tup (is := [1, 2, 3]) (vv 0) (by decide) (ps_asg we (pg_tup kx.hc (pgs_cons (pgn 1 kx.hN) (pgs_cons (pgn 2 kx.hN) (pgs_cons (pgn 3 kx.hN) (pgs_nil)))))))
      (svs_cons (sv_if (m1 := [.fz, .fz, .fz, .fz, .fz, .fz, .fz, .fz, .fz, .fz]) (et_not (et_val (ev_all kx.hc rfl T.b_all (EO.eb (eo_lc (t := (.nm 4)) (own := [("pair", 4)]) kx.hc kx.hN (IFo.c (if_any (vv 3))) (blk_by (by show blkB ["thing", "n", "ties", "arrows", "pair", "one", "other", "a", "b", "place"] (defScope (top 19)) _ _ = true; decide +kernel)) (by decide) (by decide) (fun sc1 Hc1 Cc1 lc1 fc1 => pgn 4 (kx.inn _ sc1 Hc1 Cc1 lc1 fc1).hN) (fun sc1 Hc1 Cc1 lc1 fc1 => ev_andV (ev_call (ok_is_sized T tb _) ((kx.inn _ sc1 Hc1 Cc1 lc1 fc1).hr.mono (by decide)) rfl (at_mk T.F_is_sized T.G_is_sized T.B_is_sized) (kx.inn _ sc1 Hc1 Cc1 lc1 fc1).tk (em_val (vv 4) (em_val (ev_int) (em_val (ev_int) (em_nil))))) (ev_one (ev_all (kx.inn _ sc1 Hc1 Cc1 lc1 fc1).hc rfl T.b_all (EO.eb (eo_lc (t := (.nm 9)) (own := [("place", 9)]) (kx.inn _ sc1 Hc1 Cc1 lc1 fc1).hc (kx.inn _ sc1 Hc1 Cc1 lc1 fc1).hN (IFo.c (if_any (vv 4))) (blk_by (by show blkB ["thing", "n", "ties", "arrows", "pair", "one", "other", "a", "b", "place"] (relS _ (defScope (top 19))) _ _ = true; decide +kernel)) (by decide) (by decide) (fun sc2 Hc2 Cc2 lc2 fc2 => pgn 9 ((kx.inn _ sc1 Hc1 Cc1 lc1 fc1).inn _ sc2 Hc2 Cc2 lc2 fc2).hN) (fun sc2 Hc2 Cc2 lc2 fc2 => ev_call (ok_is_within T tb _) (((kx.inn _ sc1 Hc1 Cc1 lc1 fc1).inn _ sc2 Hc2 Cc2 lc2 fc2).hr.mono (by decide)) rfl (at_mk T.F_is_within T.G_is_within T.B_is_within) ((kx.inn _ sc1 Hc1 Cc1 lc1 fc1).inn _ sc2 Hc2 Cc2 lc2 fc2).tk (em_val (vv 9) (em_val (ev_int) (em_val (ev_sub (EV.eb (vv 1)) (EV.eb (ev_int))) (em_nil))))))))))))))) (svs_one (sv_ret (ev_bl))) (svs_nil))
      (svs_cons (sv_if (m1 := [.fz, .fz, .fz, .fz, .fz, .fz, .fz, .fz, .fz, .fz]) (et_not (et_val (ev_all kx.hc rfl T.b_all (EO.eb (eo_lc (t := (.tup [5, 6])) (own := [("one", 5), ("other", 6)]) kx.hc kx.hN (IFo.c (if_zip rfl T.b_zip (vv 3) (ev_sl (EV.eb (vv 3)) (ep_sm (ev_int)) (ep_no)))) (blk_by (by show blkB ["thing", "n", "ties", "arrows", "pair", "one", "other", "a", "b", "place"] (defScope (top 19)) _ _ = true; decide +kernel)) (by decide) (by decide) (fun sc3 Hc3 Cc3 lc3 fc3 => pg_tup (kx.inn _ sc3 Hc3 Cc3 lc3 fc3).hc (pgs_cons (pgn 5 (kx.inn _ sc3 Hc3 Cc3 lc3 fc3).hN) (pgs_cons (pgn 6 (kx.inn _ sc3 Hc3 Cc3 lc3 fc3).hN) (pgs_nil)))) (fun sc3 Hc3 Cc3 lc3 fc3 => c1 (rel_lt (kx.inn _ sc3 Hc3 Cc3 lc3 fc3).ux) (EV.eb (vv 5)) (EV.eb (vv 6)))))))) (svs_one (sv_ret (ev_bl))) (svs_nil))
      (svs_one (sv_ret (ev_notV (ev_any kx.hc rfl T.b_any (EO.eb (eo_lc (t := (.tup [7, 8])) (own := [("a", 7), ("b", 8)]) kx.hc kx.hN (IFo.c (if_any (vv 3))) (blk_by (by show blkB ["thing", "n", "ties", "arrows", "pair", "one", "other", "a", "b", "place"] (defScope (top 19)) _ _ = true; decide +kernel)) (by decide) (by decide) (fun sc4 Hc4 Cc4 lc4 fc4 => pg_tup (kx.inn _ sc4 Hc4 Cc4 lc4 fc4).hc (pgs_cons (pgn 7 (kx.inn _ sc4 Hc4 Cc4 lc4 fc4).hN) (pgs_cons (pgn 8 (kx.inn _ sc4 Hc4 Cc4 lc4 fc4).hN) (pgs_nil)))) (fun sc4 Hc4 Cc4 lc4 fc4 => ev_orV (c1 (rel_eq (kx.inn _ sc4 Hc4 Cc4 lc4 fc4).ux) (EV.eb (vv 7)) (EV.eb (vv 8))) (ev_orV (c1 (rel_in (kx.inn _ sc4 Hc4 Cc4 lc4 fc4).ux) (EV.eb (ev_tup (ea_cons (ev_min2 (kx.inn _ sc4 Hc4 Cc4 lc4 fc4).hc (by rfl) T.b_min (vv 7) (vv 8)) (ea_cons (ev_max2 (kx.inn _ sc4 Hc4 Cc4 lc4 fc4).hc (by rfl) T.b_max (vv 7) (vv 8)) (ea_nil))))) (EV.eb (vv 2))) (ev_one (c1 (rel_in (kx.inn _ sc4 Hc4 Cc4 lc4 fc4).ux) (EV.eb (ev_tup (ea_cons (vv 8) (ea_cons (vv 7) (ea_nil))))) (EV.eb (vv 3)))))))))))))))
/-! check_mixed -/
def b_check_mixed : DS := dIfS (dNot (dTest (dCall d_is_mixed (dCons (dVar 0) (dNil))))) (dRaise0 "NoMixed") (dNx)
def d_check_mixed : List PyData → Store → R PyData := dFn false 1 b_check_mixed
theorem ok_check_mixed : FnOk P w K mg base (L2.CX P w) 7 T.A_check_mixed T.D_check_mixed ["thing"] (spD K mg (gW T.tabs SA) [.fz] false d_check_mixed) := by
  refine fn_den (N := ["thing"]) (m1 := [.fz]) T.F_check_mixed sc_check_mixed rfl rfl (by decide) (fun cdv A outer s H E hr => ?_)
  have kx := kx_fn (g := gW T.tabs SA) (P := P) (w := w) (K := K) (mg := mg) (base := base) (N := ["thing"]) (qual := "check_mixed") (st := top 20) (f := T.A_check_mixed) (cdv := cdv) (A := A) (outer := outer) (s := s) (H := H) (E := E) (k := 6) sc_check_mixed hr
  exact svs_one (sv_if (m1 := [.fz]) (et_not (et_val (ev_call (ok_is_mixed T tb _) (kx.hr.mono (by decide)) rfl (at_mk T.F_is_mixed T.G_is_mixed T.B_is_mixed) kx.tk (em_val (vv 0) (em_nil))))) (svs_one (sv_raise0 (x0_NoMixed T) kx.hc kx.tk rfl)) (svs_nil))
/-! check_within -/
def b_check_within : DS := dSeq (dDrop (dCall d_check_mixed (dCons (dVar 0) (dNil)))) (dIfS (dNot (dTest (dCall d_is_within (dCons (dVar 1) (dCons (dC (.int 1)) (dCons (dC (.int 8)) (dNil))))))) (dRaise0 "NoCount") (dNx))
def d_check_within : List PyData → Store → R PyData := dFn false 2 b_check_within
theorem ok_check_within : FnOk P w K mg base (L2.CX P w) 8 T.A_check_within T.D_check_within ["mixed", "k"] (spD K mg (gW T.tabs SA) [.fz, .fz] false d_check_within) := by
  refine fn_den (N := ["mixed", "k"]) (m1 := [.fz, .fz]) T.F_check_within sc_check_within rfl rfl (by decide) (fun cdv A outer s H E hr => ?_)
  have kx := kx_fn (g := gW T.tabs SA) (P := P) (w := w) (K := K) (mg := mg) (base := base) (N := ["mixed", "k"]) (qual := "check_within") (st := top 21) (f := T.A_check_within) (cdv := cdv) (A := A) (outer := outer) (s := s) (H := H) (E := E) (k := 7) sc_check_within hr
  exact svs_cons (sv_expr (ev_call (ok_check_mixed T tb _) (kx.hr.mono (by decide)) rfl (at_mk T.F_check_mixed T.G_check_mixed T.B_check_mixed) kx.tk (em_val (vv 0) (em_nil))))
      (svs_one (sv_if (m1 := [.fz, .fz]) (et_not (et_val (ev_call (ok_is_within T tb _) (kx.hr.mono (by decide)) rfl (at_mk T.F_is_within T.G_is_within T.B_is_within) kx.tk (em_val (vv 1) (em_val (ev_int) (em_val (ev_gint rfl T.c_MOST_TIME) (em_nil))))))) (svs_one (sv_raise0 (x0_NoCount T) kx.hc kx.tk rfl)) (svs_nil)))
/-! windows -/
def b_windows : DS := dSeq (dDrop (dCall d_check_within (dCons (dVar 0) (dCons (dVar 1) (dNil))))) (dSeq (dPar [2, 3] (dCons (d2 fTimes (dLst (dCons (dVar 1) (dNil))) (d2 fIx (dVar 0) (dC (.int 0)))) (dCons (d2 fTimes (dLst (dCons (d1 fNeg (dC (.int 1))) (dNil))) (d2 fIx (dVar 0) (dC (.int 0)))) (dNil)))) (dSeq (dFor (dIt seqD (dCall d_all_times (dCons (dVar 0) (dCons (dVar 1) (dCons (d2 (fI cPow fun i j => i ^ j.toNat) (dC (.int 10)) (dC (.int 9))) (dNil)))))) (.nm 4) (dSeq (dSet 2 (dComp (dIt2 fZipM (dVar 2) (dVar 4)) (.tup [5, 6]) (dYes) (d2 fMin2 (dVar 5) (dVar 6)))) (dSet 3 (dComp (dIt2 fZipM (dVar 3) (dVar 4)) (.tup [5, 6]) (dYes) (d2 fMax2 (dVar 5) (dVar 6)))))) (dRet (dIfE (dTest (d2 fGe (d1 (fMM PySem.W.maxD) (dVar 3)) (dC (.int 0)))) (d1 fTuple (dComp (dIt2 fZipM (dVar 2) (dVar 3)) (.tup [5, 7]) (dYes) (dTup (dCons (dVar 5) (dCons (dVar 7) (dNil)))))) (dC .none)))))
def d_windows : List PyData → Store → R PyData := dFn false 8 b_windows
theorem ok_windows : FnOk P w K mg base (L2.CX P w) 9 T.A_windows T.D_windows ["mixed", "k"] (spD K mg (gW T.tabs SA) [.fz, .fz] false d_windows) := by
  refine fn_den (N := ["mixed", "k", "low", "high", "times", "one", "time", "other"]) (m1 := []) T.F_windows sc_windows rfl rfl (by decide) (fun cdv A outer s H E hr => ?_)
  have kx := kx_fn (g := gW T.tabs SA) (P := P) (w := w) (K := K) (mg := mg) (base := base) (N := ["mixed", "k", "low", "high", "times", "one", "time", "other"]) (qual := "windows") (st := top 24) (f := T.A_windows) (cdv := cdv) (A := A) (outer := outer) (s := s) (H := H) (E := E) (k := 8) sc_windows hr
  exact svs_cons (sv_expr (ev_call (ok_check_within T tb _) (kx.hr.mono (by decide)) rfl (at_mk T.F_check_within T.G_check_within T.B_check_within) kx.tk (em_val (vv 0) (em_val (vv 1) (em_nil)))))
      (svs_cons (sv_par2 (i := 2) (j := 3) (eq_val (ev_times (EO.eb (eo_lst (ea_cons (vv 1) (ea_nil)))) (EV.eb (ev_ix (EV.eb (vv 0)) (EV.eb (ev_int)) (fun _ _ => rfl)))) (eq_val (ev_times (EO.eb (eo_lst (ea_cons (ev_neg (ev_int)) (ea_nil)))) (EV.eb (ev_ix (EV.eb (vv 0)) (EV.eb (ev_int)) (fun _ _ => rfl)))) (eq_nil))) (by decide) (fun ta h => ps_par rfl kx.hN rfl rfl (by decide) rfl rfl h rfl))
      (svs_cons (sv_for (m := [.fz, .fz, .fz, .fz, .fz, .fz, .fz, .fz]) (t := (.nm 4)) (passes_of rfl) kx.hc (if_any (ev_call (ok_all_times T tb _) (kx.hr.mono (by decide)) rfl (at_mk T.F_all_times T.G_all_times T.B_all_times) kx.tk (em_val (vv 0) (em_val (vv 1) (em_val (ev_pow (EV.eb (ev_int)) (EV.eb (ev_int))) (em_nil)))))) (by decide) (pgn 4 kx.hN) (svs_cons (sv_lc (i := 2) (t := (.tup [5, 6])) (own := [("one", 5), ("time", 6)]) (by decide) rfl rfl rfl kx.hc kx.hN (IFo.c (if_zipM rfl T.b_zip (vv 2) (vv 4))) (blk_by (by show blkB ["mixed", "k", "low", "high", "times", "one", "time", "other"] (defScope (top 24)) _ _ = true; decide +kernel)) (by decide) (by decide) (fun sc1 Hc1 Cc1 lc1 fc1 => pg_tup (kx.inn _ sc1 Hc1 Cc1 lc1 fc1).hc (pgs_cons (pgn 5 (kx.inn _ sc1 Hc1 Cc1 lc1 fc1).hN) (pgs_cons (pgn 6 (kx.inn _ sc1 Hc1 Cc1 lc1 fc1).hN) (pgs_nil)))) (fun sc1 Hc1 Cc1 lc1 fc1 => ev_min2 (kx.inn _ sc1 Hc1 Cc1 lc1 fc1).hc (by rfl) T.b_min (vv 5) (vv 6)))
      (svs_freeze (j := 2) rfl (svs_freezeB (j := 3) rfl (svs_one (sv_lc (i := 3) (t := (.tup [5, 6])) (own := [("one", 5), ("time", 6)]) (by decide) rfl rfl rfl kx.hc kx.hN (IFo.c (if_zipM rfl T.b_zip (vv 3) (vv 4))) (blk_by (by show blkB ["mixed", "k", "low", "high", "times", "one", "time", "other"] (defScope (top 24)) _ _ = true; decide +kernel)) (by decide) (by decide) (fun sc2 Hc2 Cc2 lc2 fc2 => pg_tup (kx.inn _ sc2 Hc2 Cc2 lc2 fc2).hc (pgs_cons (pgn 5 (kx.inn _ sc2 Hc2 Cc2 lc2 fc2).hN) (pgs_cons (pgn 6 (kx.inn _ sc2 Hc2 Cc2 lc2 fc2).hN) (pgs_nil)))) (fun sc2 Hc2 Cc2 lc2 fc2 => ev_max2 (kx.inn _ sc2 Hc2 Cc2 lc2 fc2).hc (by rfl) T.b_max (vv 5) (vv 6))))))))
      (svs_one (sv_ret (ev_if (t1 (rel_ge kx.ux) (EV.eb (ev_max1 kx.hc kx.ux.u65 (by rfl) T.b_max (EV.eb (vv 3)))) (EV.eb (ev_int))) (ev_tuple kx.hc rfl T.b_tuple (EO.eb (eo_lc (t := (.tup [5, 7])) (own := [("one", 5), ("other", 7)]) kx.hc kx.hN (IFo.c (if_zipM rfl T.b_zip (vv 2) (vv 3))) (blk_by (by show blkB ["mixed", "k", "low", "high", "times", "one", "time", "other"] (defScope (top 24)) _ _ = true; decide +kernel)) (by decide) (by decide) (fun sc3 Hc3 Cc3 lc3 fc3 => pg_tup (kx.inn _ sc3 Hc3 Cc3 lc3 fc3).hc (pgs_cons (pgn 5 (kx.inn _ sc3 Hc3 Cc3 lc3 fc3).hN) (pgs_cons (pgn 7 (kx.inn _ sc3 Hc3 Cc3 lc3 fc3).hN) (pgs_nil)))) (fun sc3 Hc3 Cc3 lc3 fc3 => ev_tup (ea_cons (vv 5) (ea_cons (vv 7) (ea_nil))))))) (ev_non))))))
/-! sure_ahead -/
def b_sure_ahead : DS := dSeq (dDrop (dCall d_check_within (dCons (dVar 0) (dCons (dVar 1) (dNil))))) (dSeq (dSet 2 (dC .none)) (dSeq (dFor (dIt seqD (dCall d_all_times (dCons (dVar 0) (dCons (dVar 1) (dCons (d2 (fI cPow fun i j => i ^ j.toNat) (dC (.int 10)) (dC (.int 9))) (dNil)))))) (.nm 3) (dSeq (dSet 4 (dCall d_pairs_ahead (dCons (dVar 3) (dNil)))) (dSet 2 (dIfE (dTest (d2 (fIsN false) (dVar 2) (dC .none))) (dVar 4) (dComp (dIt seqD (dVar 2)) (.nm 5) (dTest (d2 (fIn false) (dVar 5) (dVar 4))) (dVar 5)))))) (dRet (dIfE (dTest (d2 (fIsN false) (dVar 2) (dC .none))) (dC .none) (d1 fTuple (d1 fSort (dVar 2)))))))
def d_sure_ahead : List PyData → Store → R PyData := dFn false 6 b_sure_ahead
theorem ok_sure_ahead : FnOk P w K mg base (L2.CX P w) 9 T.A_sure_ahead T.D_sure_ahead ["mixed", "k"] (spD K mg (gW T.tabs SA) [.fz, .fz] false d_sure_ahead) := by
  refine fn_den (N := ["mixed", "k", "found", "times", "some", "pair"]) (m1 := []) T.F_sure_ahead sc_sure_ahead rfl rfl (by decide) (fun cdv A outer s H E hr => ?_)
  have kx := kx_fn (g := gW T.tabs SA) (P := P) (w := w) (K := K) (mg := mg) (base := base) (N := ["mixed", "k", "found", "times", "some", "pair"]) (qual := "sure_ahead") (st := top 26) (f := T.A_sure_ahead) (cdv := cdv) (A := A) (outer := outer) (s := s) (H := H) (E := E) (k := 8) sc_sure_ahead hr
  exact svs_cons (sv_expr (ev_call (ok_check_within T tb _) (kx.hr.mono (by decide)) rfl (at_mk T.F_check_within T.G_check_within T.B_check_within) kx.tk (em_val (vv 0) (em_val (vv 1) (em_nil)))))
      (svs_cons (sv_set (i := 2) (ev_non) (by decide) (ps_set kx.hN rfl (Or.inl rfl) we))
      (svs_cons (sv_for (m := [.fz, .fz, .fz, .fz, .fz, .fz]) (t := (.nm 3)) (passes_of rfl) kx.hc (if_any (ev_call (ok_all_times T tb _) (kx.hr.mono (by decide)) rfl (at_mk T.F_all_times T.G_all_times T.B_all_times) kx.tk (em_val (vv 0) (em_val (vv 1) (em_val (ev_pow (EV.eb (ev_int)) (EV.eb (ev_int))) (em_nil)))))) (by decide) (pgn 3 kx.hN) (svs_cons (sv_set (i := 4) (ev_call (ok_pairs_ahead T tb _) (kx.hr.mono (by decide)) rfl (at_mk T.F_pairs_ahead T.G_pairs_ahead T.B_pairs_ahead) kx.tk (em_val (vv 3) (em_nil))) (by decide) (ps_set kx.hN rfl (Or.inr rfl) we))
      (svs_one (sv_set (i := 2) (ev_if (t1 (rel_is kx.ux) (EV.eb (vv 2)) (EV.eb (ev_non))) (vv 4) (EO.ev (eo_lcIf (t := (.nm 5)) (own := [("pair", 5)]) kx.hc kx.hN (IFo.c (if_any (vv 2))) (blk_by (by show blkB ["mixed", "k", "found", "times", "some", "pair"] (defScope (top 26)) _ _ = true; decide +kernel)) (by decide) (by decide) (fun sc1 Hc1 Cc1 lc1 fc1 => pgn 5 (kx.inn _ sc1 Hc1 Cc1 lc1 fc1).hN) (fun sc1 Hc1 Cc1 lc1 fc1 => t1 (rel_in (kx.inn _ sc1 Hc1 Cc1 lc1 fc1).ux) (EV.eb (vv 5)) (EV.eb (vv 4))) (fun sc1 Hc1 Cc1 lc1 fc1 => vv 5)))) (by decide) (ps_set kx.hN rfl (Or.inl rfl) we)))))
      (svs_one (sv_ret (ev_if (t1 (rel_is kx.ux) (EV.eb (vv 2)) (EV.eb (ev_non))) (ev_non) (ev_tuple kx.hc rfl T.b_tuple (EV.eb (EO.ev (eo_sort kx.ux.u65 rfl T.b_sorted (EV.eb (vv 2)))))))))))
/-! time_count -/
def b_time_count : DS := dSeq (dDrop (dCall d_check_within (dCons (dVar 0) (dCons (dVar 1) (dNil))))) (dRet (d1 fLen (dCall d_all_times (dCons (dVar 0) (dCons (dVar 1) (dCons (d2 (fI cPow fun i j => i ^ j.toNat) (dC (.int 10)) (dC (.int 9))) (dNil)))))))
def d_time_count : List PyData → Store → R PyData := dFn false 2 b_time_count
theorem ok_time_count : FnOk P w K mg base (L2.CX P w) 9 T.A_time_count T.D_time_count ["mixed", "k"] (spD K mg (gW T.tabs SA) [.fz, .fz] false d_time_count) := by
  refine fn_den (N := ["mixed", "k"]) (m1 := []) T.F_time_count sc_time_count rfl rfl (by decide) (fun cdv A outer s H E hr => ?_)
  have kx := kx_fn (g := gW T.tabs SA) (P := P) (w := w) (K := K) (mg := mg) (base := base) (N := ["mixed", "k"]) (qual := "time_count") (st := top 27) (f := T.A_time_count) (cdv := cdv) (A := A) (outer := outer) (s := s) (H := H) (E := E) (k := 8) sc_time_count hr
  exact svs_cons (sv_expr (ev_call (ok_check_within T tb _) (kx.hr.mono (by decide)) rfl (at_mk T.F_check_within T.G_check_within T.B_check_within) kx.tk (em_val (vv 0) (em_val (vv 1) (em_nil)))))
      (svs_one (sv_ret (ev_len rfl T.b_len (EV.eb (ev_call (ok_all_times T tb _) (kx.hr.mono (by decide)) rfl (at_mk T.F_all_times T.G_all_times T.B_all_times) kx.tk (em_val (vv 0) (em_val (vv 1) (em_val (ev_pow (EV.eb (ev_int)) (EV.eb (ev_int))) (em_nil)))))))))
/-! law -/
def dt_law : DE := dCall d__law_hand (dCons (dVar 0) (dNil))
def dr_law : DS := dSeq (dFor (dRng1 (dC (.int 3))) (.nm 2) (dSeq (dSet 3 (dCall d__law_mixed (dCons dSt (dCons (dC (.int 5)) (dNil))))) (dSeq (dPar [4, 5] (dCons (d2 fIx (dVar 3) (dC (.int 0))) (dCons (d2 fAdd (dC (.int 1)) (dCall d__law_draw (dCons dSt (dCons (dC (.int 4)) (dNil))))) (dNil)))) (dSeq (dSet 6 (dCall d__law_times (dCons (dVar 3) (dCons (dVar 5) (dNil))))) (dSeq (dIfS (dTest (d2 fNe (dCall d_time_count (dCons (dVar 3) (dCons (dVar 5) (dNil)))) (d1 fLen (dVar 6)))) (dRet (dC (.bool false))) (dNx)) (dSeq (dIfS (dTest (d2 fEq (dVar 6) (dLst (dNil)))) (dIfS (dOr (dTest (d2 (fIsN true) (dCall d_windows (dCons (dVar 3) (dCons (dVar 5) (dNil)))) (dC .none))) (dTest (d2 (fIsN true) (dCall d_sure_ahead (dCons (dVar 3) (dCons (dVar 5) (dNil)))) (dC .none)))) (dRet (dC (.bool false))) (dNx)) (dSeq (dPar [7, 8] (dCons (dLst (dNil)) (dCons (dLst (dNil)) (dNil)))) (dSeq (dFor (dRng1 (dVar 4)) (.nm 9) (dSeq (dApp 7 (dTup (dCons (d1 (fMM PySem.W.minD) (dComp (dIt seqD (dVar 6)) (.nm 21) (dYes) (d2 fIx (dVar 21) (dVar 9)))) (dCons (d1 (fMM PySem.W.maxD) (dComp (dIt seqD (dVar 6)) (.nm 21) (dYes) (d2 fIx (dVar 21) (dVar 9)))) (dNil))))) (dSet 8 (d2 fAddL (dVar 8) (dComp (dRng1 (dVar 4)) (.nm 17) (dAnd (dTest (d2 fNe (dVar 9) (dVar 17))) (dTest (d1 (fBs fun bs => bs.all _root_.id) (dComp (dIt seqD (dVar 6)) (.nm 21) (dYes) (d2 fLt (d2 fIx (dVar 21) (dVar 9)) (d2 fIx (dVar 21) (dVar 17))))))) (dTup (dCons (dVar 9) (dCons (dVar 17) (dNil))))))))) (dSeq (dIfS (dOr (dTest (d2 fNe (dCall d_windows (dCons (dVar 3) (dCons (dVar 5) (dNil)))) (d1 fTuple (dVar 7)))) (dTest (d2 fNe (dCall d_sure_ahead (dCons (dVar 3) (dCons (dVar 5) (dNil)))) (d1 fTuple (dVar 8))))) (dRet (dC (.bool false))) (dNx)) (dIfS (dNot (dTest (d1 (fBs fun bs => bs.all _root_.id) (dComp (dIt seqD (d2 fIx (dVar 3) (dC (.int 2)))) (.nm 18) (dYes) (d2 (fIn false) (dVar 18) (dVar 8)))))) (dRet (dC (.bool false))) (dNx)))))) (dSeq (dSet 10 (dTup (dCons (dVar 4) (dCons (dTup (dNil)) (dCons (d2 fIx (dVar 3) (dC (.int 2))) (dNil)))))) (dSeq (dIfS (dTest (d2 (fIsN false) (dCall d__law_ring (dCons (dVar 4) (dCons (d2 fIx (dVar 3) (dC (.int 2))) (dNil)))) (dC .none))) (dSeq (dPar [11, 12] (dCons (dCall d__law_levels (dCons (dVar 4) (dCons (d2 fIx (dVar 3) (dC (.int 2))) (dNil)))) (dCons (dCall d__law_levels (dCons (dVar 4) (dCons (dComp (dIt seqD (d2 fIx (dVar 3) (dC (.int 2)))) (.tup [9, 17]) (dYes) (dTup (dCons (dVar 17) (dCons (dVar 9) (dNil))))) (dNil)))) (dNil)))) (dSeq (dSet 13 (d2 fAdd (d2 fAdd (dC (.int 1)) (d1 (fMM PySem.W.maxD) (dVar 11))) (dCall d__law_draw (dCons dSt (dCons (dC (.int 2)) (dNil)))))) (dIfS (dTest (d2 fNe (dCall d_windows (dCons (dVar 10) (dCons (dVar 13) (dNil)))) (d1 fTuple (dComp (dIt2 fZipM (dVar 11) (dVar 12)) (.tup [19, 20]) (dYes) (dTup (dCons (dVar 19) (dCons (d2 (fI (fun _ _ => true) fun i j => i - j) (d2 (fI (fun _ _ => true) fun i j => i - j) (dVar 13) (dC (.int 1))) (dVar 20)) (dNil)))))))) (dRet (dC (.bool false))) (dNx)))) (dNx)) (dSeq (dPar [14, 15] (dCons (dCall d__law_no_mixed (dCons dSt (dNil))) (dCons (dCall d__law_any (dCons dSt (dCons (dLst (dCons (dC .none) (dCons (dC (.int 0)) (dCons (dC (.int 9)) (dCons (dC (.bool true)) (dCons (dC (.str "1")) (dNil))))))) (dNil)))) (dNil)))) (dSeq (dSet 16 (dLst (dCons (dLam 5 bl__law_word (dCall d_windows (dCons (dVar 14) (dCons (dVar 15) (dNil))))) (dNil)))) (dSeq (dApp 16 (dLam 5 bl__law_word (dCall d_windows (dCons (dVar 3) (dCons (dVar 15) (dNil)))))) (dSeq (dApp 16 (dLam 5 bl__law_word (dCall d_sure_ahead (dCons (dVar 14) (dCons (dVar 15) (dNil)))))) (dSeq (dApp 16 (dLam 5 bl__law_word (dCall d_sure_ahead (dCons (dVar 3) (dCons (dVar 15) (dNil)))))) (dSeq (dApp 16 (dLam 5 bl__law_word (dCall d_time_count (dCons (dVar 3) (dCons (dVar 15) (dNil)))))) (dIfS (dTest (d2 fNe (dVar 16) (dLst (dCons (dC (.str "mixed")) (dCons (dC (.str "count")) (dCons (dC (.str "mixed")) (dCons (dC (.str "count")) (dCons (dC (.str "count")) (dNil))))))))) (dRet (dC (.bool false))) (dNx)))))))))))))))) (dRet (dC (.bool true)))
theorem ok_law (pure : ∀ ns : List Int, ns.length ≤ 63 → (∀ z ∈ ns, Builtin.Int.intBits z ≤ 1048576) → ∃ S', (dAdopt 1 dt_law dr_law (env0 22 [.list (ns.map .int)]) []).fin false = .ok (.bool true) S') :
    FnOk P w K mg base (L2.CX P w) 13 T.A_law T.D_law ["script"] (spLaw K (gW T.tabs []) 63) := by
  have hz : 63 ≤ sizeLine := by rw [sizeLine_eq]; decide
  refine law_ok (g := gW T.tabs []) (n := 63) (k := 12) (st := top 41) (f := T.A_law) (fd := T.D_law) (cA := T.cA_law) (N := ["script", "hand", "turn", "mixed", "n", "k", "some", "due", "pairs", "a", "free", "ends", "begins", "wide", "bad", "off", "words", "b", "pair", "low", "high", "row"]) (i := 1) (m2 := []) (a := dt_law) (dr := dr_law) rfl rfl T.ndT hz T.F_law sc_law (by decide) (by decide) rfl (fun A outer s H E hr => ?_) pure
  have kx := kx_fn (g := gW T.tabs []) (P := P) (w := w) (K := K) (mg := mg) (base := base) (N := ["script", "hand", "turn", "mixed", "n", "k", "some", "due", "pairs", "a", "free", "ends", "begins", "wide", "bad", "off", "words", "b", "pair", "low", "high", "row"]) (qual := "law") (st := top 41) (f := T.A_law) (cdv := .ref T.cA_law) (A := A) (outer := outer) (s := s) (H := H) (E := E) (k := 12) sc_law hr
  refine ⟨eo_call (ok__law_hand T tb _) (kx.hr.mono (by decide)) rfl (at_mk T.F__law_hand T.G__law_hand T.B__law_hand) kx.tk (em_cs (i := 0) rfl (pv 0) (em_nil)), ps_set kx.hN rfl (by first | exact Or.inl rfl | exact Or.inr rfl) we, fun p => ?_⟩
  have kx := kx_fn (g := gW T.tabs [p]) (P := P) (w := w) (K := K) (mg := mg) (base := base) (N := ["script", "hand", "turn", "mixed", "n", "k", "some", "due", "pairs", "a", "free", "ends", "begins", "wide", "bad", "off", "words", "b", "pair", "low", "high", "row"]) (qual := "law") (st := top 41) (f := T.A_law) (cdv := .ref T.cA_law) (A := A) (outer := outer) (s := s) (H := H) (E := E) (k := 12) sc_law hr
  have key : SVs (fnC (gW T.tabs [p]) P w K mg base ["script", "hand", "turn", "mixed", "n", "k", "some", "due", "pairs", "a", "free", "ends", "begins", "wide", "bad", "off", "words", "b", "pair", "low", "high", "row"] "law" (top 41) T.A_law (.ref T.cA_law) A outer s H E) ⟨false, [], none⟩ [.cs, .st 0, .fz, .fz, .fz, .fz, .fz, .fz, .fz, .fz, .fz, .fz, .fz, .fz, .fz, .fz, .fz, .fz, .fz, .fz, .fz, .fz] [] (defBody (top 41)).tail dr_law := svs_cons (sv_weak (m1 := [.cs, .st 0, .fz, .fz, .fz, .fz, .fz, .un, .fz, .fz, .fz, .fz, .fz, .fz, .fz, .fz, .un, .fz, .fz, .fz, .fz, .fz]) rfl (sv_for (m := [.cs, .st 0, .fz, .fz, .fz, .fz, .fz, .un, .fz, .fz, .fz, .fz, .fz, .fz, .fz, .fz, .un, .fz, .fz, .fz, .fz, .fz]) (t := (.nm 2)) (passes_of rfl) kx.hc (if_rng1 rfl T.b_range (ev_int)) (by decide) (pgn 2 kx.hN) (svs_weakB (m1 := [.cs, .st 0, .fz, .fz, .fz, .fz, .fz, .un, .fz, .fz, .fz, .fz, .fz, .fz, .fz, .fz, .own, .fz, .fz, .fz, .fz, .fz]) (m2 := [.cs, .st 0, .fz, .fz, .fz, .fz, .fz, .un, .fz, .fz, .fz, .fz, .fz, .fz, .fz, .fz, .un, .fz, .fz, .fz, .fz, .fz]) rfl (svs_cons (sv_set (i := 3) (ev_call (ok__law_mixed T tb _) (kx.hr.mono (by decide)) rfl (at_mk T.F__law_mixed T.G__law_mixed T.B__law_mixed) kx.tk (em_st (k := 0) (i := 1) rfl (pv 1) (em_val (ev_int) (em_nil)))) (by decide) (ps_set kx.hN rfl (Or.inr rfl) we))
      (svs_cons (sv_par2 (i := 4) (j := 5) (eq_val (ev_ix (EV.eb (vv 3)) (EV.eb (ev_int)) (fun _ _ => rfl)) (eq_val (ev_add (EV.eb (ev_int)) (EV.eb (ev_call (ok__law_draw T tb _) (kx.hr.mono (by decide)) rfl (at_mk T.F__law_draw T.G__law_draw T.B__law_draw) kx.tk (em_st (k := 0) (i := 1) rfl (pv 1) (em_val (ev_int) (em_nil)))))) (eq_nil))) (by decide) (fun ta h => ps_par rfl kx.hN rfl rfl (by decide) rfl rfl h rfl))
      (svs_cons (sv_set (i := 6) (ev_call (ok__law_times T tb _) (kx.hr.mono (by decide)) rfl (at_mk T.F__law_times T.G__law_times T.B__law_times) kx.tk (em_val (vv 3) (em_val (vv 5) (em_nil)))) (by decide) (ps_set kx.hN rfl (Or.inr rfl) we))
      (svs_cons (sv_if (m1 := [.cs, .st 0, .fz, .fz, .fz, .fz, .fz, .un, .fz, .fz, .fz, .fz, .fz, .fz, .fz, .fz, .un, .fz, .fz, .fz, .fz, .fz]) (t1 (rel_ne kx.ux) (EV.eb (ev_call (ok_time_count T tb _) (kx.hr.mono (by decide)) rfl (at_mk T.F_time_count T.G_time_count T.B_time_count) kx.tk (em_val (vv 3) (em_val (vv 5) (em_nil))))) (EV.eb (ev_len rfl T.b_len (EV.eb (vv 6))))) (svs_one (sv_ret (ev_bl))) (svs_nil))
      (svs_cons (sv_if (m1 := [.cs, .st 0, .fz, .fz, .fz, .fz, .fz, .un, .fz, .fz, .fz, .fz, .fz, .fz, .fz, .fz, .un, .fz, .fz, .fz, .fz, .fz]) (t1 (rel_eq kx.ux) (EV.eb (vv 6)) (EO.eb (eo_lst (ea_nil)))) (svs_one (sv_if (m1 := [.cs, .st 0, .fz, .fz, .fz, .fz, .fz, .un, .fz, .fz, .fz, .fz, .fz, .fz, .fz, .fz, .un, .fz, .fz, .fz, .fz, .fz]) (et_w (ew_or (t1 (rel_isNot kx.ux) (EV.eb (ev_call (ok_windows T tb _) (kx.hr.mono (by decide)) rfl (at_mk T.F_windows T.G_windows T.B_windows) kx.tk (em_val (vv 3) (em_val (vv 5) (em_nil))))) (EV.eb (ev_non))) (ew_or1 (t1 (rel_isNot kx.ux) (EV.eb (ev_call (ok_sure_ahead T tb _) (kx.hr.mono (by decide)) rfl (at_mk T.F_sure_ahead T.G_sure_ahead T.B_sure_ahead) kx.tk (em_val (vv 3) (em_val (vv 5) (em_nil))))) (EV.eb (ev_non)))))) (svs_one (sv_ret (ev_bl))) (svs_nil))) (svs_weakB (m1 := [.cs, .st 0, .fz, .fz, .fz, .fz, .fz, .own, .fz, .fz, .fz, .fz, .fz, .fz, .fz, .fz, .un, .fz, .fz, .fz, .fz, .fz]) rfl (svs_cons (sv_parT (is := [7, 8]) (eq_own (eo_lst (ea_nil)) (eq_val (EO.ev (eo_lst (ea_nil))) (eq_nil))) (by decide) rfl (by decide) (fun ta h => ps_asg (pe_tup h) (pg_tup kx.hc (pgs_cons (pgn 7 kx.hN) (pgs_cons (pgn 8 kx.hN) (pgs_nil))))))
      (svs_cons (sv_for (m := [.cs, .st 0, .fz, .fz, .fz, .fz, .fz, .own, .fz, .fz, .fz, .fz, .fz, .fz, .fz, .fz, .un, .fz, .fz, .fz, .fz, .fz]) (t := (.nm 9)) (passes_of rfl) kx.hc (if_rng1 rfl T.b_range (vv 4)) (by decide) (pgn 9 kx.hN) (svs_cons (sv_append rfl (ev_tup (ea_cons (ev_min1 kx.hc kx.ux.u65 (by rfl) T.b_min (EO.eb (eo_lc (t := (.nm 21)) (own := [("row", 21)]) kx.hc kx.hN (IFo.c (if_any (vv 6))) (blk_by (by show blkB ["script", "hand", "turn", "mixed", "n", "k", "some", "due", "pairs", "a", "free", "ends", "begins", "wide", "bad", "off", "words", "b", "pair", "low", "high", "row"] (defScope (top 41)) _ _ = true; decide +kernel)) (by decide) (by decide) (fun sc14 Hc14 Cc14 lc14 fc14 => pgn 21 (kx.inn _ sc14 Hc14 Cc14 lc14 fc14).hN) (fun sc14 Hc14 Cc14 lc14 fc14 => ev_ix (EV.eb (vv 21)) (EV.eb (vv 9)) (fun _ _ => rfl))))) (ea_cons (ev_max1 kx.hc kx.ux.u65 (by rfl) T.b_max (EO.eb (eo_lc (t := (.nm 21)) (own := [("row", 21)]) kx.hc kx.hN (IFo.c (if_any (vv 6))) (blk_by (by show blkB ["script", "hand", "turn", "mixed", "n", "k", "some", "due", "pairs", "a", "free", "ends", "begins", "wide", "bad", "off", "words", "b", "pair", "low", "high", "row"] (defScope (top 41)) _ _ = true; decide +kernel)) (by decide) (by decide) (fun sc13 Hc13 Cc13 lc13 fc13 => pgn 21 (kx.inn _ sc13 Hc13 Cc13 lc13 fc13).hN) (fun sc13 Hc13 Cc13 lc13 fc13 => ev_ix (EV.eb (vv 21)) (EV.eb (vv 9)) (fun _ _ => rfl))))) (ea_nil)))) (pv 7))
      (svs_one (sv_set (i := 8) (EO.ev (eo_add (EV.eb (vv 8)) (EO.eb (eo_lcIf (t := (.nm 17)) (own := [("b", 17)]) kx.hc kx.hN (IFo.c (if_rng1 rfl T.b_range (vv 4))) (blk_by (by show blkB ["script", "hand", "turn", "mixed", "n", "k", "some", "due", "pairs", "a", "free", "ends", "begins", "wide", "bad", "off", "words", "b", "pair", "low", "high", "row"] (defScope (top 41)) _ _ = true; decide +kernel)) (by decide) (by decide) (fun sc15 Hc15 Cc15 lc15 fc15 => pgn 17 (kx.inn _ sc15 Hc15 Cc15 lc15 fc15).hN) (fun sc15 Hc15 Cc15 lc15 fc15 => et_w (ew_and (t1 (rel_ne (kx.inn _ sc15 Hc15 Cc15 lc15 fc15).ux) (EV.eb (vv 9)) (EV.eb (vv 17))) (ew_and1 (et_val (ev_all (kx.inn _ sc15 Hc15 Cc15 lc15 fc15).hc rfl T.b_all (EO.eb (eo_lc (t := (.nm 21)) (own := [("row", 21)]) (kx.inn _ sc15 Hc15 Cc15 lc15 fc15).hc (kx.inn _ sc15 Hc15 Cc15 lc15 fc15).hN (IFo.c (if_any (vv 6))) (blk_by (by show blkB ["script", "hand", "turn", "mixed", "n", "k", "some", "due", "pairs", "a", "free", "ends", "begins", "wide", "bad", "off", "words", "b", "pair", "low", "high", "row"] (relS _ (defScope (top 41))) _ _ = true; decide +kernel)) (by decide) (by decide) (fun sc16 Hc16 Cc16 lc16 fc16 => pgn 21 ((kx.inn _ sc15 Hc15 Cc15 lc15 fc15).inn _ sc16 Hc16 Cc16 lc16 fc16).hN) (fun sc16 Hc16 Cc16 lc16 fc16 => c1 (rel_lt ((kx.inn _ sc15 Hc15 Cc15 lc15 fc15).inn _ sc16 Hc16 Cc16 lc16 fc16).ux) (EV.eb (ev_ix (EV.eb (vv 21)) (EV.eb (vv 9)) (fun _ _ => rfl))) (EV.eb (ev_ix (EV.eb (vv 21)) (EV.eb (vv 17)) (fun _ _ => rfl))))))))))) (fun sc15 Hc15 Cc15 lc15 fc15 => ev_tup (ea_cons (vv 9) (ea_cons (vv 17) (ea_nil)))))))) (by decide) (ps_set kx.hN rfl (Or.inr rfl) we)))))
      (svs_cons (sv_if (m1 := [.cs, .st 0, .fz, .fz, .fz, .fz, .fz, .own, .fz, .fz, .fz, .fz, .fz, .fz, .fz, .fz, .un, .fz, .fz, .fz, .fz, .fz]) (et_w (ew_or (t1 (rel_ne kx.ux) (EV.eb (ev_call (ok_windows T tb _) (kx.hr.mono (by decide)) rfl (at_mk T.F_windows T.G_windows T.B_windows) kx.tk (em_val (vv 3) (em_val (vv 5) (em_nil))))) (EV.eb (ev_tuple kx.hc rfl T.b_tuple (vo 7)))) (ew_or1 (t1 (rel_ne kx.ux) (EV.eb (ev_call (ok_sure_ahead T tb _) (kx.hr.mono (by decide)) rfl (at_mk T.F_sure_ahead T.G_sure_ahead T.B_sure_ahead) kx.tk (em_val (vv 3) (em_val (vv 5) (em_nil))))) (EV.eb (ev_tuple kx.hc rfl T.b_tuple (EV.eb (vv 8)))))))) (svs_one (sv_ret (ev_bl))) (svs_nil))
      (svs_one (sv_if (m1 := [.cs, .st 0, .fz, .fz, .fz, .fz, .fz, .own, .fz, .fz, .fz, .fz, .fz, .fz, .fz, .fz, .un, .fz, .fz, .fz, .fz, .fz]) (et_not (et_val (ev_all kx.hc rfl T.b_all (EO.eb (eo_lc (t := (.nm 18)) (own := [("pair", 18)]) kx.hc kx.hN (IFo.c (if_any (ev_ix (EV.eb (vv 3)) (EV.eb (ev_int)) (fun _ _ => rfl)))) (blk_by (by show blkB ["script", "hand", "turn", "mixed", "n", "k", "some", "due", "pairs", "a", "free", "ends", "begins", "wide", "bad", "off", "words", "b", "pair", "low", "high", "row"] (defScope (top 41)) _ _ = true; decide +kernel)) (by decide) (by decide) (fun sc17 Hc17 Cc17 lc17 fc17 => pgn 18 (kx.inn _ sc17 Hc17 Cc17 lc17 fc17).hN) (fun sc17 Hc17 Cc17 lc17 fc17 => c1 (rel_in (kx.inn _ sc17 Hc17 Cc17 lc17 fc17).ux) (EV.eb (vv 18)) (EV.eb (vv 8)))))))) (svs_one (sv_ret (ev_bl))) (svs_nil))))))))
      (svs_cons (sv_set (i := 10) (ev_tup (ea_cons (vv 4) (ea_cons (ev_tup (ea_nil)) (ea_cons (ev_ix (EV.eb (vv 3)) (EV.eb (ev_int)) (fun _ _ => rfl)) (ea_nil))))) (by decide) (ps_set kx.hN rfl (Or.inl rfl) we))
      (svs_cons (sv_if (m1 := [.cs, .st 0, .fz, .fz, .fz, .fz, .fz, .un, .fz, .fz, .fz, .fz, .fz, .fz, .fz, .fz, .un, .fz, .fz, .fz, .fz, .fz]) (t1 (rel_is kx.ux) (EV.eb (ev_call (ok__law_ring T tb _) (kx.hr.mono (by decide)) rfl (at_mk T.F__law_ring T.G__law_ring T.B__law_ring) kx.tk (em_val (vv 4) (em_val (ev_ix (EV.eb (vv 3)) (EV.eb (ev_int)) (fun _ _ => rfl)) (em_nil))))) (EV.eb (ev_non))) (svs_cons (sv_par2 (i := 11) (j := 12) (eq_val (ev_call (ok__law_levels T tb _) (kx.hr.mono (by decide)) rfl (at_mk T.F__law_levels T.G__law_levels T.B__law_levels) kx.tk (em_val (vv 4) (em_val (ev_ix (EV.eb (vv 3)) (EV.eb (ev_int)) (fun _ _ => rfl)) (em_nil)))) (eq_val (ev_call (ok__law_levels T tb _) (kx.hr.mono (by decide)) rfl (at_mk T.F__law_levels T.G__law_levels T.B__law_levels) kx.tk (em_val (vv 4) (em_val (EO.ev (eo_lc (t := (.tup [9, 17])) (own := [("a", 9), ("b", 17)]) kx.hc kx.hN (IFo.c (if_any (ev_ix (EV.eb (vv 3)) (EV.eb (ev_int)) (fun _ _ => rfl)))) (blk_by (by show blkB ["script", "hand", "turn", "mixed", "n", "k", "some", "due", "pairs", "a", "free", "ends", "begins", "wide", "bad", "off", "words", "b", "pair", "low", "high", "row"] (defScope (top 41)) _ _ = true; decide +kernel)) (by decide) (by decide) (fun sc18 Hc18 Cc18 lc18 fc18 => pg_tup (kx.inn _ sc18 Hc18 Cc18 lc18 fc18).hc (pgs_cons (pgn 9 (kx.inn _ sc18 Hc18 Cc18 lc18 fc18).hN) (pgs_cons (pgn 17 (kx.inn _ sc18 Hc18 Cc18 lc18 fc18).hN) (pgs_nil)))) (fun sc18 Hc18 Cc18 lc18 fc18 => ev_tup (ea_cons (vv 17) (ea_cons (vv 9) (ea_nil)))))) (em_nil)))) (eq_nil))) (by decide) (fun ta h => ps_par rfl kx.hN rfl rfl (by decide) rfl rfl h rfl))
      (svs_cons (sv_set (i := 13) (ev_add (EV.eb (ev_add (EV.eb (ev_int)) (EV.eb (ev_max1 kx.hc kx.ux.u65 (by rfl) T.b_max (EV.eb (vv 11)))))) (EV.eb (ev_call (ok__law_draw T tb _) (kx.hr.mono (by decide)) rfl (at_mk T.F__law_draw T.G__law_draw T.B__law_draw) kx.tk (em_st (k := 0) (i := 1) rfl (pv 1) (em_val (ev_int) (em_nil)))))) (by decide) (ps_set kx.hN rfl (Or.inr rfl) we))
      (svs_one (sv_if (m1 := [.cs, .st 0, .fz, .fz, .fz, .fz, .fz, .un, .fz, .fz, .fz, .fz, .fz, .fz, .fz, .fz, .un, .fz, .fz, .fz, .fz, .fz]) (t1 (rel_ne kx.ux) (EV.eb (ev_call (ok_windows T tb _) (kx.hr.mono (by decide)) rfl (at_mk T.F_windows T.G_windows T.B_windows) kx.tk (em_val (vv 10) (em_val (vv 13) (em_nil))))) (EV.eb (ev_tuple kx.hc rfl T.b_tuple (EO.eb (eo_lc (t := (.tup [19, 20])) (own := [("low", 19), ("high", 20)]) kx.hc kx.hN (IFo.c (if_zipM rfl T.b_zip (vv 11) (vv 12))) (blk_by (by show blkB ["script", "hand", "turn", "mixed", "n", "k", "some", "due", "pairs", "a", "free", "ends", "begins", "wide", "bad", "off", "words", "b", "pair", "low", "high", "row"] (defScope (top 41)) _ _ = true; decide +kernel)) (by decide) (by decide) (fun sc19 Hc19 Cc19 lc19 fc19 => pg_tup (kx.inn _ sc19 Hc19 Cc19 lc19 fc19).hc (pgs_cons (pgn 19 (kx.inn _ sc19 Hc19 Cc19 lc19 fc19).hN) (pgs_cons (pgn 20 (kx.inn _ sc19 Hc19 Cc19 lc19 fc19).hN) (pgs_nil)))) (fun sc19 Hc19 Cc19 lc19 fc19 => ev_tup (ea_cons (vv 19) (ea_cons (ev_sub (EV.eb (ev_sub (EV.eb (vv 13)) (EV.eb (ev_int)))) (EV.eb (vv 20))) (ea_nil))))))))) (svs_one (sv_ret (ev_bl))) (svs_nil))))) (svs_nil))
      (svs_cons (sv_parT (is := [14, 15]) (eq_val (ev_call (ok__law_no_mixed T tb _) (kx.hr.mono (by decide)) rfl (at_mk T.F__law_no_mixed T.G__law_no_mixed T.B__law_no_mixed) kx.tk (em_st (k := 0) (i := 1) rfl (pv 1) (em_nil))) (eq_val (ev_call (ok__law_any T tb _) (kx.hr.mono (by decide)) rfl (at_mk T.F__law_any T.G__law_any T.B__law_any) kx.tk (em_st (k := 0) (i := 1) rfl (pv 1) (em_val (EO.ev (eo_lst (ea_cons (ev_non) (ea_cons (ev_int) (ea_cons (ev_int) (ea_cons (ev_bl) (ea_cons (ev_str) (ea_nil)))))))) (em_nil)))) (eq_nil))) (by decide) rfl (by decide) (fun ta h => ps_asg (pe_tup h) (pg_tup kx.hc (pgs_cons (pgn 14 kx.hN) (pgs_cons (pgn 15 kx.hN) (pgs_nil))))))
      (svs_cons (sv_seto (i := 16) (eo_lst (ea_cons (ev_lamF (k := 9) (m' := [.cs, .st 0, .fz, .fz, .fz, .fz, .fz, .un, .fz, .fz, .fz, .fz, .fz, .fz, .fz, .fz, .un, .fz, .fz, .fz, .fz, .fz]) T.F__law_word T.B__law_word T.G__law_word sc__law_word rfl (by first | exact Or.inl rfl | exact Or.inr (Or.inl rfl)) (lm__law_word T tb _) (tb (T.cA_law, T.P_law) (List.Mem.head _)) (List.Mem.head _) T.nd rfl rfl rfl rfl rfl (kx.hr.mono (by decide)) (lamS_by (by show lamSB (defScope (top 41)) _ = true; decide +kernel)) (fun Al20 ol20 sl20 Hl20 El20 fl20 cl20 hrl20 => ev_call (ok_windows T tb _) ((kx_lam kx hrl20).hr.mono (by decide)) rfl (at_mk T.F_windows T.G_windows T.B_windows) (kx_lam kx hrl20).tk (em_val (vv 14) (em_val (vv 15) (em_nil))))) (ea_nil))) (by decide) (ps_set kx.hN rfl (Or.inl rfl) we))
      (svs_cons (sv_append rfl (ev_lamF (k := 9) (m' := [.cs, .st 0, .fz, .fz, .fz, .fz, .fz, .un, .fz, .fz, .fz, .fz, .fz, .fz, .fz, .fz, .un, .fz, .fz, .fz, .fz, .fz]) T.F__law_word T.B__law_word T.G__law_word sc__law_word rfl (by first | exact Or.inl rfl | exact Or.inr (Or.inl rfl)) (lm__law_word T tb _) (tb (T.cA_law, T.P_law) (List.Mem.head _)) (List.Mem.head _) T.nd rfl rfl rfl rfl rfl (kx.hr.mono (by decide)) (lamS_by (by show lamSB (defScope (top 41)) _ = true; decide +kernel)) (fun Al21 ol21 sl21 Hl21 El21 fl21 cl21 hrl21 => ev_call (ok_windows T tb _) ((kx_lam kx hrl21).hr.mono (by decide)) rfl (at_mk T.F_windows T.G_windows T.B_windows) (kx_lam kx hrl21).tk (em_val (vv 3) (em_val (vv 15) (em_nil))))) (pv 16))
      (svs_cons (sv_append rfl (ev_lamF (k := 9) (m' := [.cs, .st 0, .fz, .fz, .fz, .fz, .fz, .un, .fz, .fz, .fz, .fz, .fz, .fz, .fz, .fz, .un, .fz, .fz, .fz, .fz, .fz]) T.F__law_word T.B__law_word T.G__law_word sc__law_word rfl (by first | exact Or.inl rfl | exact Or.inr (Or.inl rfl)) (lm__law_word T tb _) (tb (T.cA_law, T.P_law) (List.Mem.head _)) (List.Mem.head _) T.nd rfl rfl rfl rfl rfl (kx.hr.mono (by decide)) (lamS_by (by show lamSB (defScope (top 41)) _ = true; decide +kernel)) (fun Al22 ol22 sl22 Hl22 El22 fl22 cl22 hrl22 => ev_call (ok_sure_ahead T tb _) ((kx_lam kx hrl22).hr.mono (by decide)) rfl (at_mk T.F_sure_ahead T.G_sure_ahead T.B_sure_ahead) (kx_lam kx hrl22).tk (em_val (vv 14) (em_val (vv 15) (em_nil))))) (pv 16))
      (svs_cons (sv_append rfl (ev_lamF (k := 9) (m' := [.cs, .st 0, .fz, .fz, .fz, .fz, .fz, .un, .fz, .fz, .fz, .fz, .fz, .fz, .fz, .fz, .un, .fz, .fz, .fz, .fz, .fz]) T.F__law_word T.B__law_word T.G__law_word sc__law_word rfl (by first | exact Or.inl rfl | exact Or.inr (Or.inl rfl)) (lm__law_word T tb _) (tb (T.cA_law, T.P_law) (List.Mem.head _)) (List.Mem.head _) T.nd rfl rfl rfl rfl rfl (kx.hr.mono (by decide)) (lamS_by (by show lamSB (defScope (top 41)) _ = true; decide +kernel)) (fun Al23 ol23 sl23 Hl23 El23 fl23 cl23 hrl23 => ev_call (ok_sure_ahead T tb _) ((kx_lam kx hrl23).hr.mono (by decide)) rfl (at_mk T.F_sure_ahead T.G_sure_ahead T.B_sure_ahead) (kx_lam kx hrl23).tk (em_val (vv 3) (em_val (vv 15) (em_nil))))) (pv 16))
      (svs_cons (sv_append rfl (ev_lamF (k := 9) (m' := [.cs, .st 0, .fz, .fz, .fz, .fz, .fz, .un, .fz, .fz, .fz, .fz, .fz, .fz, .fz, .fz, .un, .fz, .fz, .fz, .fz, .fz]) T.F__law_word T.B__law_word T.G__law_word sc__law_word rfl (by first | exact Or.inl rfl | exact Or.inr (Or.inl rfl)) (lm__law_word T tb _) (tb (T.cA_law, T.P_law) (List.Mem.head _)) (List.Mem.head _) T.nd rfl rfl rfl rfl rfl (kx.hr.mono (by decide)) (lamS_by (by show lamSB (defScope (top 41)) _ = true; decide +kernel)) (fun Al24 ol24 sl24 Hl24 El24 fl24 cl24 hrl24 => ev_call (ok_time_count T tb _) ((kx_lam kx hrl24).hr.mono (by decide)) rfl (at_mk T.F_time_count T.G_time_count T.B_time_count) (kx_lam kx hrl24).tk (em_val (vv 3) (em_val (vv 15) (em_nil))))) (pv 16))
      (svs_one (sv_if (m1 := [.cs, .st 0, .fz, .fz, .fz, .fz, .fz, .un, .fz, .fz, .fz, .fz, .fz, .fz, .fz, .fz, .own, .fz, .fz, .fz, .fz, .fz]) (t1 (rel_ne kx.ux) (vo 16) (EO.eb (eo_lst (ea_cons (ev_str) (ea_cons (ev_str) (ea_cons (ev_str) (ea_cons (ev_str) (ea_cons (ev_str) (ea_nil))))))))) (svs_one (sv_ret (ev_bl))) (svs_nil)))))))))))))))))))
      (svs_one (sv_ret (ev_bl)))
  exact key
end
def Pure : Prop := ∀ ns : List Int, ns.length ≤ 63 → (∀ z ∈ ns, Builtin.Int.intBits z ≤ 1048576) → ∃ S', (dAdopt 1 dt_law dr_law (env0 22 [.list (ns.map .int)]) []).fin false = .ok (.bool true) S'
end K92
namespace K92
open PySem PySem.Spec PyProof.Rows L2 PD
/-- the tape as it may stand -/
def tapeS (cells : List Int) (a b c e : Int) : Store := [[.list (cells.map .int), .int a, .int b, .int c, .int e]]
def TapeOk (S : Store) : Prop := ∃ (cells : List Int) (a : Nat) (b c e : Int), S = tapeS cells a b c e ∧ (∀ z ∈ cells, 0 ≤ z) ∧ 0 ≤ b
@[simp] theorem ix0 {x y z u v : PyData} : fIx (.list [x, y, z, u, v]) (.int 0) = some x := rfl
@[simp] theorem ix1 {x y z u v : PyData} : fIx (.list [x, y, z, u, v]) (.int 1) = some y := rfl
@[simp] theorem ix2 {x y z u v : PyData} : fIx (.list [x, y, z, u, v]) (.int 2) = some z := rfl
@[simp] theorem ix3 {x y z u v : PyData} : fIx (.list [x, y, z, u, v]) (.int 3) = some u := rfl
@[simp] theorem ix4 {x y z u v : PyData} : fIx (.list [x, y, z, u, v]) (.int 4) = some v := rfl
@[simp] theorem si1 {x y z u v d : PyData} : fSetI [x, y, z, u, v] (.int 1) d = some (.list [x, d, z, u, v]) := rfl
@[simp] theorem si2 {x y z u v d : PyData} : fSetI [x, y, z, u, v] (.int 2) d = some (.list [x, y, d, u, v]) := rfl
@[simp] theorem si3 {x y z u v d : PyData} : fSetI [x, y, z, u, v] (.int 3) d = some (.list [x, y, z, d, v]) := rfl
@[simp] theorem si4 {x y z u v d : PyData} : fSetI [x, y, z, u, v] (.int 4) d = some (.list [x, y, z, u, d]) := rfl
@[simp] theorem eqI {i j : Int} : fEq (.int i) (.int j) = some (.bool (decide (i = j))) := by
  have h : ∀ i : Int, SeqAt.shaped (.int i) = true := fun i => rfl
  unfold fEq orF fEqS fEqD
  simp only [h, Bool.and_self, if_true]
  rw [show PyData.eqv (.int i) (.int j) = (i == j) from rfl]
  rfl
theorem ixN_nat {n i : Nat} (h : i < n) : ixN n (i : Int) = some i := by
  unfold ixN
  rw [if_pos (by omega), if_pos (by omega)]
  rfl
theorem ix_nat {xs : List PyData} {i : Nat} {d : PyData} (h : xs[i]? = some d) : fIx (.list xs) (.int (i : Int)) = some d := by
  show L2.atI xs (i : Int) = some d
  unfold L2.atI
  rw [ixN_nat (List.getElem?_eq_some_iff.mp h).1]
  exact h
/-- what comes of the seed and the count -/
def draw (c e n : Int) : Int :=
  let x := ((c + 7919 * e) * 48271) % 2147483647
  let y := (x * (x / 1009 + 69621)) % 2147483647
  let z := (y * (y / 2003 + 40014)) % 2147483563
  (z / 16) % n
theorem draw_lt (c e : Int) {n : Int} (h : 1 ≤ n) : 0 ≤ draw c e n ∧ draw c e n < n := ⟨Int.emod_nonneg _ (by omega), Int.emod_lt_of_pos _ (by omega)⟩
/-- behind the carry -/
theorem tail_ok {n c e : Int} {a : Nat} {b : Int} {cells : List Int} {o : Option PyData} (hc : ∀ z ∈ cells, 0 ≤ z) (hb : 0 ≤ b) (h1 : 1 ≤ n) (h2 : n < 2 ^ 62) : ∃ (r : Int) (S' : Store),
    ((dSeq
              (dIfS (dTest (d2 fGt (dStIx 0 (dC (PyData.int 2))) (dC (PyData.int 0))))
                (dSeq (dSet 3 (d2 (fI cMod fun i j => i % j) (d1 fInt (dStIx 0 (dC (PyData.int 2)))) (dVar 1)))
                  (dSeq
                    (dStSet 0 (dC (PyData.int 2))
                      (d2 (fI cDiv fun i j => i / j) (dStIx 0 (dC (PyData.int 2))) (dVar 1)))
                    (dRet (dVar 3))))
                dNx)
              (dSeq (dStSet 0 (dC (PyData.int 4)) (d2 fAdd (dStIx 0 (dC (PyData.int 4))) (dC (PyData.int 1))))
                (dSeq
                  (dSet 4
                    (d2 (fI cMod fun i j => i % j)
                      (d1 fInt
                        (d2 fTimes
                          (d1 fInt
                            (d2 fAdd (dStIx 0 (dC (PyData.int 3)))
                              (d2 fTimes (dC (PyData.int 7919)) (dStIx 0 (dC (PyData.int 4))))))
                          (dC (PyData.int 48271))))
                      (dC (PyData.int 2147483647))))
                  (dSeq
                    (dSet 4
                      (d2 (fI cMod fun i j => i % j)
                        (d1 fInt
                          (d2 fTimes (dVar 4)
                            (d2 fAdd (d2 (fI cDiv fun i j => i / j) (dVar 4) (dC (PyData.int 1009)))
                              (dC (PyData.int 69621)))))
                        (dC (PyData.int 2147483647))))
                    (dSeq
                      (dSet 4
                        (d2 (fI cMod fun i j => i % j)
                          (d1 fInt
                            (d2 fTimes (dVar 4)
                              (d2 fAdd (d2 (fI cDiv fun i j => i / j) (dVar 4) (dC (PyData.int 2003)))
                                (dC (PyData.int 40014)))))
                          (dC (PyData.int 2147483563))))
                      (dRet
                        (d2 (fI cMod fun i j => i % j)
                          (d1 fInt (d2 (fI cDiv fun i j => i / j) (dVar 4) (dC (PyData.int 16)))) (dVar 1))))))))
      [some .none, some (.int n), o, none, none] (tapeS cells a b c e)).fin false = .ok (.int r) S' ∧ TapeOk S' ∧ 0 ≤ r ∧ r < n := by
  have hn : n.natAbs.log2 < 9000 := by
    have h3 : n.natAbs < 2 ^ 62 := by omega
    have h4 : n.natAbs ≠ 0 := by omega
    have := (Nat.log2_lt h4).mpr h3
    omega
  have hd : cDiv b n = true := by unfold cDiv; simp [hn]; omega
  have hm : ∀ i, cMod i n = true := fun i => by unfold cMod; simp; omega
  by_cases hb0 : 0 < b
  · refine ⟨b % n, tapeS cells a (b / n) c e, ?_, ⟨cells, a, b / n, c, e, rfl, hc, Int.ediv_nonneg hb (by omega)⟩, Int.emod_nonneg _ (by omega), Int.emod_lt_of_pos _ (by omega)⟩
    simp [tapeS, hb0, hd, hm, RS.fin]
  · refine ⟨draw c (e + 1) n, tapeS cells a b c (e + 1), ?_, ⟨cells, a, b, c, e + 1, rfl, hc, hb⟩, (draw_lt _ _ h1).1, (draw_lt _ _ h1).2⟩
    have m1 : ∀ i, cMod i 2147483647 = true := fun i => rfl
    have m2 : ∀ i, cMod i 2147483563 = true := fun i => rfl
    have v1 : ∀ i, cDiv i 1009 = true := fun i => by unfold cDiv; decide
    have v2 : ∀ i, cDiv i 2003 = true := fun i => by unfold cDiv; decide
    have v3 : ∀ i, cDiv i 16 = true := fun i => by unfold cDiv; decide
    have t1 : ∀ i, fTimes (.int 7919) (.int i) = some (.int (7919 * i)) := fun i => f_times (cMul_l (by decide) (by decide))
    have t2 : ∀ i, fTimes (.int i) (.int 48271) = some (.int (i * 48271)) := fun i => f_times (cMul_r (by decide) (by decide))
    have t3 : ∀ (i j : Int), fTimes (.int (i % 2147483647)) (.int j) = some (.int (i % 2147483647 * j)) := fun i j => f_times (cMul_l (by omega) (by omega))
    simp [tapeS, hb0, hm, m1, m2, v1, v2, v3, t1, t2, t3, RS.fin, draw]
theorem draw_ok {S : Store} {n : Int} (h : TapeOk S) (h1 : 1 ≤ n) (h2 : n < 2 ^ 62) : ∃ (r : Int) (S' : Store), d__law_draw [.none, .int n] S = .ok (.int r) S' ∧ TapeOk S' ∧ 0 ≤ r ∧ r < n := by
  obtain ⟨cells, a, b, c, e, rfl, hc, hb⟩ := h
  unfold d__law_draw dFn b__law_draw env0
  simp only [tapeS]
  by_cases hb0 : b = 0
  · by_cases ha : a < cells.length
    · have hx : ((cells.map PyData.int))[a]? = some (.int cells[a]) := by rw [List.getElem?_map, List.getElem?_eq_getElem ha]; rfl
      have t1 : ∀ i, fTimes (.int i) (.int 69621) = some (.int (i * 69621)) := fun i => f_times (cMul_r (by decide) (by decide))
      have t2 : ∀ i, fTimes (.int i) (.int 40692) = some (.int (i * 40692)) := fun i => f_times (cMul_r (by decide) (by decide))
      have m1 : ∀ i, cMod i 2147483629 = true := fun i => rfl
      have p1 : cPow 10 18 = true := by unfold cPow; decide
      have hcell : 0 ≤ cells[a] := hc _ (List.getElem_mem ha)
      by_cases hbig : (1000000000000000000 : Int) ≤ cells[a]
      · obtain ⟨r, S', q⟩ := tail_ok (a := a + 1) (b := cells[a]) (c := (c * 69621 + cells[a] * 40692 + 31) % 2147483629) (e := e) (o := some (.int cells[a])) hc hcell h1 h2
        refine ⟨r, S', ?_, q.2⟩
        rw [← q.1]
        simp [hb0, ha, ix_nat hx, t1, t2, m1, p1, hbig, tapeS]
      · obtain ⟨r, S', q⟩ := tail_ok (a := a + 1) (b := b) (c := (c * 69621 + cells[a] * 40692 + 31) % 2147483629) (e := e) (o := some (.int cells[a])) hc hb h1 h2
        refine ⟨r, S', ?_, q.2⟩
        rw [← q.1]
        simp [hb0, ha, ix_nat hx, t1, t2, m1, p1, hbig, tapeS]
    · obtain ⟨r, S', q⟩ := tail_ok (a := a) (b := b) (c := c) (e := e) (o := none) hc hb h1 h2
      refine ⟨r, S', ?_, q.2⟩
      rw [← q.1]
      simp [hb0, ha, tapeS]
  · obtain ⟨r, S', q⟩ := tail_ok (a := a) (b := b) (c := c) (e := e) (o := none) hc hb h1 h2
    refine ⟨r, S', ?_, q.2⟩
    rw [← q.1]
    simp [hb0, tapeS]
theorem any_ok {S : Store} {xs : List PyData} (h : TapeOk S) (hx : xs ≠ []) (hl : xs.length < 2 ^ 62) : ∃ (x : PyData) (S' : Store), d__law_any [.none, .list xs] S = .ok x S' ∧ TapeOk S' ∧ x ∈ xs := by
  have h0 : 0 < xs.length := List.length_pos_iff.mpr hx
  obtain ⟨r, S', q, ht, r0, r1⟩ := draw_ok (n := xs.length) h (by omega) (by omega)
  obtain ⟨j, rfl⟩ : ∃ j : Nat, r = j := ⟨r.toNat, by omega⟩
  have hj : j < xs.length := by omega
  refine ⟨xs[j], S', ?_, ht, List.getElem_mem hj⟩
  unfold d__law_any dFn b__law_any env0
  simp [q, ix_nat (List.getElem?_eq_getElem hj), RS.fin]
end K92
namespace K92
open PySem PySem.Spec PyProof.Rows L2 PD
/-! ### loops and comprehensions by typed lists -/
theorem comp_t {α β : Type} {t : Tg} {tt : DT} {de : DE} {ρ : PD.Env} {S : Store} {e : α → PyData} {g : β → PyData} {p : α → Bool} {f : α → β} : ∀ {xs : List α} {acc : List PyData}, (∀ a ∈ xs, ∃ ρ1, t.bind (e a) ρ = some ρ1 ∧ tt ρ1 S = .ok (p a) S ∧ (p a = true → de ρ1 S = .ok (g (f a)) S)) →
    compL t tt de ρ acc (xs.map e) S = .ok (.list (acc ++ ((xs.filter p).map f).map g)) S
  | [], acc, _ => by simp [compL_nil]
  | a :: xs, acc, h => by
    obtain ⟨ρ1, e1, e2, e3⟩ := h a (List.mem_cons_self ..)
    rw [List.map_cons, compL_cons, e1]
    simp only [e2, R.calm_ok, R.bind_ok]
    cases hp : p a with
    | true =>
      rw [if_pos rfl, e3 hp]
      simp only [R.calm_ok, R.bind_ok]
      rw [comp_t fun b hb => h b (List.mem_cons_of_mem _ hb), List.filter_cons_of_pos (by simpa using hp)]
      simp
    | false =>
      rw [if_neg (by simp), comp_t fun b hb => h b (List.mem_cons_of_mem _ hb), List.filter_cons_of_neg (by simp [hp])]
theorem comp_y {α β : Type} {t : Tg} {de : DE} {ρ : PD.Env} {S : Store} {e : α → PyData} {g : β → PyData} {f : α → β} {xs : List α} {acc : List PyData} (h : ∀ a ∈ xs, ∃ ρ1, t.bind (e a) ρ = some ρ1 ∧ de ρ1 S = .ok (g (f a)) S) :
    compL t dYes de ρ acc (xs.map e) S = .ok (.list (acc ++ (xs.map f).map g)) S := by
  have := comp_t (t := t) (tt := dYes) (de := de) (ρ := ρ) (S := S) (e := e) (g := g) (p := fun _ => true) (f := f) (xs := xs) (acc := acc) fun a ha => by
    obtain ⟨ρ1, e1, e2⟩ := h a ha
    exact ⟨ρ1, e1, rfl, fun _ => e2⟩
  rw [this, List.filter_eq_self.mpr (fun _ _ => rfl)]
/-- what a test that draws leaves is a part of all -/
theorem comp_sub {t : Tg} {tt : DT} {de : DE} {ρ : PD.Env} {I : Store → Prop} {f : PyData → PyData} : ∀ {ds acc : List PyData} {S : Store}, I S → (∀ d ∈ ds, ∀ S, I S → ∃ ρ1, t.bind d ρ = some ρ1 ∧ ∃ b S1, tt ρ1 S = .ok b S1 ∧ I S1 ∧ (b = true → de ρ1 S1 = .ok (f d) S1)) →
    ∃ (ys : List PyData) (S' : Store), compL t tt de ρ acc ds S = .ok (.list (acc ++ ys.map f)) S' ∧ I S' ∧ ys.Sublist ds
  | [], acc, S, hi, _ => ⟨[], S, by simp [compL_nil], hi, .slnil⟩
  | d :: ds, acc, S, hi, h => by
    obtain ⟨ρ1, e1, b, S1, e2, i1, hb⟩ := h d (List.mem_cons_self ..) S hi
    rw [compL_cons, e1]
    simp only [e2, R.calm_ok, R.bind_ok]
    cases b with
    | false =>
      rw [if_neg (by simp)]
      obtain ⟨ys, S', q1, q2, q3⟩ := comp_sub (acc := acc) i1 fun d' hd => h d' (List.mem_cons_of_mem _ hd)
      exact ⟨ys, S', q1, q2, .cons _ q3⟩
    | true =>
      rw [if_pos rfl, hb rfl]
      simp only [R.calm_ok, R.bind_ok]
      obtain ⟨ys, S', q1, q2, q3⟩ := comp_sub (acc := acc ++ [f d]) i1 fun d' hd => h d' (List.mem_cons_of_mem _ hd)
      exact ⟨d :: ys, S', by rw [q1]; simp, q2, .cons₂ _ q3⟩
theorem for_n {t : Tg} {body : DS} {I : Nat → PD.Env → Store → Prop} : ∀ {ds : List PyData} {k : Nat} {ρ : PD.Env} {S : Store}, I k ρ S → (∀ j d, ds[j]? = some d → ∀ ρ S, I (k + j) ρ S → ∃ ρ1, t.bind d ρ = some ρ1 ∧ ∃ ρ2 S2, body ρ1 S = .nx ρ2 S2 ∧ I (k + j + 1) ρ2 S2) → ∃ ρ' S', forL t body ds ρ S = .nx ρ' S' ∧ I (k + ds.length) ρ' S'
  | [], k, ρ, S, hi, _ => ⟨ρ, S, forL_nil .., hi⟩
  | d :: ds, k, ρ, S, hi, h => by
    obtain ⟨ρ1, e1, ρ2, S2, e2, i2⟩ := h 0 d rfl ρ S hi
    rw [forL_cons, e1]
    simp only [e2]
    obtain ⟨ρ', S', q1, q2⟩ := for_n (k := k + 1) i2 fun j d' hd ρ S hi => by
      have := h (j + 1) d' (by simpa using hd) ρ S (by rw [show k + (j + 1) = k + 1 + j from by omega]; exact hi)
      rw [show k + (j + 1) + 1 = k + 1 + j + 1 from by omega] at this
      exact this
    exact ⟨ρ', S', q1, by rw [List.length_cons, show k + (ds.length + 1) = k + 1 + ds.length from by omega]; exact q2⟩
/-- a while with a measure -/
theorem while_go {t : DT} {body : DS} {I : PD.Env → Store → Prop} {μ : PD.Env → Nat} {G : RS → Prop}
    (h : ∀ ρ S, I ρ S → (∃ S1, t ρ S = .ok false S1 ∧ G (.nx ρ S1)) ∨ (∃ S1, t ρ S = .ok true S1 ∧ ((∃ ρ2 S2, body ρ S1 = .nx ρ2 S2 ∧ I ρ2 S2 ∧ μ ρ2 < μ ρ) ∨ ∃ d S2, body ρ S1 = .ret d S2 ∧ G (.ret d S2)))) :
    ∀ (n : Nat) (ρ : PD.Env) (S : Store), I ρ S → μ ρ < n → G (whL t body n ρ S)
  | 0, ρ, S, _, hm => absurd hm (Nat.not_lt_zero _)
  | n + 1, ρ, S, hi, hm => by
    rw [whL_succ]
    rcases h ρ S hi with ⟨S1, e1, g⟩ | ⟨S1, e1, ⟨ρ2, S2, e2, i2, m2⟩ | ⟨d, S2, e2, g⟩⟩
    · rw [e1]
      simp only [R.st_ok]
      rw [if_neg (by simp)]
      exact g
    · rw [e1]
      simp only [R.st_ok, if_true, e2]
      exact while_go h n ρ2 S2 i2 (by omega)
    · rw [e1]
      simp only [R.st_ok, if_true, e2]
      exact g
@[simp] theorem ap_rng1 {a : DE} {ρ : PD.Env} {S : Store} : dRng1 a ρ S = (a ρ S).bind fun x S1 => match x with | .int j => if cR j && sz j.toNat then .ok (rngD 0 j.toNat) S1 else .bad | _ => .bad := rfl
@[simp] theorem ap_rng2 {a b : DE} {ρ : PD.Env} {S : Store} : dRng2 a b ρ S = (a ρ S).bind fun x S1 => (b ρ S1).bind fun y S2 => match x, y with | .int i, .int j => if cR i && cR j && sz (j - i).toNat then .ok (rngD i (j - i).toNat) S2 else .bad | _, _ => .bad := rfl
@[simp] theorem ap_andv {a b : DE} {ρ : PD.Env} {S : Store} : dAndV a b ρ S = (a ρ S).bind fun x S1 => asB x (b ρ) (.ok (.bool false)) S1 := rfl
@[simp] theorem ap_orv {a b : DE} {ρ : PD.Env} {S : Store} : dOrV a b ρ S = (a ρ S).bind fun x S1 => asB x (.ok (.bool true)) (b ρ) S1 := rfl
@[simp] theorem ap_notv {a : DE} {ρ : PD.Env} {S : Store} : dNotV a ρ S = (a ρ S).bind fun x S1 => asB x (.ok (.bool false)) (.ok (.bool true)) S1 := rfl
@[simp] theorem asB_t {t f : Store → R PyData} {S : Store} : asB (.bool true) t f S = t S := rfl
@[simp] theorem asB_f {t f : Store → R PyData} {S : Store} : asB (.bool false) t f S = f S := rfl
@[simp] theorem ap_while {n : Nat} {t : DT} {body : DS} {ρ : PD.Env} {S : Store} : dWhile n t body ρ S = whL t body n ρ S := rfl
@[simp] theorem ap_m2 {F : PyData → PyData → Option PyData} {a b : DE} {ρ : PD.Env} {S : Store} : dM2 F a b ρ S = (a ρ S).bind fun x S1 => match x with | .list _ => (b ρ S1).bind fun y S2 => ofO (F x y) S2 | _ => .bad := rfl
@[simp] theorem sz_small {n : Nat} (h : n ≤ 10000) : sz n = true := by
  unfold sz
  rw [decide_eq_true_iff, sizeLine_eq]
  omega
theorem cR_small {i : Int} (h1 : -10000 ≤ i) (h2 : i ≤ 10000) : cR i = true := by
  unfold cR
  rw [decide_eq_true_iff]
  omega
@[simp] theorem fTupleL {xs : List PyData} : fTuple (.list xs) = some (.tuple xs) := rfl
@[simp] theorem seqT {xs : List PyData} : seqD (.tuple xs) = some xs := rfl
@[simp] theorem seqL {xs : List PyData} : seqD (.list xs) = some xs := rfl
@[simp] theorem neI {i j : Int} : fNe (.int i) (.int j) = some (.bool (!decide (i = j))) := by
  have h : ∀ i : Int, SeqAt.shaped (.int i) = true := fun i => rfl
  unfold fNe orF fNeS fNeD
  simp only [h, Bool.and_self, if_true]
  rw [show PyData.eqv (.int i) (.int j) = (i == j) from rfl]
  rfl
@[simp] theorem isT_int {i : Int} : isT "int" (.int i) = true := rfl
@[simp] theorem isT_bool {i : Int} : isT "bool" (.int i) = false := rfl
@[simp] theorem isT_tuple {xs : List PyData} : isT "tuple" (.tuple xs) = true := rfl
theorem fAddT_ok {xs ys : List PyData} (h : xs.length + ys.length ≤ 10000) : fAdd (.tuple xs) (.tuple ys) = some (.tuple (xs ++ ys)) := by
  show (if sz (xs.length + ys.length) then some (PyData.tuple (xs ++ ys)) else none) = _
  rw [sz_small h]
  rfl
theorem fAddL_ok {xs ys : List PyData} (h : xs.length + ys.length ≤ 10000) : fAddL (.list xs) (.list ys) = some (.list (xs ++ ys)) := by
  show (if sz (xs.length + ys.length) then some (PyData.list (xs ++ ys)) else none) = _
  rw [sz_small h]
  rfl
theorem fExt_ok {xs ys : List PyData} (h : xs.length + ys.length ≤ 10000) : fExt xs (.list ys) = some (.list (xs ++ ys)) := by
  unfold fExt
  simp [sz_small h]
theorem fApp_ok {xs : List PyData} {d : PyData} (h : xs.length < 10000) : fApp xs d = some (.list (xs ++ [d])) := by
  unfold fApp
  rw [if_pos (by rw [decide_eq_true_iff, sizeLine_eq]; omega)]
theorem cutA_take {α : Type} (l : List α) (k : Nat) : cutA l none (some (k : Int)) = l.take k := by
  unfold cutA
  rw [show HT.sIx l.length 0 none = 0 from rfl, show HT.sIx l.length l.length (some (k : Int)) = min k l.length from HT.sIx_nat ..]
  simp
theorem cutA_drop {α : Type} (l : List α) (k : Nat) : cutA l (some (k : Int)) none = l.drop k := by
  unfold cutA
  rw [show HT.sIx l.length l.length none = l.length from rfl, show HT.sIx l.length 0 (some (k : Int)) = min k l.length from HT.sIx_nat ..]
  by_cases h : k ≤ l.length
  · rw [Nat.min_eq_left h]
    exact List.take_of_length_le (by simp)
  · rw [Nat.min_eq_right (by omega)]
    simp
    omega
theorem slT {xs : List PyData} {lo hi : Option Int} : fSl (.tuple xs) lo hi = some (.tuple (cutA xs lo hi)) := rfl
theorem slL {xs : List PyData} {lo hi : Option Int} : fSl (.list xs) lo hi = some (.list (cutA xs lo hi)) := rfl
theorem ixT {xs : List PyData} {i : Nat} {d : PyData} (h : xs[i]? = some d) : fIx (.tuple xs) (.int (i : Int)) = some d := by
  show L2.atI xs (i : Int) = some d
  unfold L2.atI
  rw [ixN_nat (List.getElem?_eq_some_iff.mp h).1]
  exact h
theorem ixT_0 {x : PyData} {xs : List PyData} : fIx (.tuple (x :: xs)) (.int 0) = some x := ixT (i := 0) rfl
theorem ixT_1 {x y : PyData} {xs : List PyData} : fIx (.tuple (x :: y :: xs)) (.int 1) = some y := ixT (i := 1) rfl
theorem ixT_2 {x y z : PyData} {xs : List PyData} : fIx (.tuple (x :: y :: z :: xs)) (.int 2) = some z := ixT (i := 2) rfl
theorem ixL_0 {x : PyData} {xs : List PyData} : fIx (.list (x :: xs)) (.int 0) = some x := ix_nat (i := 0) rfl
theorem rngD0 (n : Nat) : rngD 0 n = (List.range n).map fun i : Nat => PyData.int (i : Int) := by
  unfold rngD
  apply List.map_congr_left
  intro i _
  simp
theorem rngD_get {lo : Int} {n j : Nat} {d : PyData} (h : (rngD lo n)[j]? = some d) : d = .int (lo + j) ∧ j < n := by
  unfold rngD at h
  rw [List.getElem?_map] at h
  cases e : (List.range n)[j]? with
  | none => rw [e] at h; cases h
  | some i =>
    rw [e] at h
    obtain ⟨h1, h2⟩ := List.getElem?_eq_some_iff.mp e
    rw [List.getElem_range] at h2
    subst h2
    rw [List.length_range] at h1
    exact ⟨(Option.some.inj h).symm, h1⟩
@[simp] theorem rngD_len {lo : Int} {n : Nat} : (rngD lo n).length = n := by simp [rngD]
theorem all_map {α : Type} {f : α → PyData} {P : α → Prop} : ∀ {xs : List PyData}, (∀ x ∈ xs, ∃ a, x = f a ∧ P a) → ∃ as : List α, xs = as.map f ∧ ∀ a ∈ as, P a
  | [], _ => ⟨[], rfl, fun a h => by cases h⟩
  | x :: xs, h => by
    obtain ⟨a, rfl, ha⟩ := h x (List.mem_cons_self ..)
    obtain ⟨as, rfl, hs⟩ := all_map (xs := xs) fun y hy => h y (List.mem_cons_of_mem _ hy)
    exact ⟨a :: as, rfl, fun b hb => by
      rcases List.mem_cons.mp hb with rfl | hb
      · exact ha
      · exact hs b hb⟩
/-! ### webs, paints, sheets -/
abbrev Tie := Nat × Nat
abbrev Paint := List (Option Nat)
abbrev natD (i : Nat) : PyData := .int (i : Int)
def tieD (p : Tie) : PyData := .tuple [.int (p.1 : Int), .int (p.2 : Int)]
def webD (n : Nat) (ts : List Tie) : PyData := .tuple [.int (n : Int), .tuple (ts.map tieD)]
def colD : Option Nat → PyData
  | none => .none
  | some c => .int (c : Int)
def paintD (p : Paint) : PyData := .tuple (p.map colD)
def sheetD (n : Nat) (ts : List Tie) (k : Nat) (p : Paint) : PyData := .tuple [webD n ts, .int (k : Int), paintD p]
def tieLt (a b : Tie) : Prop := a.1 < b.1 ∨ (a.1 = b.1 ∧ a.2 < b.2)
structure WebOk (n : Nat) (ts : List Tie) : Prop where
  lo : 1 ≤ n
  hi : n ≤ 6
  few : ts.length ≤ 100
  lt : ∀ p ∈ ts, p.1 < p.2 ∧ p.2 < n
  up : ts.Pairwise tieLt
/-- the places tied to one -/
def tiedTo (ts : List Tie) (v : Nat) : List Nat := ((ts.filter fun t => decide (t.1 = v)).map (·.2)) ++ ((ts.filter fun t => decide (t.2 = v)).map (·.1))
theorem mem_tied {ts : List Tie} {v o : Nat} : o ∈ tiedTo ts v ↔ (v, o) ∈ ts ∨ (o, v) ∈ ts := by
  unfold tiedTo
  simp only [List.mem_append, List.mem_map, List.mem_filter, decide_eq_true_eq]
  constructor
  · rintro (⟨t, ⟨h, rfl⟩, rfl⟩ | ⟨t, ⟨h, rfl⟩, rfl⟩)
    · exact .inl h
    · exact .inr h
  · rintro (h | h)
    · exact .inl ⟨_, ⟨h, rfl⟩, rfl⟩
    · exact .inr ⟨_, ⟨h, rfl⟩, rfl⟩
theorem tied_lt {n : Nat} {ts : List Tie} (w : WebOk n ts) {v o : Nat} (h : o ∈ tiedTo ts v) : o < n ∧ v < n := by
  rcases mem_tied.mp h with h | h
  · have := w.lt _ h; simp at this; omega
  · have := w.lt _ h; simp at this; omega
/-- a place's colour -/
def colAt (p : Paint) (v : Nat) : Option Nat := p.getD v none
/-- the colours about a place -/
def usedC (ts : List Tie) (p : Paint) (v : Nat) : List (Option Nat) := (tiedTo ts v).map fun o => colAt p o
def freeC (ts : List Tie) (k : Nat) (p : Paint) (v : Nat) : List Nat := (List.range k).filter fun c => !decide (some c ∈ usedC ts p v)
theorem eqv_col (a : Option Nat) (c : Nat) : PyData.eqv (colD a) (.int (c : Int)) = decide (a = some c) := by
  cases a with
  | none => rfl
  | some a =>
    show ((a : Int) == (c : Int)) = _
    rw [Bool.eq_iff_iff]
    simp [Int.natCast_inj]
theorem in_cols (c : Nat) (l : List (Option Nat)) : fIn true (.int (c : Int)) (.list (l.map colD)) = some (.bool (!decide (some c ∈ l))) := by
  have e : inOk (.int (c : Int)) (l.map colD) = true := by
    unfold inOk
    rw [Bool.or_eq_true]
    left
    show (true && (l.map colD).all flatD) = true
    rw [Bool.true_and, List.all_eq_true]
    intro x hx
    obtain ⟨a, _, rfl⟩ := List.mem_map.mp hx
    cases a <;> rfl
  show (if inOk (.int (c : Int)) (l.map colD) = true then _ else none) = _
  rw [if_pos e]
  simp only [if_true]
  congr 3
  unfold inD
  rw [List.any_map, Bool.eq_iff_iff]
  simp only [Function.comp_def, eqv_col, List.any_eq_true, decide_eq_true_eq]
  constructor
  · rintro ⟨a, ha, rfl⟩; exact ha
  · exact fun h => ⟨_, h, rfl⟩
theorem paint_get {p : Paint} {o : Nat} (h : o < p.length) : (p.map colD)[o]? = some (colD (colAt p o)) := by
  unfold colAt
  rw [List.getElem?_map, List.getD_eq_getElem?_getD, List.getElem?_eq_getElem h]
  rfl
theorem enumD_t {α : Type} {e : α → PyData} : ∀ (xs : List α) (k : Nat), enumD (k : Int) (xs.map e) = (xs.zipIdx k).map fun a => PyData.tuple [.int (a.2 : Int), e a.1]
  | [], k => rfl
  | x :: xs, k => by
    have := enumD_t (e := e) xs (k + 1)
    show PyData.tuple [.int (k : Int), e x] :: enumD ((k : Int) + 1) (xs.map e) = _
    rw [show ((k : Int) + 1) = ((k + 1 : Nat) : Int) by omega, this]
    rfl
end K92
namespace K92
open PySem PySem.Spec PyProof.Rows L2 PD
/-! ### what webs and sheets are -/
theorem is_integer_ok {i : Int} (S : Store) : d_is_integer [.int i] S = .ok (.bool true) S := by
  unfold d_is_integer dFn b_is_integer env0
  simp [RS.fin]
theorem is_within_ok {i a b : Int} (S : Store) : d_is_within [.int i, .int a, .int b] S = .ok (.bool (decide (a ≤ i) && decide (i ≤ b))) S := by
  unfold d_is_within dFn b_is_within env0
  by_cases h : a ≤ i
  · simp [is_integer_ok, h, RS.fin]
  · simp [is_integer_ok, h, RS.fin]
theorem is_sized_ok {xs : List PyData} {a b : Int} (S : Store) : d_is_sized [.tuple xs, .int a, .int b] S = .ok (.bool (decide (a ≤ xs.length) && decide ((xs.length : Int) ≤ b))) S := by
  unfold d_is_sized dFn b_is_sized env0
  by_cases h : a ≤ (xs.length : Int)
  · simp [h, RS.fin]
  · simp [h, RS.fin]
theorem all_true {xs : List PyData} (h : ∀ x ∈ xs, x = .bool true) : fBs (fun bs => bs.all _root_.id) (.list xs) = some (.bool true) := by
  obtain ⟨bs, rfl, hb⟩ := all_map (f := PyData.bool) (P := fun b => b = true) (xs := xs) fun x hx => ⟨true, h x hx, rfl⟩
  show (boolsOf (bs.map .bool)).map (fun bs => PyData.bool (bs.all _root_.id)) = _
  rw [boolsOf_bools]
  simp only [Option.map_some]
  congr 2
  rw [List.all_eq_true]
  intro b hb'
  exact hb b hb'
theorem any_false {xs : List PyData} (h : ∀ x ∈ xs, x = .bool false) : fBs (fun bs => bs.any _root_.id) (.list xs) = some (.bool false) := by
  obtain ⟨bs, rfl, hb⟩ := all_map (f := PyData.bool) (P := fun b => b = false) (xs := xs) fun x hx => ⟨false, h x hx, rfl⟩
  show (boolsOf (bs.map .bool)).map (fun bs => PyData.bool (bs.any _root_.id)) = _
  rw [boolsOf_bools]
  simp only [Option.map_some]
  congr 2
  rw [List.any_eq_false]
  intro b hb'
  rw [hb b hb']
  simp
/-- a comprehension whose items are all one thing -/
theorem comp_k {t : Tg} {de : DE} {ρ : PD.Env} {S : Store} {z : PyData} {ds : List PyData} (h : ∀ d ∈ ds, ∃ ρ1, t.bind d ρ = some ρ1 ∧ de ρ1 S = .ok z S) : ∃ xs, compL t dYes de ρ [] ds S = .ok (.list xs) S ∧ ∀ x ∈ xs, x = z := by
  refine ⟨ds.map fun _ => z, ?_, fun x hx => ?_⟩
  · have := comp_map (t := t) (de := de) (ρ := ρ) (S := S) (f := fun _ => z) (ds := ds) (acc := []) h
    rw [List.nil_append] at this
    exact this
  · obtain ⟨_, _, rfl⟩ := List.mem_map.mp hx
    rfl
theorem zipD_t {α β : Type} {e : α → PyData} {f : β → PyData} : ∀ (xs : List α) (ys : List β), zipD (xs.map e) (ys.map f) = (xs.zip ys).map fun a => PyData.tuple [e a.1, f a.2]
  | [], ys => by cases ys <;> rfl
  | x :: xs, [] => rfl
  | x :: xs, y :: ys => by
    show PyData.tuple [e x, f y] :: zipD (xs.map e) (ys.map f) = _
    rw [zipD_t xs ys]
    rfl
theorem zip_next {α : Type} {R : α → α → Prop} : ∀ {xs : List α}, xs.Pairwise R → ∀ z ∈ xs.zip (xs.drop 1), R z.1 z.2
  | [], _, z, h => by simp at h
  | [x], _, z, h => by simp at h
  | x :: y :: r, hp, z, h => by
    have hp := List.pairwise_cons.mp hp
    simp only [List.drop_succ_cons, List.drop_zero, List.zip_cons_cons] at h
    rcases List.mem_cons.mp h with rfl | h
    · exact hp.1 y (List.mem_cons_self ..)
    · exact zip_next hp.2 z (by simpa using h)
theorem fLtI {i j : Int} : fLt (.int i) (.int j) = some (.bool (decide (i < j))) := rfl
theorem fLt_tie {a b : Tie} (h : tieLt a b) : fLt (tieD a) (tieD b) = some (.bool true) := by
  show some (PyData.bool (HT.lexLt [(a.1 : Int), (a.2 : Int)] [(b.1 : Int), (b.2 : Int)])) = _
  congr 2
  rcases h with h | ⟨h1, h2⟩
  · have : ¬ ((a.1 : Int) = (b.1 : Int)) := by omega
    have h' : (a.1 : Int) < (b.1 : Int) := by omega
    simp [HT.lexLt, this, h']
  · have h1' : (a.1 : Int) = (b.1 : Int) := by omega
    have h' : (a.2 : Int) < (b.2 : Int) := by omega
    have : ¬ ((a.2 : Int) = (b.2 : Int)) := by omega
    simp [HT.lexLt, h1', h', this]
theorem is_lot_ok {n : Nat} {p : Tie} (h1 : p.1 < p.2) (h2 : p.2 < n) (S : Store) : d_is_lot [tieD p, .int (n : Int)] S = .ok (.bool true) S := by
  obtain ⟨xs, q1, q2⟩ := comp_k (t := .nm 2) (de := (dCall d_is_within (dCons (dVar 2) (dCons (dC (.int 0)) (dCons (d2 (fI (fun _ _ => true) fun i j => i - j) (dVar 1) (dC (.int 1))) (dNil)))))) (ρ := [some (tieD p), some (.int (n : Int)), none, none]) (S := S) (z := .bool true) (ds := [.int (p.1 : Int), .int (p.2 : Int)]) (fun d hd => by
    refine ⟨_, rfl, ?_⟩
    simp only [List.mem_cons, List.not_mem_nil, or_false] at hd
    rcases hd with rfl | rfl
    · have a1 : (0 : Int) ≤ (p.1 : Int) := by omega
      have a2 : (p.1 : Int) ≤ (n : Int) - 1 := by omega
      simp [is_within_ok, a2]
    · have a2 : (p.2 : Int) ≤ (n : Int) - 1 := by omega
      simp [is_within_ok, a2])
  obtain ⟨ys, r1, r2⟩ := comp_k (t := .tup [2, 3]) (de := (d2 fLt (dVar 2) (dVar 3))) (ρ := [some (tieD p), some (.int (n : Int)), none, none]) (S := S) (z := .bool true) (ds := [.tuple [.int (p.1 : Int), .int (p.2 : Int)]]) (fun d hd => by
    rw [List.mem_singleton.mp hd]
    refine ⟨_, rfl, ?_⟩
    have : (p.1 : Int) < (p.2 : Int) := by omega
    simp [h1])
  have e1 := all_true q2
  have e2 := all_true r2
  have hz : fZip (tieD p) (.tuple [.int (p.2 : Int)]) = some [.tuple [.int (p.1 : Int), .int (p.2 : Int)]] := rfl
  have hs : fSl (tieD p) (some 1) none = some (.tuple [.int (p.2 : Int)]) := rfl
  have hq : seqD (tieD p) = some [.int (p.1 : Int), .int (p.2 : Int)] := rfl
  have ht : isT "tuple" (tieD p) = true := rfl
  unfold d_is_lot dFn b_is_lot env0
  simp [ht, hq, q1, e1, hs, hz, r1, e2, RS.fin]
theorem are_ties_ok {n : Nat} {ts : List Tie} (w : WebOk n ts) (S : Store) : d_are_ties [.int (n : Int), .tuple (ts.map tieD)] S = .ok (.bool true) S := by
  obtain ⟨xs, q1, q2⟩ := comp_k (t := .nm 4) (de := (dAndV (dCall d_is_sized (dCons (dVar 4) (dCons (dC (.int 2)) (dCons (dC (.int 2)) (dNil))))) (dCall d_is_lot (dCons (dVar 4) (dCons (dVar 0) (dNil)))))) (ρ := [some (.int (n : Int)), some (.tuple (ts.map tieD)), none, none, none]) (S := S) (z := .bool true) (ds := ts.map tieD) (fun d hd => by
    obtain ⟨p, hp, rfl⟩ := List.mem_map.mp hd
    obtain ⟨h1, h2⟩ := w.lt p hp
    have e1 : d_is_sized [tieD p, .int 2, .int 2] S = .ok (.bool true) S := is_sized_ok S
    exact ⟨_, rfl, by simp [e1, is_lot_ok h1 h2]⟩)
  obtain ⟨ys, r1, r2⟩ := comp_k (t := .tup [2, 3]) (de := (d2 fLt (dVar 2) (dVar 3))) (ρ := [some (.int (n : Int)), some (.tuple (ts.map tieD)), none, none, none]) (S := S) (z := .bool true) (ds := (ts.zip (ts.drop 1)).map fun a => PyData.tuple [tieD a.1, tieD a.2]) (fun d hd => by
    obtain ⟨z, hz, rfl⟩ := List.mem_map.mp hd
    refine ⟨_, rfl, ?_⟩
    have := fLt_tie (zip_next w.up z hz)
    simp [this])
  have e1 := all_true q2
  have e2 := all_true r2
  have hs : fSl (.tuple (ts.map tieD)) (some 1) none = some (.tuple ((ts.drop 1).map tieD)) := by
    rw [slT, show (1 : Int) = ((1 : Nat) : Int) from rfl, cutA_drop, List.map_drop]
  have hz : fZip (.tuple (ts.map tieD)) (.tuple ((ts.drop 1).map tieD)) = some ((ts.zip (ts.drop 1)).map fun a => PyData.tuple [tieD a.1, tieD a.2]) := by
    show some (zipD _ _) = _
    rw [zipD_t]
  generalize (ts.drop 1).map tieD = t1 at *
  generalize (ts.zip (ts.drop 1)).map (fun a => PyData.tuple [tieD a.1, tieD a.2]) = t2 at *
  generalize ts.map tieD = t0 at *
  unfold d_are_ties dFn b_are_ties env0
  simp [q1, e1, hs, hz, r1, e2, RS.fin]
theorem is_web_ok {n : Nat} {ts : List Tie} (w : WebOk n ts) (S : Store) : d_is_web [webD n ts] S = .ok (.bool true) S := by
  have e1 : d_is_sized [webD n ts, .int 2, .int 2] S = .ok (.bool true) S := is_sized_ok S
  have i0 : fIx (webD n ts) (.int 0) = some (.int (n : Int)) := ixT_0
  have i1 : fIx (webD n ts) (.int 1) = some (.tuple (ts.map tieD)) := ixT_1
  have e2 : d_is_within [.int (n : Int), .int 1, .int 8] S = .ok (.bool true) S := by
    rw [is_within_ok]
    have h1 := w.lo
    have h2 := w.hi
    have a1 : (1 : Int) ≤ (n : Int) := by omega
    have a2 : (n : Int) ≤ 8 := by omega
    rw [decide_eq_true a1, decide_eq_true a2]
    rfl
  unfold d_is_web dFn b_is_web env0
  simp [e1, i0, i1, e2, are_ties_ok w, RS.fin]
end K92
namespace K92
open PySem PySem.Spec PyProof.Rows L2 PD
/-! ### all paintings by rows -/
def rowD (r : List Nat) : PyData := .tuple (r.map natD)
theorem in_nats (c : Nat) (l : List Nat) : fIn true (.int (c : Int)) (.list (l.map natD)) = some (.bool (!decide (c ∈ l))) := by
  have := in_cols c (l.map some)
  rw [List.map_map] at this
  have e : (colD ∘ some) = natD := rfl
  rw [e] at this
  rw [this]
  congr 3
  rw [decide_eq_decide]
  simp
theorem row_get {r : List Nat} {o : Nat} (h : o < r.length) : (r.map natD)[o]? = some (natD (r.getD o 0)) := by
  rw [List.getElem?_map, List.getD_eq_getElem?_getD, List.getElem?_eq_getElem h]
  rfl
theorem tst2 {F : PyData → PyData → Option PyData} {i j : Nat} {ρ : PD.Env} {x y : PyData} {b : Bool} {S : Store} (hi : ρ.getD i none = some x) (hj : ρ.getD j none = some y) (h : F x y = some (.bool b)) : dTest (d2 F (dVar i) (dVar j)) ρ S = .ok b S := by
  simp only [ap_test, ap_d2, ap_var, hi, hj, h, ofO_some, R.bind_ok]
/-! ### the law's fillings -/
end K92
namespace K92
open PySem PySem.Spec PyProof.Rows L2 PD
/-! ### data that compare -/
theorem lay_all : ∀ {xs : List PyData}, (∀ x ∈ xs, x.canLay0 = true) → PyData.canLayAll0 xs = true
  | [], _ => by simp [PyData.canLayAll0]
  | x :: xs, h => by
    simp only [PyData.canLayAll0, h x (List.mem_cons_self ..), Bool.true_and]
    exact lay_all fun y hy => h y (List.mem_cons_of_mem _ hy)
theorem depth_all {n : Nat} : ∀ {xs : List PyData}, (∀ x ∈ xs, x.depth ≤ n) → PyData.depthAll xs ≤ n
  | [], _ => by simp [PyData.depthAll]
  | x :: xs, h => by
    have h1 := h x (List.mem_cons_self ..)
    have h2 := depth_all fun y hy => h y (List.mem_cons_of_mem _ hy)
    simp only [PyData.depthAll]
    omega
/-- may be compared, so deep at most -/
def Sh (n : Nat) (d : PyData) : Prop := d.canLay0 = true ∧ d.depth ≤ n
theorem Sh.mono {m n : Nat} {d : PyData} (h : Sh m d) (hmn : m ≤ n) : Sh n d := ⟨h.1, Nat.le_trans h.2 hmn⟩
theorem Sh.ok {n : Nat} {d : PyData} (h : Sh n d) (hn : n ≤ 64 := by decide) : SeqAt.shaped d = true := by
  show (d.canLay0 && decide (d.depth ≤ 64)) = true
  rw [h.1, decide_eq_true (Nat.le_trans h.2 hn)]
  rfl
theorem sh_lst {n : Nat} {xs : List PyData} (h : ∀ x ∈ xs, Sh n x) : Sh (n + 1) (.list xs) := by
  have h1 := lay_all fun x hx => (h x hx).1
  have h2 := depth_all fun x hx => (h x hx).2
  refine ⟨by simpa only [PyData.canLay0] using h1, ?_⟩
  simp only [PyData.depth]
  omega
theorem sh_tup {n : Nat} {xs : List PyData} (h : ∀ x ∈ xs, Sh n x) : Sh (n + 1) (.tuple xs) := by
  have h1 := lay_all fun x hx => (h x hx).1
  have h2 := depth_all fun x hx => (h x hx).2
  refine ⟨by simpa only [PyData.canLay0] using h1, ?_⟩
  simp only [PyData.depth]
  omega
theorem sh_int {i : Int} : Sh 0 (.int i) := ⟨rfl, Nat.le_refl _⟩
theorem sh_non : Sh 0 .none := ⟨rfl, Nat.le_refl _⟩
theorem sh_str {z : Str} (h : PyData.strOk z = true) : Sh 0 (.str z) := ⟨by simpa only [PyData.canLay0] using h, Nat.le_refl _⟩
theorem sh_map {α : Type} {n : Nat} {f : α → PyData} {l : List α} (h : ∀ a, Sh n (f a)) : ∀ x ∈ l.map f, Sh n x := fun x hx => by
  obtain ⟨a, _, rfl⟩ := List.mem_map.mp hx
  exact h a
theorem sh_col (a : Option Nat) : Sh 0 (colD a) := by cases a <;> first | exact sh_non | exact sh_int
theorem sh_paint (p : Paint) : Sh 1 (paintD p) := sh_tup (sh_map sh_col)
theorem sh_row (r : List Nat) : Sh 1 (rowD r) := sh_tup (sh_map fun _ => sh_int)
theorem sh_tie (t : Tie) : Sh 1 (tieD t) := sh_tup fun x hx => by
  simp only [List.mem_cons, List.not_mem_nil, or_false] at hx
  rcases hx with rfl | rfl <;> exact sh_int
theorem sh_web (n : Nat) (ts : List Tie) : Sh 3 (webD n ts) := sh_tup fun x hx => by
  simp only [List.mem_cons, List.not_mem_nil, or_false] at hx
  rcases hx with rfl | rfl
  · exact sh_int.mono (by decide)
  · exact sh_tup (sh_map sh_tie)
theorem sh_sheet (n : Nat) (ts : List Tie) (k : Nat) (p : Paint) : Sh 4 (sheetD n ts k p) := sh_tup fun x hx => by
  simp only [List.mem_cons, List.not_mem_nil, or_false] at hx
  rcases hx with rfl | rfl | rfl
  · exact sh_web n ts
  · exact sh_int.mono (by decide)
  · exact (sh_paint p).mono (by decide)
mutual
theorem eqv_same : ∀ d : PyData, d.canLay0 = true → PyData.eqv d d = true
  | .none, _ => rfl
  | .bool b, _ => by cases b <;> rfl
  | .int i, _ => by show (i == i) = true; simp
  | .str z, _ => by show (z == z) = true; simp
  | .list xs, h => by
    have := eqv_sameA xs (by simpa only [PyData.canLay0] using h)
    simpa [PyData.eqv] using this
  | .tuple xs, h => by
    have := eqv_sameA xs (by simpa only [PyData.canLay0] using h)
    simpa [PyData.eqv] using this
  | .dict _, h => by simp [PyData.canLay0] at h
theorem eqv_sameA : ∀ xs : List PyData, PyData.canLayAll0 xs = true → PyData.eqvAll xs xs = true
  | [], _ => by simp [PyData.eqvAll]
  | x :: xs, h => by
    simp only [PyData.canLayAll0, Bool.and_eq_true] at h
    simp only [PyData.eqvAll, Bool.and_eq_true]
    exact ⟨eqv_same x h.1, eqv_sameA xs h.2⟩
end
theorem orF_eq {x y : PyData} (hx : SeqAt.shaped x = true) (hy : SeqAt.shaped y = true) (h0 : fEqS x y = none) : fEq x y = some (.bool (PyData.eqv x y)) := by
  unfold fEq orF
  rw [h0]
  unfold fEqD
  rw [hx, hy]
  rfl
theorem orF_ne {x y : PyData} (hx : SeqAt.shaped x = true) (hy : SeqAt.shaped y = true) (h0 : fNeS x y = none) : fNe x y = some (.bool (!PyData.eqv x y)) := by
  unfold fNe orF
  rw [h0]
  unfold fNeD
  rw [hx, hy]
  rfl
theorem ne_self {x : PyData} {n : Nat} (h : Sh n x) (hn : n ≤ 64 := by decide) (h0 : fNeS x x = none := by rfl) : fNe x x = some (.bool false) := by
  rw [orF_ne (h.ok hn) (h.ok hn) h0, eqv_same x h.1]
  rfl
theorem sh_nil : Sh 1 (.list []) := sh_lst fun x hx => by cases hx
theorem eq_nil {xs : List PyData} {n : Nat} (h : Sh n (.list xs)) (hn : n ≤ 64 := by decide) : fEq (.list xs) (.list []) = some (.bool xs.isEmpty) := by
  rw [orF_eq (h.ok hn) sh_nil.ok rfl]
  cases xs <;> rfl
theorem ne_nil {xs : List PyData} {n : Nat} (h : Sh n (.list xs)) (hn : n ≤ 64 := by decide) : fNe (.list xs) (.list []) = some (.bool !xs.isEmpty) := by
  rw [orF_ne (h.ok hn) sh_nil.ok rfl]
  cases xs <;> rfl
/-! ### the law's leading on -/
end K92
namespace K92
open PySem PySem.Spec PyProof.Rows L2 PD
/-! ### drawn webs and sheets -/
def wbody : DS := (dSet 4 (d2 fAddL (dVar 4) (dComp (dRng2 (d2 fAdd (dVar 5) (dC (.int 1))) (dVar 2)) (.nm 6) (dTest (d2 fLt (dCall d__law_draw (dCons dSt (dCons (dC (.int 4)) (dNil)))) (dVar 3))) (dTup (dCons (dVar 5) (dCons (dVar 6) (dNil)))))))
theorem web_step {most nn sh j : Int} {ts zs ws : List PyData} {o6 : Option PyData} {S S' : Store} (c1 : cR (j + 1) = true) (c2 : cR nn = true) (c3 : sz (nn - (j + 1)).toNat = true)
    (h : compL (.nm 6) (dTest (d2 fLt (dCall d__law_draw (dCons dSt (dCons (dC (.int 4)) (dNil)))) (dVar 3))) (dTup (dCons (dVar 5) (dCons (dVar 6) (dNil)))) [some .none, some (.int most), some (.int nn), some (.int sh), some (.list ts), some (.int j), o6] [] (rngD (j + 1) (nn - (j + 1)).toNat) S = .ok (.list zs) S') (ha : fAddL (.list ts) (.list zs) = some (.list ws)) :
    wbody [some .none, some (.int most), some (.int nn), some (.int sh), some (.list ts), some (.int j), o6] S = .nx [some .none, some (.int most), some (.int nn), some (.int sh), some (.list ws), some (.int j), o6] S' := by
  unfold wbody
  simp [c1, c2, c3, h, ha]
theorem web_ok {S : Store} (h : TapeOk S) : ∃ n ts S', d__law_web [.none, .int 5] S = .ok (webD n ts) S' ∧ TapeOk S' ∧ WebOk n ts ∧ n ≤ 5 := by
  obtain ⟨r, S1, e1, ht1, r0, r1⟩ := draw_ok (n := 5) h (by decide) (by decide)
  obtain ⟨m, rfl⟩ : ∃ m : Nat, r = m := ⟨r.toNat, by omega⟩
  obtain ⟨sh, S2, e2, ht2, s0, s1⟩ := draw_ok (n := 3) ht1 (by decide) (by decide)
  have hn1 : (1 : Int) + (m : Int) = ((1 + m : Nat) : Int) := by omega
  obtain ⟨ρ', S', q, ht', ts, o5, o6, rfl, h1, h2, h3⟩ := for_n (t := .nm 5) (body := wbody) (I := fun j ρ S => TapeOk S ∧ ∃ (ts : List Tie) (o5 o6 : Option PyData), ρ = [some .none, some (.int 5), some (.int ((1 + m : Nat) : Int)), some (.int (1 + sh)), some (.list (ts.map tieD)), o5, o6] ∧ ts.length ≤ 6 * j ∧ (∀ p ∈ ts, p.1 < j ∧ p.1 < p.2 ∧ p.2 < 1 + m) ∧ ts.Pairwise tieLt)
    (ds := rngD 0 ((1 + m : Nat) : Int).toNat) (k := 0) (ρ := [some .none, some (.int 5), some (.int ((1 + m : Nat) : Int)), some (.int (1 + sh)), some (.list []), none, none]) (S := S2) ⟨ht2, [], none, none, rfl, by simp, fun p hp => (by cases hp), .nil⟩ (by
    rintro j d hd ρ S ⟨hS, ts, o5, o6, rfl, hl, hts, hup⟩
    obtain ⟨rfl, hj⟩ := rngD_get hd
    rw [Int.toNat_natCast] at hj
    rw [Nat.zero_add] at *
    have ej : (0 : Int) + (j : Int) = (j : Int) := by omega
    rw [ej]
    obtain ⟨ys, S', q1, q2, q3⟩ := comp_sub (t := .nm 6) (tt := (dTest (d2 fLt (dCall d__law_draw (dCons dSt (dCons (dC (.int 4)) (dNil)))) (dVar 3)))) (de := (dTup (dCons (dVar 5) (dCons (dVar 6) (dNil)))))
      (ρ := [some .none, some (.int 5), some (.int ((1 + m : Nat) : Int)), some (.int (1 + sh)), some (.list (ts.map tieD)), some (natD j), o6]) (I := TapeOk) (f := fun d => .tuple [natD j, d]) (ds := rngD ((j : Int) + 1) (((1 + m : Nat) : Int) - ((j : Int) + 1)).toNat) (acc := []) hS (fun d hd S hS => by
        obtain ⟨x, S3, f1, f2, f3, f4⟩ := draw_ok (n := 4) hS (by decide) (by decide)
        refine ⟨_, rfl, decide (x < 1 + sh), S3, ?_, f2, fun _ => ?_⟩
        · simp [f1, fLtI]
        · simp [sz_small])
    rw [List.nil_append] at q1
    unfold rngD at q3
    obtain ⟨is, hsub, rfl⟩ := List.sublist_map_iff.mp q3
    have hil : is.length ≤ 6 := by
      have := hsub.length_le
      rw [List.length_range] at this
      omega
    have hmem : ∀ i ∈ is, i < m - j := fun i hi => by
      have := List.mem_range.mp (hsub.subset hi)
      omega
    have ezs : (is.map fun i : Nat => PyData.int ((j : Int) + 1 + (i : Int))).map (fun d => PyData.tuple [natD j, d]) = (is.map fun i => ((j, j + 1 + i) : Tie)).map tieD := by
      rw [List.map_map, List.map_map]
      apply List.map_congr_left
      intro i _
      show PyData.tuple [natD j, PyData.int ((j : Int) + 1 + (i : Int))] = PyData.tuple [natD j, PyData.int ((j + 1 + i : Nat) : Int)]
      rw [show ((j : Int) + 1 + (i : Int)) = ((j + 1 + i : Nat) : Int) by omega]
    rw [ezs] at q1
    have ha := fAddL_ok (xs := ts.map tieD) (ys := (is.map fun i => ((j, j + 1 + i) : Tie)).map tieD) (by simp; omega)
    rw [← List.map_append] at ha
    have hstep := web_step (most := 5) (nn := ((1 + m : Nat) : Int)) (sh := 1 + sh) (j := (j : Int)) (o6 := o6) (cR_small (by omega) (by omega)) (cR_small (by omega) (by omega)) (sz_small (by omega)) q1 ha
    refine ⟨_, rfl, _, S', hstep, q2, _, some (natD j), o6, rfl, ?_, fun p hp => ?_, ?_⟩
    · rw [List.length_append, List.length_map]
      omega
    · rcases List.mem_append.mp hp with hp | hp
      · have := hts p hp
        omega
      · obtain ⟨i, hi, rfl⟩ := List.mem_map.mp hp
        have := hmem i hi
        dsimp only
        omega
    · rw [List.pairwise_append]
      refine ⟨hup, ?_, fun a ha b hb => ?_⟩
      · rw [List.pairwise_map]
        refine List.Pairwise.imp ?_ (List.Pairwise.sublist hsub List.pairwise_lt_range)
        intro a b hab
        exact .inr ⟨rfl, by dsimp only; omega⟩
      · obtain ⟨i, _, rfl⟩ := List.mem_map.mp hb
        exact .inl (hts a ha).1)
  have e3 : d__law_draw [.none, .int 5] S = .ok (.int (m : Int)) S1 := e1
  refine ⟨1 + m, ts, S', ?_, ht', ⟨by omega, by omega, ?_, fun p hp => (h2 p hp).2, h3⟩, by omega⟩
  · have step : ∀ (nn : Int) (ts : List PyData) (ρ' : PD.Env), (1 : Int) + (m : Int) = nn → cR nn = true → sz nn.toNat = true → forL (.nm 5) wbody (rngD 0 nn.toNat) [some .none, some (.int 5), some (.int nn), some (.int (1 + sh)), some (.list []), none, none] S2 = .nx [some .none, some (.int 5), some (.int nn), some (.int (1 + sh)), some (.list ts), o5, o6] S' →
        d__law_web [.none, .int 5] S = .ok (.tuple [.int nn, .tuple ts]) S' := by
      intro nn ts _ hnn c1 c2 q
      unfold d__law_web dFn b__law_web env0
      unfold wbody at q
      simp [e3, e2, setAll, hnn, c1, c2, q, sz_small, RS.fin]
    exact step _ _ [] hn1 (cR_small (by omega) (by omega)) (sz_small (by omega)) q
  · rw [rngD_len, Int.toNat_natCast] at h1
    omega
/-! ### others, by the law -/
end K92
namespace K92
open PySem PySem.Spec PyProof.Rows L2 PD
/-! ### mixed webs; times by the law's own listing -/
def mixD (n : Nat) (ts as : List Tie) : PyData := .tuple [.int (n : Int), .tuple (ts.map tieD), .tuple (as.map tieD)]
structure MixOk (n : Nat) (ts as : List Tie) : Prop where
  w : WebOk n ts
  five : n ≤ 5
  lt : ∀ a ∈ as, a.1 ≠ a.2 ∧ a.1 < n ∧ a.2 < n
  up : as.Pairwise tieLt
  few : as.length ≤ 100
  anti : ∀ a ∈ as, (a.2, a.1) ∉ as ∧ (min a.1 a.2, max a.1 a.2) ∉ ts
def fitsB (ts as : List Tie) (x : List Nat) : Bool := !(ts.any fun t => decide (t.2 < x.length) && decide (x.getD t.1 0 = x.getD t.2 0)) && as.all fun a => decide (x.length ≤ max a.1 a.2) || decide (x.getD a.1 0 < x.getD a.2 0)
theorem fIx_row {x : List Nat} {v : Nat} (h : v < x.length) : fIx (rowD x) (natD v) = some (natD (x.getD v 0)) := ixT (row_get h)
theorem eq_nats (a b : Nat) : fEq (natD a) (natD b) = some (.bool (decide (a = b))) := by
  show some (PyData.bool (decide ((a : Int) = (b : Int)))) = _
  congr 2
  rw [decide_eq_decide]
  omega
theorem lt_nats (a b : Nat) : fLt (natD a) (natD b) = some (.bool (decide (a < b))) := by
  show some (PyData.bool (decide ((a : Int) < (b : Int)))) = _
  congr 2
  rw [decide_eq_decide]
  omega
theorem ge_nats (a b : Nat) : fGe (natD a) (natD b) = some (.bool (decide (b ≤ a))) := by
  show some (PyData.bool (decide ((b : Int) ≤ (a : Int)))) = _
  congr 2
  rw [decide_eq_decide]
  omega
theorem max_nats (a b : Nat) : fMax2 (natD a) (natD b) = some (natD (max a b)) := by
  show some (PyData.int (if (b : Int) > (a : Int) then (b : Int) else (a : Int))) = some (PyData.int ((max a b : Nat) : Int))
  congr 2
  split <;> omega
theorem min_nats (a b : Nat) : fMin2 (natD a) (natD b) = some (natD (min a b)) := by
  show some (PyData.int (if (b : Int) < (a : Int) then (b : Int) else (a : Int))) = some (PyData.int ((min a b : Nat) : Int))
  congr 2
  split <;> omega
theorem fBs_ok {f : List Bool → Bool} (bs : List Bool) : fBs f (.list (bs.map .bool)) = some (.bool (f bs)) := by
  unfold fBs
  simp
theorem comp_b {α : Type} {t : Tg} {de : DE} {ρ : PD.Env} {S : Store} {e : α → PyData} {f : α → Bool} {xs : List α} (h : ∀ a ∈ xs, ∃ ρ1, t.bind (e a) ρ = some ρ1 ∧ de ρ1 S = .ok (.bool (f a)) S) :
    compL t dYes de ρ [] (xs.map e) S = .ok (.list ((xs.map f).map .bool)) S := by
  have := comp_y (t := t) (de := de) (ρ := ρ) (S := S) (e := e) (g := PyData.bool) (f := f) (xs := xs) (acc := []) h
  simpa using this
theorem all_map_id {α : Type} (f : α → Bool) (xs : List α) : (xs.map f).all _root_.id = xs.all f := by rw [List.all_map]; rfl
theorem any_map_id {α : Type} (f : α → Bool) (xs : List α) : (xs.map f).any _root_.id = xs.any f := by rw [List.any_map]; rfl
theorem fits_step {M X N TS AS : PyData} {ts as bs cs : List PyData} {ln : PyData} {b1 b2 : Bool} {S : Store} (hb : (Tg.tup [2, 3, 4]).bind M [some M, some X, none, none, none, none, none, none] = some [some M, some X, some N, some TS, some AS, none, none, none]) (hl : fLen X = some ln) (h1 : seqD TS = some ts) (h2 : seqD AS = some as)
    (c1 : compL (.tup [6, 7]) dYes (dAndV (d2 fLt (dVar 7) (dVar 5)) (d2 fEq (d2 fIx (dVar 1) (dVar 6)) (d2 fIx (dVar 1) (dVar 7)))) [some M, some X, some N, some TS, some AS, some ln, none, none] [] ts S = .ok (.list bs) S) (e1 : fBs (fun bs => bs.any _root_.id) (.list bs) = some (.bool b1))
    (c2 : compL (.tup [6, 7]) dYes (dOrV (d2 fGe (d2 fMax2 (dVar 6) (dVar 7)) (dVar 5)) (d2 fLt (d2 fIx (dVar 1) (dVar 6)) (d2 fIx (dVar 1) (dVar 7)))) [some M, some X, some N, some TS, some AS, some ln, none, none] [] as S = .ok (.list cs) S) (e2 : fBs (fun bs => bs.all _root_.id) (.list cs) = some (.bool b2)) :
    d__law_fits [M, X] S = .ok (.bool (!b1 && b2)) S := by
  unfold d__law_fits dFn b__law_fits env0
  cases b1 with
  | true => simp [hb, hl, h1, c1, e1, RS.fin]
  | false => simp [hb, hl, h1, c1, e1, h2, c2, e2, RS.fin]
theorem fits_ok {n : Nat} {ts as : List Tie} (m : MixOk n ts as) (x : List Nat) (S : Store) : d__law_fits [mixD n ts as, rowD x] S = .ok (.bool (fitsB ts as x)) S := by
  have hl : fLen (rowD x) = some (natD x.length) := by show some (PyData.int ((x.map natD).length : Nat)) = _; rw [List.length_map]
  have c1 := comp_b (t := .tup [6, 7]) (de := (dAndV (d2 fLt (dVar 7) (dVar 5)) (d2 fEq (d2 fIx (dVar 1) (dVar 6)) (d2 fIx (dVar 1) (dVar 7))))) (ρ := [some (mixD n ts as), some (rowD x), some (natD n), some (.tuple (ts.map tieD)), some (.tuple (as.map tieD)), some (natD x.length), none, none]) (S := S) (e := tieD) (f := fun t => decide (t.2 < x.length) && decide (x.getD t.1 0 = x.getD t.2 0)) (xs := ts) fun t ht => ⟨[some (mixD n ts as), some (rowD x), some (natD n), some (.tuple (ts.map tieD)), some (.tuple (as.map tieD)), some (natD x.length), some (natD t.1), some (natD t.2)], rfl, by
    have h1 := lt_nats t.2 x.length
    by_cases h : t.2 < x.length
    · have hlt := (m.w.lt t ht).1
      have a1 := fIx_row (x := x) (v := t.1) (by omega)
      have a2 := fIx_row (x := x) (v := t.2) h
      have a3 := eq_nats (x.getD t.1 0) (x.getD t.2 0)
      rw [decide_eq_true h] at h1 ⊢
      generalize natD (x.getD t.1 0) = X at *
      generalize natD (x.getD t.2 0) = Y at *
      generalize rowD x = R at *
      generalize natD t.1 = V at *
      generalize natD t.2 = W at *
      generalize natD x.length = LN at *
      simp [h1, a1, a2, a3]
    · rw [decide_eq_false h] at h1 ⊢
      generalize natD t.2 = W at *
      generalize natD x.length = LN at *
      simp [h1]⟩
  have c2 := comp_b (t := .tup [6, 7]) (de := (dOrV (d2 fGe (d2 fMax2 (dVar 6) (dVar 7)) (dVar 5)) (d2 fLt (d2 fIx (dVar 1) (dVar 6)) (d2 fIx (dVar 1) (dVar 7))))) (ρ := [some (mixD n ts as), some (rowD x), some (natD n), some (.tuple (ts.map tieD)), some (.tuple (as.map tieD)), some (natD x.length), none, none]) (S := S) (e := tieD) (f := fun a => decide (x.length ≤ max a.1 a.2) || decide (x.getD a.1 0 < x.getD a.2 0)) (xs := as) fun t ht => ⟨[some (mixD n ts as), some (rowD x), some (natD n), some (.tuple (ts.map tieD)), some (.tuple (as.map tieD)), some (natD x.length), some (natD t.1), some (natD t.2)], rfl, by
    have h0 := max_nats t.1 t.2
    have h1 := ge_nats (max t.1 t.2) x.length
    by_cases h : x.length ≤ max t.1 t.2
    · rw [decide_eq_true h] at h1 ⊢
      generalize natD (max t.1 t.2) = MX at *
      generalize natD t.1 = V at *
      generalize natD t.2 = W at *
      generalize natD x.length = LN at *
      simp [h0, h1]
    · have a1 := fIx_row (x := x) (v := t.1) (by omega)
      have a2 := fIx_row (x := x) (v := t.2) (by omega)
      have a3 := lt_nats (x.getD t.1 0) (x.getD t.2 0)
      rw [decide_eq_false h] at h1 ⊢
      generalize natD (max t.1 t.2) = MX at *
      generalize natD (x.getD t.1 0) = X at *
      generalize natD (x.getD t.2 0) = Y at *
      generalize rowD x = R at *
      generalize natD t.1 = V at *
      generalize natD t.2 = W at *
      generalize natD x.length = LN at *
      simp [h0, h1, a1, a2, a3]⟩
  have e1 := fBs_ok (f := fun bs => bs.any _root_.id) (ts.map fun t => decide (t.2 < x.length) && decide (x.getD t.1 0 = x.getD t.2 0))
  have e2 := fBs_ok (f := fun bs => bs.all _root_.id) (as.map fun a => decide (x.length ≤ max a.1 a.2) || decide (x.getD a.1 0 < x.getD a.2 0))
  rw [any_map_id] at e1
  rw [all_map_id] at e2
  exact fits_step (N := natD n) rfl hl rfl rfl c1 e1 c2 e2
/-! the listing -/
def extT (ts as : List Tie) (k : Nat) (r : List Nat) : List (List Nat) := ((List.range k).filter fun c => fitsB ts as (r ++ [c])).map fun c => r ++ [c]
def timesN (ts as : List Tie) (k : Nat) : Nat → List (List Nat)
  | 0 => [[]]
  | v + 1 => (timesN ts as k v).flatMap (extT ts as k)
theorem flat_len {α β : Type} {g : α → List β} {c : Nat} : ∀ {l : List α}, (∀ a ∈ l, (g a).length ≤ c) → (l.flatMap g).length ≤ c * l.length
  | [], _ => by simp
  | a :: l, h => by
    rw [List.flatMap_cons, List.length_append, List.length_cons, Nat.mul_add, Nat.mul_one]
    have := h a List.mem_cons_self
    have := flat_len fun b hb => h b (List.mem_cons_of_mem _ hb)
    omega
theorem extT_len (ts as : List Tie) (k : Nat) (r : List Nat) : (extT ts as k r).length ≤ k := by
  unfold extT
  rw [List.length_map]
  have := List.length_filter_le (fun c => fitsB ts as (r ++ [c])) (List.range k)
  rw [List.length_range] at this
  exact this
theorem times_len {ts as : List Tie} {k q : Nat} (hk : k ≤ q) : ∀ v, (timesN ts as k v).length ≤ q ^ v
  | 0 => by simp [timesN]
  | v + 1 => by
    have ih := times_len (ts := ts) (as := as) hk v
    have h := flat_len (l := timesN ts as k v) (g := extT ts as k) (c := k) fun r _ => extT_len ts as k r
    have h2 : k * (timesN ts as k v).length ≤ q * q ^ v := Nat.mul_le_mul hk ih
    show ((timesN ts as k v).flatMap (extT ts as k)).length ≤ q ^ (v + 1)
    rw [Nat.pow_succ, Nat.mul_comm]
    omega
theorem times_member_len {ts as : List Tie} {k : Nat} : ∀ {v : Nat} {r : List Nat}, r ∈ timesN ts as k v → r.length = v
  | 0, r, h => by
    have : r = [] := by simpa [timesN] using h
    subst this; rfl
  | v + 1, r, h => by
    obtain ⟨r', h1, h2⟩ := List.mem_flatMap.mp h
    unfold extT at h2
    obtain ⟨c, _, rfl⟩ := List.mem_map.mp h2
    rw [List.length_append, times_member_len h1]
    rfl
end K92
namespace K92
open PySem PySem.Spec PyProof.Rows L2 PD
theorem row_snoc {r : List Nat} {c : Nat} (h : r.length < 100) : fAdd (rowD r) (.tuple [natD c]) = some (rowD (r ++ [c])) := by
  unfold rowD
  rw [fAddT_ok (by rw [List.length_map, List.length_singleton]; omega), List.map_append]
  rfl
def tib : DS := (dSet 4 (d2 fAddL (dVar 4) (dComp (dRng1 (dVar 1)) (.nm 6) (dTest (dCall d__law_fits (dCons (dVar 0) (dCons (d2 fAdd (dVar 5) (dTup (dCons (dVar 6) (dNil)))) (dNil))))) (d2 fAdd (dVar 5) (dTup (dCons (dVar 6) (dNil)))))))
def tob : DS := (dSeq (dSet 4 (dLst (dNil))) (dSeq (dFor (dIt seqD (dVar 2)) (.nm 5) tib) (dSet 2 (dVar 4))))
theorem tib_step {M F V R : PyData} {kk : Int} {gs ns ws : List PyData} {S : Store} (c1 : cR kk = true) (c2 : sz kk.toNat = true)
    (h : compL (.nm 6) (dTest (dCall d__law_fits (dCons (dVar 0) (dCons (d2 fAdd (dVar 5) (dTup (dCons (dVar 6) (dNil)))) (dNil))))) (d2 fAdd (dVar 5) (dTup (dCons (dVar 6) (dNil)))) [some M, some (.int kk), some F, some V, some (.list gs), some R, none] [] (rngD 0 kk.toNat) S = .ok (.list ns) S) (ha : fAddL (.list gs) (.list ns) = some (.list ws)) :
    tib [some M, some (.int kk), some F, some V, some (.list gs), some R, none] S = .nx [some M, some (.int kk), some F, some V, some (.list ws), some R, none] S := by
  unfold tib
  simp only [ap_set, ap_d2, ap_var, ap_comp, ap_rng1, List.getD_cons_succ, List.getD_cons_zero, List.set_cons_succ, List.set_cons_zero, ofO_some, PD.R.bind_ok, PD.R.st_ok, c1, c2, Bool.and_self, if_true, h, ha]
theorem tib_turn {n : Nat} {ts as : List Tie} {k : Nat} {r : List Nat} {gs : List (List Nat)} {F V : PyData} {S : Store} (m : MixOk n ts as) (hk : k ≤ 8) (hr : r.length < 100) (hg : gs.length ≤ 5000) :
    tib [some (mixD n ts as), some (natD k), some F, some V, some (.list (gs.map rowD)), some (rowD r), none] S = .nx [some (mixD n ts as), some (natD k), some F, some V, some (.list ((gs ++ extT ts as k r).map rowD)), some (rowD r), none] S := by
  have h := comp_t (t := .nm 6) (tt := (dTest (dCall d__law_fits (dCons (dVar 0) (dCons (d2 fAdd (dVar 5) (dTup (dCons (dVar 6) (dNil)))) (dNil)))))) (de := (d2 fAdd (dVar 5) (dTup (dCons (dVar 6) (dNil))))) (ρ := [some (mixD n ts as), some (natD k), some F, some V, some (.list (gs.map rowD)), some (rowD r), none]) (S := S) (e := natD) (g := rowD) (p := fun c => fitsB ts as (r ++ [c])) (f := fun c => r ++ [c]) (xs := List.range k) (acc := []) fun c _ => ⟨[some (mixD n ts as), some (natD k), some F, some V, some (.list (gs.map rowD)), some (rowD r), some (natD c)], rfl, by
    have e1 := row_snoc (c := c) hr
    have e2 := fits_ok m (r ++ [c]) S
    generalize fitsB ts as (r ++ [c]) = b at *
    generalize rowD (r ++ [c]) = R2 at *
    generalize rowD r = R at *
    generalize natD c = C at *
    generalize mixD n ts as = M at *
    simp [e1, e2, sz_small], fun _ => by
    have e1 := row_snoc (c := c) hr
    generalize rowD (r ++ [c]) = R2 at *
    generalize rowD r = R at *
    generalize natD c = C at *
    simp [e1, sz_small]⟩
  rw [List.nil_append, ← rngD0] at h
  have hl := extT_len ts as k r
  have ha := fAddL_ok (xs := gs.map rowD) (ys := (extT ts as k r).map rowD) (by rw [List.length_map, List.length_map]; omega)
  rw [← List.map_append] at ha
  exact tib_step (cR_small (by omega) (by omega)) (sz_small (by omega)) (by rw [Int.toNat_natCast]; exact h) ha
theorem tob_turn {n : Nat} {ts as : List Tie} {k v : Nat} {o4 o5 : Option PyData} {S : Store} (m : MixOk n ts as) (hk : k ≤ 4) (hv : v < n) :
    ∃ p4 p5, tob [some (mixD n ts as), some (natD k), some (.list ((timesN ts as k v).map rowD)), some (natD v), o4, o5, none] S = .nx [some (mixD n ts as), some (natD k), some (.list ((timesN ts as k (v + 1)).map rowD)), some (natD v), p4, p5, none] S := by
  have hn := m.five
  have hrl := times_len (ts := ts) (as := as) (q := 4) hk v
  have hp : 4 ^ v ≤ 4 ^ 4 := Nat.pow_le_pow_right (by decide) (by omega)
  obtain ⟨ρ', S', q, rfl, o5', rfl⟩ := for_n (t := .nm 5) (body := tib) (I := fun j ρ S' => S' = S ∧ ∃ p5, ρ = [some (mixD n ts as), some (natD k), some (.list ((timesN ts as k v).map rowD)), some (natD v), some (.list ((((timesN ts as k v).take j).flatMap (extT ts as k)).map rowD)), p5, none]) (ds := (timesN ts as k v).map rowD) (k := 0)
    (ρ := [some (mixD n ts as), some (natD k), some (.list ((timesN ts as k v).map rowD)), some (natD v), some (.list []), o5, none]) (S := S) ⟨rfl, o5, rfl⟩ (by
    rintro j d hd ρ S' ⟨rfl, p5, rfl⟩
    rw [List.getElem?_map] at hd
    cases hr : (timesN ts as k v)[j]? with
    | none => rw [hr] at hd; cases hd
    | some r =>
      rw [hr] at hd
      cases hd
      rw [Nat.zero_add] at *
      have hfl := flat_len (l := (timesN ts as k v).take j) (g := extT ts as k) (c := k) fun r _ => extT_len ts as k r
      have hkj : k * ((timesN ts as k v).take j).length ≤ 4 * 256 := Nat.mul_le_mul hk (by rw [List.length_take]; omega)
      have h := tib_turn (k := k) (F := .list ((timesN ts as k v).map rowD)) (V := natD v) (gs := ((timesN ts as k v).take j).flatMap (extT ts as k)) (S := S') (r := r) m (by omega) (by rw [times_member_len (List.mem_of_getElem? hr)]; omega) (by omega)
      refine ⟨_, rfl, _, S', h, rfl, some (rowD r), ?_⟩
      rw [List.take_succ, hr, List.flatMap_append]
      simp)
  have hlen : 0 + ((timesN ts as k v).map rowD).length = (timesN ts as k v).length := by simp
  rw [hlen, List.take_length] at q
  have step : ∀ (W K V : PyData) (os ns : List PyData), forL (.nm 5) tib os [some W, some K, some (.list os), some V, some (.list []), o5, none] S' = .nx [some W, some K, some (.list os), some V, some (.list ns), o5', none] S' →
      tob [some W, some K, some (.list os), some V, o4, o5, none] S' = .nx [some W, some K, some (.list ns), some V, some (.list ns), o5', none] S' := by
    intro W K V os ns q
    unfold tob
    generalize tib = bd at *
    simp [q, sz_small]
  exact ⟨_, o5', step _ _ _ _ _ q⟩
theorem law_times_ok {n : Nat} {ts as : List Tie} {k : Nat} (m : MixOk n ts as) (hk : k ≤ 4) (S : Store) : d__law_times [mixD n ts as, natD k] S = .ok (.list ((timesN ts as k n).map rowD)) S := by
  have hn := m.five
  obtain ⟨ρ', S', q, rfl, o3, o4, o5, rfl⟩ := for_n (t := .nm 3) (body := tob) (I := fun j ρ S' => S' = S ∧ ∃ o3 o4 o5, ρ = [some (mixD n ts as), some (natD k), some (.list ((timesN ts as k j).map rowD)), o3, o4, o5, none]) (ds := rngD 0 (n : Int).toNat) (k := 0)
    (ρ := [some (mixD n ts as), some (natD k), some (.list [.tuple []]), none, none, none, none]) (S := S) ⟨rfl, none, none, none, rfl⟩ (by
    rintro j d hd ρ S' ⟨rfl, o3, o4, o5, rfl⟩
    obtain ⟨rfl, hj⟩ := rngD_get hd
    rw [Int.toNat_natCast] at hj
    rw [Nat.zero_add] at *
    rw [show (0 : Int) + (j : Int) = (j : Int) by omega]
    obtain ⟨p4, p5, h⟩ := tob_turn (o4 := o4) (o5 := o5) (S := S') (v := j) m hk hj
    exact ⟨_, rfl, _, S', h, rfl, some (natD j), p4, p5, rfl⟩)
  rw [rngD_len, Nat.zero_add, Int.toNat_natCast] at q
  have step : ∀ (W K : PyData) (nn : Int) (rs : List PyData), fIx W (.int 0) = some (.int nn) → cR nn = true → sz nn.toNat = true →
      forL (.nm 3) tob (rngD 0 nn.toNat) [some W, some K, some (.list [.tuple []]), none, none, none, none] S' = .nx [some W, some K, some (.list rs), o3, o4, o5, none] S' → d__law_times [W, K] S' = .ok (.list rs) S' := by
    intro W K nn rs i0 c1 c2 q
    unfold d__law_times dFn b__law_times env0
    change PD.RS.fin _ (dSeq (dSet 2 (dLst (dCons (dTup (dNil)) (dNil)))) (dSeq (dFor (dRng1 (d2 fIx (dVar 0) (dC (.int 0)))) (.nm 3) tob) (dRet (dVar 2))) _ _) = _
    generalize tob = bd at *
    simp [i0, c1, c2, sz_small, q, RS.fin]
  exact step _ _ (n : Int) _ ixT_0 (cR_small (by omega) (by omega)) (sz_small (by omega)) (by rw [Int.toNat_natCast]; exact q)
end K92
namespace K92
open PySem PySem.Spec PyProof.Rows L2 PD
/-! ### the program's next times -/
theorem for_fold {α β : Type} {t : Tg} {body : DS} {I : Nat → β → PD.Env → Prop} {e : α → PyData} {st : β → α → β} {S : Store} : ∀ {xs : List α} {j : Nat} {b : β} {ρ : PD.Env}, I j b ρ → (∀ a ∈ xs, ∀ j' b ρ, j' < j + xs.length → I j' b ρ → ∃ ρ1, t.bind (e a) ρ = some ρ1 ∧ ∃ ρ2, body ρ1 S = .nx ρ2 S ∧ I (j' + 1) (st b a) ρ2) →
    ∃ ρ', forL t body (xs.map e) ρ S = .nx ρ' S ∧ I (j + xs.length) (xs.foldl st b) ρ'
  | [], j, b, ρ, hi, _ => ⟨ρ, forL_nil .., hi⟩
  | x :: xs, j, b, ρ, hi, h => by
    obtain ⟨ρ1, e1, ρ2, e2, i2⟩ := h x List.mem_cons_self j b ρ (by simp) hi
    rw [List.map_cons, forL_cons, e1]
    simp only [e2]
    obtain ⟨ρ', q1, q2⟩ := for_fold (j := j + 1) i2 fun a ha j' b ρ hj hi => h a (List.mem_cons_of_mem _ ha) j' b ρ (by rw [List.length_cons]; omega) hi
    exact ⟨ρ', q1, by rw [List.length_cons, show j + (xs.length + 1) = j + 1 + xs.length by omega]; exact q2⟩
theorem sorted_eq {α : Type} {R : α → α → Prop} (as : ∀ a b, R a b → R b a → False) : ∀ {l m : List α}, l.Pairwise R → m.Pairwise R → (∀ x, x ∈ l ↔ x ∈ m) → l = m
  | [], [], _, _, _ => rfl
  | [], b :: m, _, _, h => absurd ((h b).mpr List.mem_cons_self) (by simp)
  | a :: l, [], _, _, h => absurd ((h a).mp List.mem_cons_self) (by simp)
  | a :: l, b :: m, h1, h2, h => by
    obtain ⟨h1a, g1⟩ := List.pairwise_cons.mp h1
    obtain ⟨h2a, g2⟩ := List.pairwise_cons.mp h2
    have e : a = b := by
      rcases List.mem_cons.mp ((h a).mp List.mem_cons_self) with e | q1
      · exact e
      · rcases List.mem_cons.mp ((h b).mpr List.mem_cons_self) with e | q2
        · exact e.symm
        · exact (as _ _ (h1a b q2) (h2a a q1)).elim
    subst e
    refine congrArg (a :: ·) (sorted_eq as g1 g2 fun x => ?_)
    have irr : ¬ R a a := fun q => as _ _ q q
    constructor
    · intro hx
      rcases List.mem_cons.mp ((h x).mp (List.mem_cons_of_mem _ hx)) with e | q
      · exact absurd (e ▸ h1a x hx) irr
      · exact q
    · intro hx
      rcases List.mem_cons.mp ((h x).mpr (List.mem_cons_of_mem _ hx)) with e | q
      · exact absurd (e ▸ h2a x hx) irr
      · exact q
theorem range_up (n : Nat) : (List.range n).Pairwise (· < ·) := List.pairwise_lt_range
def nextL (ts as : List Tie) (k : Nat) (r : List Nat) : List Nat := (List.range k).filter fun c => fitsB ts as (r ++ [c])
def lowF (r : List Nat) (lo : Nat) (a : Tie) : Nat := if a.2 = r.length ∧ a.1 < r.length then max lo (r.getD a.1 0 + 1) else lo
def highF (r : List Nat) (hi : Int) (a : Tie) : Int := if a.1 = r.length ∧ a.2 < r.length then min hi ((r.getD a.2 0 : Int) - 1) else hi
theorem low_fold (r : List Nat) : ∀ (as : List Tie) (lo c : Nat), as.foldl (lowF r) lo ≤ c ↔ lo ≤ c ∧ ∀ a ∈ as, a.2 = r.length → a.1 < r.length → r.getD a.1 0 < c
  | [], lo, c => by simp
  | a :: as, lo, c => by
    rw [List.foldl_cons, low_fold r as (lowF r lo a) c]
    unfold lowF
    constructor
    · rintro ⟨h1, h2⟩
      split at h1
      · refine ⟨by omega, fun b hb e l => ?_⟩
        rcases List.mem_cons.mp hb with rfl | hb
        · omega
        · exact h2 b hb e l
      · rename_i hn
        refine ⟨h1, fun b hb e l => ?_⟩
        rcases List.mem_cons.mp hb with rfl | hb
        · exact absurd ⟨e, l⟩ hn
        · exact h2 b hb e l
    · rintro ⟨h1, h2⟩
      refine ⟨?_, fun b hb => h2 b (List.mem_cons_of_mem _ hb)⟩
      split
      · rename_i hc
        have := h2 a List.mem_cons_self hc.1 hc.2
        omega
      · exact h1
theorem high_fold (r : List Nat) : ∀ (as : List Tie) (hi c : Int), c ≤ as.foldl (highF r) hi ↔ c ≤ hi ∧ ∀ a ∈ as, a.1 = r.length → a.2 < r.length → c < (r.getD a.2 0 : Int)
  | [], hi, c => by simp
  | a :: as, hi, c => by
    rw [List.foldl_cons, high_fold r as (highF r hi a) c]
    unfold highF
    constructor
    · rintro ⟨h1, h2⟩
      split at h1
      · refine ⟨by omega, fun b hb e l => ?_⟩
        rcases List.mem_cons.mp hb with rfl | hb
        · omega
        · exact h2 b hb e l
      · rename_i hn
        refine ⟨h1, fun b hb e l => ?_⟩
        rcases List.mem_cons.mp hb with rfl | hb
        · exact absurd ⟨e, l⟩ hn
        · exact h2 b hb e l
    · rintro ⟨h1, h2⟩
      refine ⟨?_, fun b hb => h2 b (List.mem_cons_of_mem _ hb)⟩
      split
      · rename_i hc
        have := h2 a List.mem_cons_self hc.1 hc.2
        omega
      · exact h1
theorem getD_snoc {r : List Nat} {c o : Nat} : (r ++ [c]).getD o 0 = if o < r.length then r.getD o 0 else if o = r.length then c else 0 := by
  rw [List.getD_eq_getElem?_getD, List.getD_eq_getElem?_getD]
  by_cases h : o < r.length
  · rw [if_pos h, List.getElem?_append_left h]
  · rw [if_neg h, List.getElem?_append_right (by omega)]
    by_cases h2 : o = r.length
    · rw [if_pos h2, h2]; simp
    · rw [if_neg h2, List.getElem?_eq_none (by simp; omega)]; rfl
theorem fits_iff {ts as : List Tie} {x : List Nat} : fitsB ts as x = true ↔ (∀ t ∈ ts, t.2 < x.length → x.getD t.1 0 ≠ x.getD t.2 0) ∧ ∀ a ∈ as, max a.1 a.2 < x.length → x.getD a.1 0 < x.getD a.2 0 := by
  unfold fitsB
  rw [Bool.and_eq_true, Bool.not_eq_true', List.any_eq_false, List.all_eq_true]
  constructor
  · rintro ⟨h1, h2⟩
    refine ⟨fun t ht hl he => ?_, fun a ha hl => ?_⟩
    · exact h1 t ht (by rw [decide_eq_true hl, decide_eq_true he]; rfl)
    · have := h2 a ha
      rcases Bool.or_eq_true_iff.mp this with h | h
      · have := of_decide_eq_true h; omega
      · exact of_decide_eq_true h
  · rintro ⟨h1, h2⟩
    refine ⟨fun t ht hc => ?_, fun a ha => ?_⟩
    · obtain ⟨q1, q2⟩ := Bool.and_eq_true_iff.mp hc
      exact h1 t ht (of_decide_eq_true q1) (of_decide_eq_true q2)
    · by_cases hl : max a.1 a.2 < x.length
      · rw [decide_eq_true (h2 a ha hl), Bool.or_true]
      · rw [decide_eq_true (show x.length ≤ max a.1 a.2 by omega), Bool.true_or]
theorem fits_snoc {ts as : List Tie} (ht : ∀ t ∈ ts, t.1 < t.2) (ha : ∀ a ∈ as, a.1 ≠ a.2) {r : List Nat} (hf : fitsB ts as r = true) (c : Nat) : fitsB ts as (r ++ [c]) = true ↔ (∀ t ∈ ts, t.2 = r.length → r.getD t.1 0 ≠ c) ∧ (∀ a ∈ as, a.2 = r.length → a.1 < r.length → r.getD a.1 0 < c) ∧ ∀ a ∈ as, a.1 = r.length → a.2 < r.length → c < r.getD a.2 0 := by
  obtain ⟨f1, f2⟩ := fits_iff.mp hf
  rw [fits_iff, List.length_append, List.length_singleton]
  constructor
  · rintro ⟨h1, h2⟩
    refine ⟨fun t hm e => ?_, fun a hm e l => ?_, fun a hm e l => ?_⟩
    · have := h1 t hm (by omega)
      have hl := ht t hm
      rw [getD_snoc, getD_snoc, if_pos (by omega), if_neg (by omega), if_pos e] at this
      exact this
    · have := h2 a hm (by omega)
      rw [getD_snoc, getD_snoc, if_pos l, if_neg (by omega), if_pos e] at this
      exact this
    · have := h2 a hm (by omega)
      rw [getD_snoc, getD_snoc, if_neg (by omega), if_pos e, if_pos l] at this
      exact this
  · rintro ⟨h1, h2, h3⟩
    refine ⟨fun t hm l => ?_, fun a hm l => ?_⟩
    · have hl := ht t hm
      by_cases e : t.2 = r.length
      · rw [getD_snoc, getD_snoc, if_pos (by omega), if_neg (by omega), if_pos e]
        exact h1 t hm e
      · rw [getD_snoc, getD_snoc, if_pos (by omega), if_pos (by omega)]
        exact f1 t hm (by omega)
    · have hne := ha a hm
      by_cases e2 : a.2 = r.length
      · have l1 : a.1 < r.length := by omega
        rw [getD_snoc, getD_snoc, if_pos l1, if_neg (by omega), if_pos e2]
        exact h2 a hm e2 l1
      · by_cases e1 : a.1 = r.length
        · have l2 : a.2 < r.length := by omega
          rw [getD_snoc, getD_snoc, if_neg (by omega), if_pos e1, if_pos l2]
          exact h3 a hm e1 l2
        · rw [getD_snoc, getD_snoc, if_pos (by omega), if_pos (by omega)]
          exact f2 a hm (by omega)
/-- the numbers that the program goes through are those that fit -/
theorem next_list {ts as : List Tie} (ht : ∀ t ∈ ts, t.1 < t.2) (ha : ∀ a ∈ as, a.1 ≠ a.2) {r : List Nat} (hf : fitsB ts as r = true) {k : Nat} (hk : 1 ≤ k) {lo : Nat} {hi : Int} (hlo : lo = as.foldl (lowF r) 0) (hhi : hi = as.foldl (highF r) ((k : Int) - 1)) :
    (((List.range (hi + 1 - lo).toNat).map fun i => lo + i).filter fun c => !decide (c ∈ (ts.filter fun t => decide (t.2 = r.length)).map fun t => r.getD t.1 0)) = nextL ts as k r := by
  have hL : ∀ c, lo ≤ c ↔ ∀ a ∈ as, a.2 = r.length → a.1 < r.length → r.getD a.1 0 < c := fun c => by rw [hlo, low_fold]; simp
  have hH : ∀ c : Nat, (c : Int) ≤ hi ↔ c < k ∧ ∀ a ∈ as, a.1 = r.length → a.2 < r.length → c < r.getD a.2 0 := fun c => by
    rw [hhi, high_fold]
    constructor
    · rintro ⟨h1, h2⟩
      exact ⟨by omega, fun a m e l => by have := h2 a m e l; omega⟩
    · rintro ⟨h1, h2⟩
      exact ⟨by omega, fun a m e l => by have := h2 a m e l; omega⟩
  refine sorted_eq (R := fun a b => a < b) (fun a b h1 h2 => by omega) ?_ ((range_up _).filter _) fun c => ?_
  · refine List.Pairwise.filter _ ?_
    rw [List.pairwise_map]
    exact (range_up _).imp fun h => by omega
  · unfold nextL
    rw [List.mem_filter, List.mem_filter, List.mem_map, List.mem_range, fits_snoc ht ha hf]
    have ht' : ((!decide (c ∈ (ts.filter fun t => decide (t.2 = r.length)).map fun t => r.getD t.1 0)) = true) ↔ ∀ t ∈ ts, t.2 = r.length → r.getD t.1 0 ≠ c := by
      rw [Bool.not_eq_true', decide_eq_false_iff_not, List.mem_map]
      constructor
      · intro h t hm e he
        exact h ⟨t, List.mem_filter.mpr ⟨hm, decide_eq_true e⟩, he⟩
      · rintro h ⟨t, hm, he⟩
        obtain ⟨hm, e⟩ := List.mem_filter.mp hm
        exact h t hm (of_decide_eq_true e) he
    rw [ht', ← hL c]
    constructor
    · rintro ⟨⟨i, hi', rfl⟩, h2⟩
      have hi' := List.mem_range.mp hi'
      have h3 := (hH (lo + i)).mp (by omega)
      exact ⟨h3.1, h2, by omega, h3.2⟩
    · rintro ⟨h1, h2, h3, h4⟩
      have h5 := (hH c).mpr ⟨h1, h4⟩
      exact ⟨⟨c - lo, List.mem_range.mpr (by omega), by omega⟩, h2⟩
end K92
namespace K92
open PySem PySem.Spec PyProof.Rows L2 PD
/-! ### next_times by the program -/
def ntb : DS := (dSeq (dIfS (dAnd (dTest (d2 fEq (dVar 10) (dVar 6))) (dTest (d2 fLt (dVar 9) (dVar 6)))) (dSet 7 (d2 fMax2 (dVar 7) (d2 fAdd (d2 fIx (dVar 2) (dVar 9)) (dC (.int 1))))) (dNx)) (dIfS (dAnd (dTest (d2 fEq (dVar 9) (dVar 6))) (dTest (d2 fLt (dVar 10) (dVar 6)))) (dSet 8 (d2 fMin2 (dVar 8) (d2 (fI (fun _ _ => true) fun i j => i - j) (d2 fIx (dVar 2) (dVar 10)) (dC (.int 1))))) (dNx)))
theorem ntb_step {M K R N TS AS PL LO HI A B LO' HI' : PyData} {e1 l1 e2 l2 : Bool} {o11 o12 : Option PyData} {S : Store} (h1 : fEq B PL = some (.bool e1)) (h2 : fLt A PL = some (.bool l1)) (h3 : fEq A PL = some (.bool e2)) (h4 : fLt B PL = some (.bool l2))
    (q1 : if e1 = true ∧ l1 = true then ∃ x y, fIx R A = some x ∧ fAdd x (.int 1) = some y ∧ fMax2 LO y = some LO' else LO' = LO) (q2 : if e2 = true ∧ l2 = true then ∃ x y, fIx R B = some x ∧ (fI (fun _ _ => true) (fun i j => i - j)) x (.int 1) = some y ∧ fMin2 HI y = some HI' else HI' = HI) :
    ntb [some M, some K, some R, some N, some TS, some AS, some PL, some LO, some HI, some A, some B, o11, o12] S = .nx [some M, some K, some R, some N, some TS, some AS, some PL, some LO', some HI', some A, some B, o11, o12] S := by
  unfold ntb
  cases e1 <;> cases l1 <;> cases e2 <;> cases l2 <;> simp only [Bool.false_eq_true, false_and, and_false, if_false, if_true, and_self] at q1 q2 <;> first
    | (subst q1; subst q2; simp [h1, h2, h3, h4])
    | (obtain ⟨x, y, a1, a2, a3⟩ := q1; obtain ⟨x', y', b1, b2, b3⟩ := q2; simp [h1, h2, h3, h4, a1, a2, a3, b1, b2, b3, -f_I])
    | (obtain ⟨x, y, a1, a2, a3⟩ := q1; subst q2; simp [h1, h2, h3, h4, a1, a2, a3])
    | (subst q1; obtain ⟨x', y', b1, b2, b3⟩ := q2; simp [h1, h2, h3, h4, b1, b2, b3, -f_I])
theorem add_one (a : Nat) : fAdd (natD a) (.int 1) = some (natD (a + 1)) := by
  show some (PyData.int ((a : Int) + 1)) = some (PyData.int ((a + 1 : Nat) : Int))
  rw [show ((a : Int) + 1) = ((a + 1 : Nat) : Int) by omega]
theorem ntb_turn {n : Nat} {ts as : List Tie} {k : Nat} {r : List Nat} {lo : Nat} {hi : Int} {a : Tie} {o11 o12 : Option PyData} {S : Store} :
    ntb [some (mixD n ts as), some (natD k), some (rowD r), some (natD n), some (.tuple (ts.map tieD)), some (.tuple (as.map tieD)), some (natD r.length), some (natD lo), some (.int hi), some (natD a.1), some (natD a.2), o11, o12] S =
      .nx [some (mixD n ts as), some (natD k), some (rowD r), some (natD n), some (.tuple (ts.map tieD)), some (.tuple (as.map tieD)), some (natD r.length), some (natD (lowF r lo a)), some (.int (highF r hi a)), some (natD a.1), some (natD a.2), o11, o12] S := by
  refine ntb_step (eq_nats a.2 r.length) (lt_nats a.1 r.length) (eq_nats a.1 r.length) (lt_nats a.2 r.length) ?_ ?_
  · unfold lowF
    by_cases h : a.2 = r.length ∧ a.1 < r.length
    · rw [if_pos ⟨decide_eq_true h.1, decide_eq_true h.2⟩, if_pos h]
      exact ⟨_, _, fIx_row h.2, add_one _, max_nats _ _⟩
    · rw [if_neg (fun h' => h ⟨of_decide_eq_true h'.1, of_decide_eq_true h'.2⟩), if_neg h]
  · unfold highF
    by_cases h : a.1 = r.length ∧ a.2 < r.length
    · rw [if_pos ⟨decide_eq_true h.1, decide_eq_true h.2⟩, if_pos h]
      refine ⟨_, .int ((r.getD a.2 0 : Int) - 1), fIx_row h.2, by simp, ?_⟩
      show some (PyData.int (if ((r.getD a.2 0 : Int) - 1) < hi then ((r.getD a.2 0 : Int) - 1) else hi)) = some (PyData.int (min hi ((r.getD a.2 0 : Int) - 1)))
      congr 2
      split <;> omega
    · rw [if_neg (fun h' => h ⟨of_decide_eq_true h'.1, of_decide_eq_true h'.2⟩), if_neg h]
theorem next_fin {M R N TS AS PL : PyData} {kk hi : Int} {ts as us rs : List PyData} {lo : Int} {o9 o10 : Option PyData} {S : Store} (hb : (Tg.tup [3, 4, 5]).bind M [some M, some (.int kk), some R, none, none, none, none, none, none, none, none, none, none] = some [some M, some (.int kk), some R, some N, some TS, some AS, none, none, none, none, none, none, none]) (hl : fLen R = some PL) (h1 : seqD AS = some as) (h2 : seqD TS = some ts)
    (q : forL (.tup [9, 10]) ntb as [some M, some (.int kk), some R, some N, some TS, some AS, some PL, some (.int 0), some (.int (kk - 1)), none, none, none, none] S = .nx [some M, some (.int kk), some R, some N, some TS, some AS, some PL, some (.int lo), some (.int hi), o9, o10, none, none] S)
    (c1 : compL (.tup [9, 10]) (dTest (d2 fEq (dVar 10) (dVar 6))) (d2 fIx (dVar 2) (dVar 9)) [some M, some (.int kk), some R, some N, some TS, some AS, some PL, some (.int lo), some (.int hi), o9, o10, none, none] [] ts S = .ok (.list us) S)
    (b1 : cR lo = true) (b2 : cR (hi + 1) = true) (b3 : sz (hi + 1 - lo).toNat = true)
    (c2 : compL (.nm 12) (dTest (d2 (fIn true) (dVar 12) (dVar 11))) (dVar 12) [some M, some (.int kk), some R, some N, some TS, some AS, some PL, some (.int lo), some (.int hi), o9, o10, some (.list us), none] [] (rngD lo (hi + 1 - lo).toNat) S = .ok (.list rs) S) :
    d_next_times [M, .int kk, R] S = .ok (.list rs) S := by
  unfold d_next_times dFn b_next_times env0
  change PD.RS.fin _ (dSeq (dTupSet [3, 4, 5] (dVar 0)) (dSeq (dPar [6, 7, 8] (dCons (d1 fLen (dVar 2)) (dCons (dC (.int 0)) (dCons (d2 (fI (fun _ _ => true) fun i j => i - j) (dVar 1) (dC (.int 1))) (dNil))))) (dSeq (dFor (dIt seqD (dVar 5)) (.tup [9, 10]) ntb) (dSeq (dSet 11 (dComp (dIt seqD (dVar 4)) (.tup [9, 10]) (dTest (d2 fEq (dVar 10) (dVar 6))) (d2 fIx (dVar 2) (dVar 9)))) (dRet (dComp (dRng2 (dVar 7) (d2 fAdd (dVar 8) (dC (.int 1)))) (.nm 12) (dTest (d2 (fIn true) (dVar 12) (dVar 11))) (dVar 12)))))) _ _) = _
  generalize ntb = bd at *
  simp [hb, hl, h1, h2, q, c1, b1, b2, b3, c2, setAll, RS.fin]
theorem rng_nat (lo m : Nat) : rngD (lo : Int) m = ((List.range m).map fun i => lo + i).map natD := by
  unfold rngD
  rw [List.map_map]
  apply List.map_congr_left
  intro i _
  show PyData.int ((lo : Int) + (i : Int)) = PyData.int ((lo + i : Nat) : Int)
  rw [show ((lo : Int) + (i : Int)) = ((lo + i : Nat) : Int) by omega]
theorem low_le (r : List Nat) (hb : ∀ v, r.getD v 0 ≤ 100) : ∀ (as : List Tie) (lo : Nat), lo ≤ 200 → as.foldl (lowF r) lo ≤ 200
  | [], _, h => h
  | a :: as, lo, h => low_le r hb as _ (by
    unfold lowF
    have := hb a.1
    split <;> omega)
theorem high_le (r : List Nat) (hb : ∀ v, r.getD v 0 ≤ 100) : ∀ (as : List Tie) (hi : Int), -10 ≤ hi ∧ hi ≤ 200 → -10 ≤ as.foldl (highF r) hi ∧ as.foldl (highF r) hi ≤ 200
  | [], _, h => h
  | a :: as, hi, h => high_le r hb as _ (by
    unfold highF
    have := hb a.2
    split <;> omega)
theorem pair_fold (r : List Nat) : ∀ (as : List Tie) (lo : Nat) (hi : Int), as.foldl (fun b a => (lowF r b.1 a, highF r b.2 a)) (lo, hi) = (as.foldl (lowF r) lo, as.foldl (highF r) hi)
  | [], _, _ => rfl
  | a :: as, lo, hi => by
    rw [List.foldl_cons, List.foldl_cons, List.foldl_cons]
    exact pair_fold r as _ _
theorem next_ok {n : Nat} {ts as : List Tie} {k : Nat} {r : List Nat} (m : MixOk n ts as) (hk : 1 ≤ k) (hk8 : k ≤ 8) (hf : fitsB ts as r = true) (hb : ∀ v, r.getD v 0 ≤ 100) (S : Store) : d_next_times [mixD n ts as, natD k, rowD r] S = .ok (.list ((nextL ts as k r).map natD)) S := by
  obtain ⟨ρ', q, o9, o10, rfl⟩ := for_fold (t := .tup [9, 10]) (body := ntb) (I := fun _ (b : Nat × Int) ρ => ∃ o9 o10 : Option PyData, ρ = [some (mixD n ts as), some (natD k), some (rowD r), some (natD n), some (.tuple (ts.map tieD)), some (.tuple (as.map tieD)), some (natD r.length), some (natD b.1), some (.int b.2), o9, o10, none, none]) (e := tieD) (st := fun b a => (lowF r b.1 a, highF r b.2 a)) (S := S) (xs := as) (j := 0) (b := (0, (k : Int) - 1))
    (ρ := [some (mixD n ts as), some (natD k), some (rowD r), some (natD n), some (.tuple (ts.map tieD)), some (.tuple (as.map tieD)), some (natD r.length), some (.int 0), some (.int ((k : Int) - 1)), none, none, none, none]) ⟨none, none, rfl⟩ (fun a ha j b ρ _ hi => by
    obtain ⟨o9, o10, rfl⟩ := hi
    exact ⟨_, rfl, _, ntb_turn, _, _, rfl⟩)
  rw [pair_fold] at q
  have hlo := low_le r hb as 0 (by omega)
  have hhi := high_le r hb as ((k : Int) - 1) (by omega)
  have hl := next_list (fun t ht => (m.w.lt t ht).1) (fun a ha => (m.lt a ha).1) hf hk (lo := as.foldl (lowF r) 0) (hi := as.foldl (highF r) ((k : Int) - 1)) rfl rfl
  generalize as.foldl (lowF r) 0 = lo at *
  generalize as.foldl (highF r) ((k : Int) - 1) = hi at *
  have c1 := comp_t (t := .tup [9, 10]) (tt := (dTest (d2 fEq (dVar 10) (dVar 6)))) (de := (d2 fIx (dVar 2) (dVar 9))) (ρ := [some (mixD n ts as), some (natD k), some (rowD r), some (natD n), some (.tuple (ts.map tieD)), some (.tuple (as.map tieD)), some (natD r.length), some (natD lo), some (.int hi), o9, o10, none, none]) (S := S) (e := tieD) (g := natD) (p := fun t => decide (t.2 = r.length)) (f := fun t => r.getD t.1 0) (xs := ts) (acc := []) fun t ht => ⟨[some (mixD n ts as), some (natD k), some (rowD r), some (natD n), some (.tuple (ts.map tieD)), some (.tuple (as.map tieD)), some (natD r.length), some (natD lo), some (.int hi), some (natD t.1), some (natD t.2), none, none], rfl, tst2 rfl rfl (eq_nats t.2 r.length), fun hc => by
    have hlt := (m.w.lt t ht).1
    have e := of_decide_eq_true hc
    have := fIx_row (x := r) (v := t.1) (by omega)
    generalize natD (r.getD t.1 0) = X at *
    generalize rowD r = R at *
    generalize natD t.1 = A at *
    simp [this]⟩
  rw [List.nil_append] at c1
  have c2 := comp_t (t := .nm 12) (tt := (dTest (d2 (fIn true) (dVar 12) (dVar 11)))) (de := (dVar 12)) (ρ := [some (mixD n ts as), some (natD k), some (rowD r), some (natD n), some (.tuple (ts.map tieD)), some (.tuple (as.map tieD)), some (natD r.length), some (natD lo), some (.int hi), o9, o10, some (.list (((ts.filter fun t => decide (t.2 = r.length)).map fun t => r.getD t.1 0).map natD)), none]) (S := S) (e := natD) (g := natD) (p := fun c => !decide (c ∈ (ts.filter fun t => decide (t.2 = r.length)).map fun t => r.getD t.1 0)) (f := fun c => c) (xs := (List.range (hi + 1 - lo).toNat).map fun i => lo + i) (acc := []) fun c _ => ⟨_, rfl, tst2 rfl rfl (in_nats c _), fun _ => by simp⟩
  rw [List.nil_append, List.map_id', hl, ← rng_nat] at c2
  have hln : fLen (rowD r) = some (natD r.length) := by show some (PyData.int ((r.map natD).length : Nat)) = _; rw [List.length_map]
  exact next_fin (N := natD n) rfl hln rfl rfl q c1 (cR_small (by omega) (by omega)) (cR_small (by omega) (by omega)) (sz_small (by omega)) c2
end K92
namespace K92
open PySem PySem.Spec PyProof.Rows L2 PD
/-! ### all times: the program's search -/
theorem fExt_big {xs ys : List PyData} (h : xs.length + ys.length ≤ 1000000) : fExt xs (.list ys) = some (.list (xs ++ ys)) := by
  unfold fExt
  have : sz (xs.length + ys.length) = true := by unfold sz; rw [decide_eq_true_iff, sizeLine_eq]; omega
  simp only [this, if_true]
theorem fApp_big {xs : List PyData} {d : PyData} (h : xs.length < 1000000) : fApp xs d = some (.list (xs ++ [d])) := by
  unfold fApp
  rw [if_pos (decide_eq_true (by rw [sizeLine_eq]; omega))]
def allT (ts as : List Tie) (k : Nat) : Nat → List Nat → List (List Nat)
  | 0, r => [r]
  | m + 1, r => (extT ts as k r).flatMap (allT ts as k m)
theorem times_all {ts as : List Tie} {k : Nat} : ∀ (m v : Nat), (timesN ts as k v).flatMap (allT ts as k m) = timesN ts as k (v + m)
  | 0, v => by
    show (timesN ts as k v).flatMap (fun r => [r]) = timesN ts as k v
    simp
  | m + 1, v => by
    have := times_all (ts := ts) (as := as) (k := k) m (v + 1)
    rw [show v + (m + 1) = v + 1 + m by omega, ← this]
    show (timesN ts as k v).flatMap (fun r => (extT ts as k r).flatMap (allT ts as k m)) = ((timesN ts as k v).flatMap (extT ts as k)).flatMap (allT ts as k m)
    rw [List.flatMap_assoc]
theorem all_times_eq {ts as : List Tie} {k n : Nat} : allT ts as k n [] = timesN ts as k n := by
  have := times_all (ts := ts) (as := as) (k := k) n 0
  rw [Nat.zero_add] at this
  rw [← this]
  simp [timesN]
theorem ext_next (ts as : List Tie) (k : Nat) (r : List Nat) : extT ts as k r = (nextL ts as k r).map fun c => r ++ [c] := rfl
def wT : Nat → Nat
  | 0 => 1
  | m + 1 => 8 * wT m + 1
theorem wT_pos (m : Nat) : 1 ≤ wT m := by cases m <;> simp [wT]
theorem wT_mono : ∀ {a b : Nat}, a ≤ b → wT a ≤ wT b
  | a, 0, h => by rw [show a = 0 by omega]; exact Nat.le_refl _
  | a, b + 1, h => by
    by_cases e : a = b + 1
    · rw [e]; exact Nat.le_refl _
    · have := wT_mono (a := a) (b := b) (by omega)
      show wT a ≤ 8 * wT b + 1
      omega
def wW (n : Nat) (W : List (List Nat)) : Nat := (W.map fun r => wT (n - r.length)).sum
theorem wW_app (n : Nat) (W V : List (List Nat)) : wW n (W ++ V) = wW n W + wW n V := by unfold wW; rw [List.map_append, List.sum_append]
theorem wW_one (n : Nat) (r : List Nat) : wW n [r] = wT (n - r.length) := by unfold wW; simp
theorem wW_len (n : Nat) : ∀ W : List (List Nat), W.length ≤ wW n W
  | [] => Nat.zero_le _
  | r :: W => by
    have := wW_len n W
    have h := wT_pos (n - r.length)
    show W.length + 1 ≤ wW n (r :: W)
    rw [show r :: W = [r] ++ W from rfl, wW_app, wW_one]
    omega
theorem wW_ext {n : Nat} {ts as : List Tie} {k : Nat} {r : List Nat} (hk : k ≤ 8) (h : r.length < n) : wW n ((extT ts as k r).reverse) + 1 ≤ wT (n - r.length) := by
  have hl := extT_len ts as k r
  have hall : ∀ x ∈ (extT ts as k r).reverse, x.length = r.length + 1 := fun x hx => by
    unfold extT at hx
    obtain ⟨c, _, rfl⟩ := List.mem_map.mp (List.mem_reverse.mp hx)
    rw [List.length_append, List.length_singleton]
  have hsum : ∀ W : List (List Nat), (∀ x ∈ W, x.length = r.length + 1) → wW n W = W.length * wT (n - (r.length + 1)) := fun W => by
    induction W with
    | nil => intro _; simp [wW]
    | cons x W ih =>
      intro h
      rw [show x :: W = [x] ++ W from rfl, wW_app, wW_one, ih fun y hy => h y (List.mem_cons_of_mem _ hy), h x List.mem_cons_self, List.length_append, List.length_singleton, Nat.add_mul, Nat.one_mul]
  rw [hsum _ hall, List.length_reverse]
  obtain ⟨j, hj⟩ : ∃ j, n - r.length = j + 1 := ⟨n - r.length - 1, by omega⟩
  rw [hj, show n - (r.length + 1) = j by omega]
  show _ ≤ 8 * wT j + 1
  have := Nat.mul_le_mul_right (wT j) (Nat.le_trans hl hk)
  omega
def atb : DS := (dSeq (dPop (.nm 5) 4) (dIfS (dTest (d2 fEq (d1 fLen (dVar 5)) (d2 fIx (dVar 0) (dC (.int 0))))) (dApp 3 (dVar 5)) (dExt 4 (dComp (dIt seqD (d1 fRevA (dCall d_next_times (dCons (dVar 0) (dCons (dVar 1) (dCons (dVar 5) (dNil))))))) (.nm 6) (dYes) (d2 fAdd (dVar 5) (dTup (dCons (dVar 6) (dNil))))))))
theorem pop4 {ρ : PD.Env} {S : Store} {xs : List PyData} {d : PyData} (h : ρ.getD 4 none = some (.list (xs ++ [d]))) : dPop (.nm 5) 4 ρ S = .nx ((ρ.set 4 (some (.list xs))).set 5 (some d)) S := by
  unfold dPop onLst
  rw [h]
  simp only [List.getLast?_append, List.getLast?_singleton, Option.some_or, List.dropLast_concat]
  rfl
theorem at_leaf {M K MO R LN N F' : PyData} {fs ws : List PyData} {o5 : Option PyData} {S : Store} (hl : fLen R = some LN) (hn : fIx M (.int 0) = some N) (he : fEq LN N = some (.bool true)) (ha : fApp fs R = some F') :
    atb [some M, some K, some MO, some (.list fs), some (.list (ws ++ [R])), o5, none] S = .nx [some M, some K, some MO, some F', some (.list ws), some R, none] S := by
  have hp := pop4 (ρ := [some M, some K, some MO, some (.list fs), some (.list (ws ++ [R])), o5, none]) (S := S) (xs := ws) (d := R) rfl
  unfold atb
  rw [ap_seq, hp]
  simp [hl, hn, he, onLst, putO, ha]
theorem at_node {M K MO R LN N W' : PyData} {fs ws ns es : List PyData} {o5 : Option PyData} {S : Store} (hl : fLen R = some LN) (hn : fIx M (.int 0) = some N) (he : fEq LN N = some (.bool false)) (hx : d_next_times [M, K, R] S = .ok (.list ns) S)
    (hc : compL (.nm 6) dYes (d2 fAdd (dVar 5) (dTup (dCons (dVar 6) (dNil)))) [some M, some K, some MO, some (.list fs), some (.list ws), some R, none] [] ns.reverse S = .ok (.list es) S) (ha : fExt ws (.list es) = some W') :
    atb [some M, some K, some MO, some (.list fs), some (.list (ws ++ [R])), o5, none] S = .nx [some M, some K, some MO, some (.list fs), some W', some R, none] S := by
  have hp := pop4 (ρ := [some M, some K, some MO, some (.list fs), some (.list (ws ++ [R])), o5, none]) (S := S) (xs := ws) (d := R) rfl
  have hr : fRevA (.list ns) = some (.list ns.reverse) := rfl
  have hs : seqD (.list ns.reverse) = some ns.reverse := rfl
  unfold atb
  rw [ap_seq, hp]
  simp only [RS.bind_nx, ap_ifs, ap_test, ap_d2, ap_d1, ap_var, ap_c, List.getD_cons_succ, List.getD_cons_zero, List.set_cons_succ, List.set_cons_zero, ofO_some, PD.R.bind_ok, PD.R.st_ok, hl, hn, he, Bool.false_eq_true, if_false, ap_ext, onLst, ap_comp, ap_it, ap_call, ap_cons, ap_nil, hx, hr, hs, hc, putO, ha]
def att : DT := (dAnd (dTest (d2 fGt (d1 fLen (dVar 4)) (dC (.int 0)))) (dTest (d2 fLt (d1 fLen (dVar 3)) (dVar 2))))
theorem att_e {M K MO : PyData} {gs : List PyData} {o5 : Option PyData} {S : Store} : att [some M, some K, some MO, some (.list gs), some (.list []), o5, none] S = .ok false S := by
  unfold att
  simp
theorem att_n {M K : PyData} {j : Int} {gs ws : List PyData} {o5 : Option PyData} {S : Store} (h : 0 < ws.length) (hj : (gs.length : Int) < j) : att [some M, some K, some (.int j), some (.list gs), some (.list ws), o5, none] S = .ok true S := by
  have h0 : (0 : Int) < (ws.length : Int) := by omega
  have h2 : ws ≠ [] := by rintro rfl; simp at h
  unfold att
  simp [h0, h2, hj]
structure RowFit (n : Nat) (ts as : List Tie) (r : List Nat) : Prop where
  fit : fitsB ts as r = true
  len : r.length ≤ n
  small : ∀ v, r.getD v 0 ≤ 100
theorem RowFit.ext {n : Nat} {ts as : List Tie} {k : Nat} {r x : List Nat} (h : RowFit n ts as r) (hk : k ≤ 8) (hl : r.length < n) (hx : x ∈ extT ts as k r) : RowFit n ts as x := by
  unfold extT at hx
  obtain ⟨c, hc, rfl⟩ := List.mem_map.mp hx
  obtain ⟨h1, h2⟩ := List.mem_filter.mp hc
  have h1 := List.mem_range.mp h1
  refine ⟨h2, by rw [List.length_append, List.length_singleton]; omega, fun v => ?_⟩
  rw [getD_snoc]
  have := h.small v
  split
  · exact this
  · split <;> omega
theorem all_fin {M K MO F : PyData} {ρ' : PD.Env} {S : Store} (e : whL att atb fuel [some M, some K, some MO, some (.list []), some (.list [.tuple []]), none, none] S = .nx ρ' S) (h3 : ρ'.getD 3 none = some F) (hF : ∃ xs, F = .list xs) : d_all_times [M, K, MO] S = .ok F S := by
  obtain ⟨xs, rfl⟩ := hF
  rw [List.getD_eq_getElem?_getD] at h3
  unfold d_all_times dFn b_all_times env0
  change PD.RS.fin _ (dSeq (dPar [3, 4] (dCons (dLst (dNil)) (dCons (dLst (dCons (dTup (dNil)) (dNil))) (dNil)))) (dSeq (dWhile fuel att atb) (dRet (dVar 3))) _ _) = _
  generalize atb = bd at *
  generalize att = tt at *
  simp [setAll, sz_small, e, h3, RS.fin]
theorem all_times_ok {n : Nat} {ts as : List Tie} {k : Nat} (m : MixOk n ts as) (hk : 1 ≤ k) (hk8 : k ≤ 8) (S : Store) : d_all_times [mixD n ts as, natD k, .int (10 ^ 9)] S = .ok (.list ((timesN ts as k n).map rowD)) S := by
  have hn := m.five
  have hw5 : wT n ≤ 37449 := by
    have := wT_mono hn
    have h5 : wT 5 = 37449 := rfl
    omega
  have hf0 : RowFit n ts as [] := ⟨by
    rw [fits_iff]
    exact ⟨fun t ht h => absurd h (Nat.not_lt_zero _), fun a ha h => absurd h (Nat.not_lt_zero _)⟩, Nat.zero_le _, fun v => by simp⟩
  have key := while_go (t := att) (body := atb)
    (I := fun ρ S' => S' = S ∧ ∃ (fs W : List (List Nat)) (o5 : Option PyData), ρ = [some (mixD n ts as), some (natD k), some (.int (10 ^ 9)), some (.list (fs.map rowD)), some (.list (W.map rowD)), o5, none] ∧ (∀ r ∈ W, RowFit n ts as r) ∧ fs ++ (W.reverse).flatMap (fun r => allT ts as k (n - r.length) r) = timesN ts as k n ∧ fs.length + wW n W ≤ 37449)
    (μ := fun ρ => match ρ.getD 4 none with | some (.list ds) => (ds.map fun d => match d with | .tuple xs => wT (n - xs.length) | _ => 0).sum | _ => 0)
    (G := fun rs => ∃ ρ', rs = .nx ρ' S ∧ ρ'.getD 3 none = some (.list ((timesN ts as k n).map rowD))) (by
    rintro ρ S' ⟨rfl, fs, W, o5, rfl, hs, heq, hlen⟩
    rcases List.eq_nil_or_concat W with rfl | ⟨W, r, rfl⟩
    · refine .inl ⟨S', att_e, _, rfl, ?_⟩
      simp only [List.reverse_nil, List.flatMap_nil, List.append_nil] at heq
      rw [heq]
      rfl
    · rw [List.concat_eq_append] at *
      have hgo := att_n (M := mixD n ts as) (K := natD k) (j := 10 ^ 9) (gs := fs.map rowD) (ws := (W ++ [r]).map rowD) (o5 := o5) (S := S') (by simp) (by rw [List.length_map]; omega)
      refine .inr ⟨S', hgo, .inl ?_⟩
      have hr := hs r (by simp)
      have hWl := wW_len n W
      rw [wW_app, wW_one] at hlen
      have hrw := wT_pos (n - r.length)
      have μe : ∀ W : List (List Nat), ((W.map rowD).map fun d => match d with | .tuple xs => wT (n - xs.length) | _ => 0).sum = wW n W := fun W => by
        unfold wW
        rw [List.map_map]
        congr 1
        apply List.map_congr_left
        intro q _
        show wT (n - (q.map natD).length) = wT (n - q.length)
        rw [List.length_map]
      have hl : fLen (rowD r) = some (natD r.length) := by show some (PyData.int ((r.map natD).length : Nat)) = _; rw [List.length_map]
      have i0 : fIx (mixD n ts as) (.int 0) = some (natD n) := ixT_0
      have he := eq_nats r.length n
      by_cases e : r.length = n
      · rw [decide_eq_true e] at he
        have h := at_leaf (K := natD k) (MO := .int (10 ^ 9)) (ws := W.map rowD) (o5 := o5) (S := S') hl i0 he (fApp_big (xs := fs.map rowD) (d := rowD r) (by rw [List.length_map]; omega))
        rw [List.map_append, List.map_singleton]
        refine ⟨_, _, h, ⟨rfl, fs ++ [r], W, some (rowD r), by rw [List.map_append]; rfl, fun q hq => hs q (List.mem_append_left _ hq), ?_, ?_⟩, ?_⟩
        · rw [← heq, List.reverse_append, List.reverse_singleton, List.flatMap_append, List.flatMap_singleton, e, Nat.sub_self, List.append_assoc]
          rfl
        · rw [List.length_append, List.length_singleton]
          omega
        · show ((W.map rowD).map _).sum < ((W.map rowD ++ [rowD r]).map _).sum
          rw [show W.map rowD ++ [rowD r] = (W ++ [r]).map rowD by rw [List.map_append]; rfl, μe, μe, wW_app, wW_one]
          omega
      · rw [decide_eq_false e] at he
        have hlt : r.length < n := by have := hr.len; omega
        have hx := next_ok m hk hk8 hr.fit hr.small S'
        have hc := comp_y (t := .nm 6) (de := (d2 fAdd (dVar 5) (dTup (dCons (dVar 6) (dNil))))) (ρ := [some (mixD n ts as), some (natD k), some (.int (10 ^ 9)), some (.list (fs.map rowD)), some (.list (W.map rowD)), some (rowD r), none]) (S := S') (e := natD) (g := rowD) (f := fun c => r ++ [c]) (xs := (nextL ts as k r).reverse) (acc := []) fun c _ => ⟨_, rfl, by
          have e1 := row_snoc (r := r) (c := c) (by omega)
          generalize rowD (r ++ [c]) = R2 at *
          generalize rowD r = R at *
          generalize natD c = C at *
          simp [e1, sz_small]⟩
        have q1 : (nextL ts as k r).reverse.map natD = ((nextL ts as k r).map natD).reverse := List.map_reverse
        have q2 : (nextL ts as k r).reverse.map (fun c => r ++ [c]) = (extT ts as k r).reverse := List.map_reverse
        rw [List.nil_append, q1, q2] at hc
        have hwe := wW_ext (ts := ts) (as := as) (k := k) hk8 hlt
        have hel := wW_len n ((extT ts as k r).reverse)
        have h := at_node (K := natD k) (MO := .int (10 ^ 9)) (fs := fs.map rowD) (ws := W.map rowD) (o5 := o5) (S := S') hl i0 he hx hc (fExt_big (by rw [List.length_map, List.length_map]; omega))
        rw [List.map_append, List.map_singleton]
        refine ⟨_, _, h, ⟨rfl, fs, W ++ (extT ts as k r).reverse, some (rowD r), by rw [List.map_append], fun q hq => ?_, ?_, ?_⟩, ?_⟩
        · rcases List.mem_append.mp hq with hq | hq
          · exact hs q (List.mem_append_left _ hq)
          · exact hr.ext hk8 hlt (List.mem_reverse.mp hq)
        · rw [← heq, List.reverse_append, List.reverse_reverse, List.reverse_append, List.reverse_singleton, List.flatMap_append, List.flatMap_append, List.flatMap_singleton]
          congr 2
          obtain ⟨j, hj⟩ : ∃ j, n - r.length = j + 1 := ⟨n - r.length - 1, by omega⟩
          rw [hj]
          show _ = (extT ts as k r).flatMap (allT ts as k j)
          rw [List.flatMap_def, List.flatMap_def]
          congr 1
          apply List.map_congr_left
          intro x hx
          unfold extT at hx
          obtain ⟨c, _, rfl⟩ := List.mem_map.mp hx
          rw [List.length_append, List.length_singleton, show n - (r.length + 1) = j by omega]
        · rw [wW_app]
          omega
        · show ((W.map rowD ++ ((extT ts as k r).reverse).map rowD).map _).sum < ((W.map rowD ++ [rowD r]).map _).sum
          rw [show W.map rowD ++ [rowD r] = (W ++ [r]).map rowD by rw [List.map_append]; rfl, ← List.map_append, μe, μe, wW_app, wW_app, wW_one]
          omega)
    fuel [some (mixD n ts as), some (natD k), some (.int (10 ^ 9)), some (.list []), some (.list [.tuple []]), none, none] S ⟨rfl, [], [[]], none, rfl, fun r hr => by rw [List.mem_singleton.mp hr]; exact hf0, by
      simp only [List.reverse_singleton, List.flatMap_singleton, List.nil_append, List.length_nil, Nat.sub_zero]
      exact all_times_eq, by
      rw [wW_one]
      simpa using hw5⟩ (by
      show wT (n - 0) + 0 < fuel
      unfold fuel
      rw [Nat.sub_zero]
      omega)
  obtain ⟨ρ', e, h3⟩ := key
  exact all_fin e h3 ⟨_, rfl⟩
end K92
namespace K92
open PySem PySem.Spec PyProof.Rows L2 PD
/-! ### counts, windows by the program -/
theorem count_fin {M K BIG : PyData} {rs : List PyData} {S : Store} (h9 : fI cPow (fun i j => i ^ j.toNat) (.int 10) (.int 9) = some BIG) (hc : d_check_within [M, K] S = .ok .none S) (ha : d_all_times [M, K, BIG] S = .ok (.list rs) S) : d_time_count [M, K] S = .ok (.int (rs.length : Nat)) S := by
  unfold d_time_count dFn b_time_count env0
  simp [hc, h9, ha, RS.fin, -f_I]
theorem time_count_ok {n : Nat} {ts as : List Tie} {k : Nat} (m : MixOk n ts as) (hk : 1 ≤ k) (hk8 : k ≤ 8) {S : Store} (hc : d_check_within [mixD n ts as, natD k] S = .ok .none S) : d_time_count [mixD n ts as, natD k] S = .ok (natD (timesN ts as k n).length) S := by
  have h := count_fin (BIG := .int (10 ^ 9)) rfl hc (all_times_ok m hk hk8 S)
  rw [List.length_map] at h
  exact h
def lowR (k : Nat) (R : List (List Nat)) (a : Nat) : Nat := R.foldl (fun m r => min m (r.getD a 0)) k
def highR (R : List (List Nat)) (a : Nat) : Int := R.foldl (fun m r => max m (r.getD a 0 : Int)) (-1)
theorem zip_same {α : Type} {e g : α → PyData} : ∀ l : List α, zipD (l.map e) (l.map g) = l.map fun a => .tuple [e a, g a]
  | [] => rfl
  | a :: l => by rw [List.map_cons, List.map_cons, List.map_cons, zipD, zip_same l]
theorem row_rng {r : List Nat} {n : Nat} (h : r.length = n) : r.map natD = (List.range n).map fun a => natD (r.getD a 0) := by
  refine List.ext_getElem (by simp [h]) fun i h1 h2 => ?_
  rw [List.getElem_map, List.getElem_map, List.getElem_range, List.getD_eq_getElem?_getD, List.getElem?_eq_getElem (by simpa using h1)]
  rfl
theorem snoc_fold {α : Type} : ∀ (R P : List α), R.foldl (fun P r => P ++ [r]) P = P ++ R
  | [], P => by simp
  | r :: R, P => by rw [List.foldl_cons, snoc_fold R (P ++ [r]), List.append_assoc]; rfl
def wwb : DS := (dSeq (dSet 2 (dComp (dIt2 fZipM (dVar 2) (dVar 4)) (.tup [5, 6]) (dYes) (d2 fMin2 (dVar 5) (dVar 6)))) (dSet 3 (dComp (dIt2 fZipM (dVar 3) (dVar 4)) (.tup [5, 6]) (dYes) (d2 fMax2 (dVar 5) (dVar 6)))))
theorem ww_step {M K R : PyData} {ls hs zs1 zs2 ls' hs' : List PyData} {S : Store} (z1 : fZipM (.list ls) R = some zs1) (c1 : compL (.tup [5, 6]) dYes (d2 fMin2 (dVar 5) (dVar 6)) [some M, some K, some (.list ls), some (.list hs), some R, none, none, none] [] zs1 S = .ok (.list ls') S)
    (z2 : fZipM (.list hs) R = some zs2) (c2 : compL (.tup [5, 6]) dYes (d2 fMax2 (dVar 5) (dVar 6)) [some M, some K, some (.list ls'), some (.list hs), some R, none, none, none] [] zs2 S = .ok (.list hs') S) :
    wwb [some M, some K, some (.list ls), some (.list hs), some R, none, none, none] S = .nx [some M, some K, some (.list ls'), some (.list hs'), some R, none, none, none] S := by
  unfold wwb
  simp [z1, c1, z2, c2]
def lowL (n k : Nat) (R : List (List Nat)) : List PyData := (List.range n).map fun a => natD (lowR k R a)
def highL (n : Nat) (R : List (List Nat)) : List PyData := (List.range n).map fun a => .int (highR R a)
theorem ww_turn {n k : Nat} {P : List (List Nat)} {r : List Nat} {M : PyData} {S : Store} (hr : r.length = n) :
    wwb [some M, some (natD k), some (.list (lowL n k P)), some (.list (highL n P)), some (rowD r), none, none, none] S = .nx [some M, some (natD k), some (.list (lowL n k (P ++ [r]))), some (.list (highL n (P ++ [r]))), some (rowD r), none, none, none] S := by
  have z1 : fZipM (.list (lowL n k P)) (rowD r) = some ((List.range n).map fun a => .tuple [natD (lowR k P a), natD (r.getD a 0)]) := by
    show some (zipD (lowL n k P) (r.map natD)) = _
    rw [row_rng hr]
    exact congrArg some (zip_same _)
  have z2 : fZipM (.list (highL n P)) (rowD r) = some ((List.range n).map fun a => .tuple [.int (highR P a), natD (r.getD a 0)]) := by
    show some (zipD (highL n P) (r.map natD)) = _
    rw [row_rng hr]
    exact congrArg some (zip_same _)
  have c1 := comp_y (t := .tup [5, 6]) (de := (d2 fMin2 (dVar 5) (dVar 6))) (ρ := [some M, some (natD k), some (.list (lowL n k P)), some (.list (highL n P)), some (rowD r), none, none, none]) (S := S) (e := fun a => .tuple [natD (lowR k P a), natD (r.getD a 0)]) (g := fun a => natD (lowR k (P ++ [r]) a)) (f := fun a => a) (xs := List.range n) (acc := []) fun a _ => ⟨[some M, some (natD k), some (.list (lowL n k P)), some (.list (highL n P)), some (rowD r), some (natD (lowR k P a)), some (natD (r.getD a 0)), none], rfl, by
    have h := min_nats (lowR k P a) (r.getD a 0)
    have e : lowR k (P ++ [r]) a = min (lowR k P a) (r.getD a 0) := by unfold lowR; rw [List.foldl_append]; rfl
    rw [e]
    generalize natD (min (lowR k P a) (r.getD a 0)) = X at *
    generalize natD (lowR k P a) = A at *
    generalize natD (r.getD a 0) = B at *
    simp [h]⟩
  have c2 := comp_y (t := .tup [5, 6]) (de := (d2 fMax2 (dVar 5) (dVar 6))) (ρ := [some M, some (natD k), some (.list (lowL n k (P ++ [r]))), some (.list (highL n P)), some (rowD r), none, none, none]) (S := S) (e := fun a => .tuple [.int (highR P a), natD (r.getD a 0)]) (g := fun a => .int (highR (P ++ [r]) a)) (f := fun a => a) (xs := List.range n) (acc := []) fun a _ => ⟨[some M, some (natD k), some (.list (lowL n k (P ++ [r]))), some (.list (highL n P)), some (rowD r), some (.int (highR P a)), some (natD (r.getD a 0)), none], rfl, by
    have h : fMax2 (.int (highR P a)) (natD (r.getD a 0)) = some (.int (highR (P ++ [r]) a)) := by
      have e : highR (P ++ [r]) a = max (highR P a) (r.getD a 0 : Int) := by unfold highR; rw [List.foldl_append]; rfl
      rw [e]
      show some (PyData.int (if ((r.getD a 0 : Nat) : Int) > highR P a then ((r.getD a 0 : Nat) : Int) else highR P a)) = _
      congr 2
      split <;> omega
    generalize PyData.int (highR (P ++ [r]) a) = X at *
    generalize PyData.int (highR P a) = A at *
    generalize natD (r.getD a 0) = B at *
    simp [h]⟩
  rw [List.nil_append, List.map_id'] at c1 c2
  exact ww_step z1 c1 z2 c2
theorem ints_okMM {ns : List Int} : okMM (ns.map .int) = true := by
  unfold okMM
  have a1 : (ns.map PyData.int).all (fun d => (ns.map PyData.int).all fun e => PySem.W.alike d e) = true := by
    rw [List.all_eq_true]
    intro d hd
    rw [List.all_eq_true]
    intro d' hd'
    obtain ⟨i, _, rfl⟩ := List.mem_map.mp hd
    obtain ⟨j, _, rfl⟩ := List.mem_map.mp hd'
    rfl
  have a2 : (ns.map PyData.int).all (fun d => !noneB d) = true := by
    rw [List.all_eq_true]
    intro d hd
    obtain ⟨i, _, rfl⟩ := List.mem_map.mp hd
    rfl
  have a4 : SeqAt.shaped (.list (ns.map .int)) = true := (sh_lst (n := 0) (fun x hx => by obtain ⟨i, _, rfl⟩ := List.mem_map.mp hx; exact sh_int)).ok
  rw [a1, a2, a4, PySem.W.depth_ints]
  rfl
theorem max_ints (n : Int) (ns : List Int) : fMM PySem.W.maxD (.list ((n :: ns).map .int)) = some (.int (ns.foldl max n)) := by
  show (if okMM ((n :: ns).map .int) = true then some (PySem.W.maxD (.int n) (ns.map .int)) else none) = _
  rw [if_pos ints_okMM, PySem.W.maxD_ints]
theorem min_ints (n : Int) (ns : List Int) : fMM PySem.W.minD (.list ((n :: ns).map .int)) = some (.int (ns.foldl min n)) := by
  show (if okMM ((n :: ns).map .int) = true then some (PySem.W.minD (.int n) (ns.map .int)) else none) = _
  rw [if_pos ints_okMM, PySem.W.minD_ints]
def winD (n k : Nat) (R : List (List Nat)) : PyData := if R = [] then .none else .tuple ((List.range n).map fun a => .tuple [natD (lowR k R a), .int (highR R a)])
theorem win_fin {M K N L0 H0 BIG : PyData} {rs ls hs zs ps : List PyData} {mx : Int} {o4 : Option PyData} {S : Store} (h9 : fI cPow (fun i j => i ^ j.toNat) (.int 10) (.int 9) = some BIG) (hc : d_check_within [M, K] S = .ok .none S) (ha : d_all_times [M, K, BIG] S = .ok (.list rs) S) (i0 : fIx M (.int 0) = some N) (t1 : fTimes (.list [K]) N = some L0) (t2 : fTimes (.list [.int (-1)]) N = some H0)
    (q : forL (.nm 4) wwb rs [some M, some K, some L0, some H0, none, none, none, none] S = .nx [some M, some K, some (.list ls), some (.list hs), o4, none, none, none] S) (hm : fMM PySem.W.maxD (.list hs) = some (.int mx)) (hz : fZipM (.list ls) (.list hs) = some zs)
    (hp : compL (.tup [5, 7]) dYes (dTup (dCons (dVar 5) (dCons (dVar 7) (dNil)))) [some M, some K, some (.list ls), some (.list hs), o4, none, none, none] [] zs S = .ok (.list ps) S) :
    d_windows [M, K] S = .ok (if 0 ≤ mx then .tuple ps else .none) S := by
  have hng : fNeg (.int 1) = some (.int (-1)) := rfl
  have hs' : seqD (.list rs) = some rs := rfl
  have ht : fTuple (.list ps) = some (.tuple ps) := rfl
  unfold d_windows dFn b_windows env0
  change PD.RS.fin _ (dSeq (dDrop (dCall d_check_within (dCons (dVar 0) (dCons (dVar 1) (dNil))))) (dSeq (dPar [2, 3] (dCons (d2 fTimes (dLst (dCons (dVar 1) (dNil))) (d2 fIx (dVar 0) (dC (.int 0)))) (dCons (d2 fTimes (dLst (dCons (d1 fNeg (dC (.int 1))) (dNil))) (d2 fIx (dVar 0) (dC (.int 0)))) (dNil)))) (dSeq (dFor (dIt seqD (dCall d_all_times (dCons (dVar 0) (dCons (dVar 1) (dCons (d2 (fI cPow fun i j => i ^ j.toNat) (dC (.int 10)) (dC (.int 9))) (dNil)))))) (.nm 4) wwb) (dRet (dIfE (dTest (d2 fGe (d1 (fMM PySem.W.maxD) (dVar 3)) (dC (.int 0)))) (d1 fTuple (dComp (dIt2 fZipM (dVar 2) (dVar 3)) (.tup [5, 7]) (dYes) (dTup (dCons (dVar 5) (dCons (dVar 7) (dNil)))))) (dC .none))))) _ _) = _
  generalize wwb = bd at *
  by_cases h0 : 0 ≤ mx
  · rw [if_pos h0]
    simp [hc, h9, hng, hs', ht, i0, t1, t2, setAll, ha, q, hm, hz, hp, h0, sz_small, RS.fin, -f_I]
  · rw [if_neg h0]
    simp [hc, h9, hng, hs', ht, i0, t1, t2, setAll, ha, q, hm, hz, hp, h0, sz_small, RS.fin, -f_I]
theorem rep_k (k : Nat) : ∀ n, 1 ≤ n → n ≤ 5 → fTimes (.list [natD k]) (natD n) = some (.list ((List.range n).map fun _ => natD k))
  | 1, _, _ => rfl
  | 2, _, _ => rfl
  | 3, _, _ => rfl
  | 4, _, _ => rfl
  | 5, _, _ => rfl
  | 0, h, _ => by omega
  | n + 6, _, h => by omega
theorem rep_1 : ∀ n, 1 ≤ n → n ≤ 5 → fTimes (.list [.int (-1)]) (natD n) = some (.list ((List.range n).map fun _ => .int (-1)))
  | 1, _, _ => rfl
  | 2, _, _ => rfl
  | 3, _, _ => rfl
  | 4, _, _ => rfl
  | 5, _, _ => rfl
  | 0, h, _ => by omega
  | n + 6, _, h => by omega
theorem high_nonneg {R : List (List Nat)} (h : R ≠ []) (a : Nat) : 0 ≤ highR R a := by
  have key : ∀ (R : List (List Nat)) (m : Int), 0 ≤ m → 0 ≤ R.foldl (fun m r => max m (r.getD a 0 : Int)) m := fun R => by
    induction R with
    | nil => intro m h; exact h
    | cons r R ih =>
      intro m h
      exact ih _ (show 0 ≤ max m (r.getD a 0 : Int) by omega)
  cases R with
  | nil => exact absurd rfl h
  | cons r R => exact key R _ (show 0 ≤ max (-1 : Int) (r.getD a 0 : Int) by omega)
theorem fold_max_ge : ∀ (ns : List Int) (n : Int), n ≤ ns.foldl max n
  | [], n => Int.le_refl _
  | m :: ns, n => by
    have := fold_max_ge ns (max n m)
    rw [List.foldl_cons]
    omega
theorem fold_max_le {c : Int} : ∀ (ns : List Int) (n : Int), n ≤ c → (∀ x ∈ ns, x ≤ c) → ns.foldl max n ≤ c
  | [], n, h, _ => h
  | m :: ns, n, h, hx => by
    have := hx m List.mem_cons_self
    rw [List.foldl_cons]
    exact fold_max_le ns (max n m) (by omega) fun x h => hx x (List.mem_cons_of_mem _ h)
theorem windows_ok {n : Nat} {ts as : List Tie} {k : Nat} (m : MixOk n ts as) (hk : 1 ≤ k) (hk8 : k ≤ 8) {S : Store} (hc : d_check_within [mixD n ts as, natD k] S = .ok .none S) : d_windows [mixD n ts as, natD k] S = .ok (winD n k (timesN ts as k n)) S := by
  have h1 := m.w.lo
  have h5 := m.five
  obtain ⟨ρ', q, hq⟩ := for_fold (t := .nm 4) (body := wwb) (I := fun _ (P : List (List Nat)) ρ => ∃ o4 : Option PyData, ρ = [some (mixD n ts as), some (natD k), some (.list (lowL n k P)), some (.list (highL n P)), o4, none, none, none]) (e := rowD) (st := fun P r => P ++ [r]) (S := S) (xs := timesN ts as k n) (j := 0) (b := [])
    (ρ := [some (mixD n ts as), some (natD k), some (.list ((List.range n).map fun _ => natD k)), some (.list ((List.range n).map fun _ => .int (-1))), none, none, none, none]) ⟨none, rfl⟩ (fun r hr j P ρ _ hi => by
    obtain ⟨o4, rfl⟩ := hi
    exact ⟨_, rfl, _, ww_turn (times_member_len hr), some (rowD r), rfl⟩)
  rw [snoc_fold, List.nil_append] at hq
  obtain ⟨o4, rfl⟩ := hq
  have ha := all_times_ok m hk hk8 S
  generalize timesN ts as k n = R at *
  obtain ⟨x, xs, hx⟩ : ∃ x xs, (List.range n).map (highR R) = x :: xs := by
    cases hr : (List.range n).map (highR R) with
    | nil =>
      have := congrArg List.length hr
      simp at this
      omega
    | cons x xs => exact ⟨x, xs, rfl⟩
  have hH : highL n R = (x :: xs).map .int := by rw [← hx, List.map_map]; rfl
  have hm : fMM PySem.W.maxD (.list (highL n R)) = some (.int (xs.foldl max x)) := by rw [hH]; exact max_ints x xs
  have hz : fZipM (.list (lowL n k R)) (.list (highL n R)) = some ((List.range n).map fun a => .tuple [natD (lowR k R a), .int (highR R a)]) := congrArg some (zip_same _)
  have hp := comp_y (t := .tup [5, 7]) (de := (dTup (dCons (dVar 5) (dCons (dVar 7) (dNil))))) (ρ := [some (mixD n ts as), some (natD k), some (.list (lowL n k R)), some (.list (highL n R)), o4, none, none, none]) (S := S) (e := fun a => .tuple [natD (lowR k R a), .int (highR R a)]) (g := fun a => .tuple [natD (lowR k R a), .int (highR R a)]) (f := fun a => a) (xs := List.range n) (acc := []) fun a _ => ⟨[some (mixD n ts as), some (natD k), some (.list (lowL n k R)), some (.list (highL n R)), o4, some (natD (lowR k R a)), none, some (.int (highR R a))], rfl, by
    generalize natD (lowR k R a) = A at *
    generalize PyData.int (highR R a) = B at *
    simp [sz_small]⟩
  rw [List.nil_append, List.map_id'] at hp
  have h := win_fin (BIG := .int (10 ^ 9)) (N := natD n) rfl hc ha ixT_0 (rep_k k n h1 h5) (rep_1 n h1 h5) q hm hz hp
  rw [h]
  congr 1
  unfold winD
  by_cases hR : R = []
  · rw [if_pos hR, if_neg]
    have hall : ∀ y ∈ x :: xs, y ≤ -1 := fun y hy => by
      rw [← hx] at hy
      obtain ⟨a, _, rfl⟩ := List.mem_map.mp hy
      subst hR
      exact Int.le_refl _
    have := fold_max_le xs x (hall x List.mem_cons_self) fun y hy => hall y (List.mem_cons_of_mem _ hy)
    omega
  · rw [if_neg hR, if_pos]
    have hx0 : x ∈ (List.range n).map (highR R) := by rw [hx]; exact List.mem_cons_self
    obtain ⟨a, _, rfl⟩ := List.mem_map.mp hx0
    have := high_nonneg hR a
    have := fold_max_ge xs (highR R a)
    omega
end K92
namespace K92
open PySem PySem.Spec PyProof.Rows L2 PD
/-! ### pairs -/
theorem eqv_tie (a b : Tie) : PyData.eqv (tieD a) (tieD b) = decide (a = b) := by
  show PyData.eqv (.tuple [natD a.1, natD a.2]) (.tuple [natD b.1, natD b.2]) = _
  rw [PyData.eqv, PyData.eqvAll, PyData.eqvAll, PyData.eqvAll]
  have e : ∀ i j : Nat, PyData.eqv (natD i) (natD j) = decide (i = j) := fun i j => by
    show ((i : Int) == (j : Int)) = _
    rw [Bool.eq_iff_iff, beq_iff_eq, decide_eq_true_eq]
    omega
  rw [e, e, Bool.and_true, Bool.eq_iff_iff, Bool.and_eq_true, decide_eq_true_eq, decide_eq_true_eq, decide_eq_true_eq]
  exact ⟨fun h => Prod.ext h.1 h.2, fun h => by rw [h]; exact ⟨rfl, rfl⟩⟩
theorem inOk_tie (a : Tie) (Q : List Tie) : inOk (tieD a) (Q.map tieD) = true := by
  unfold inOk
  rw [Bool.or_eq_true]
  right
  rw [(sh_tie a).ok, (sh_lst (sh_map sh_tie)).ok]
  rfl
theorem inD_tie (a : Tie) (Q : List Tie) : inD (tieD a) (Q.map tieD) = decide (a ∈ Q) := by
  unfold inD
  rw [List.any_map, Bool.eq_iff_iff, List.any_eq_true, decide_eq_true_eq]
  constructor
  · rintro ⟨b, hb, h⟩
    rw [Function.comp, eqv_tie, decide_eq_true_eq] at h
    rwa [← h]
  · intro h
    exact ⟨a, h, by rw [Function.comp, eqv_tie]; simp⟩
theorem in_tiesL (neg : Bool) (a : Tie) (Q : List Tie) : fIn neg (tieD a) (.list (Q.map tieD)) = some (.bool (if neg then !decide (a ∈ Q) else decide (a ∈ Q))) := by
  show (if inOk (tieD a) (Q.map tieD) = true then some (PyData.bool (if neg = true then !inD (tieD a) (Q.map tieD) else inD (tieD a) (Q.map tieD))) else none) = _
  rw [inOk_tie, inD_tie]
  rfl
theorem in_tiesT (neg : Bool) (a : Tie) (Q : List Tie) : fIn neg (tieD a) (.tuple (Q.map tieD)) = some (.bool (if neg then !decide (a ∈ Q) else decide (a ∈ Q))) := by
  show (if inOk (tieD a) (Q.map tieD) = true then some (PyData.bool (if neg = true then !inD (tieD a) (Q.map tieD) else inD (tieD a) (Q.map tieD))) else none) = _
  rw [inOk_tie, inD_tie]
  rfl
def rowPairs (n : Nat) (r : List Nat) (a : Nat) : List Tie := ((List.range n).filter fun b => decide (r.getD a 0 < r.getD b 0)).map fun b => (a, b)
def pairsR (n : Nat) (r : List Nat) : List Tie := (List.range n).flatMap (rowPairs n r)
theorem enum_rng {r : List Nat} {n : Nat} (h : r.length = n) : enumD 0 (r.map natD) = (List.range n).map fun a => .tuple [natD a, natD (r.getD a 0)] := by
  refine List.ext_getElem? fun i => ?_
  by_cases hi : i < n
  · cases hd : (enumD 0 (r.map natD))[i]? with
    | none =>
      have := List.getElem?_eq_none_iff.mp hd
      rw [enumD_len, List.length_map] at this
      omega
    | some d =>
      obtain ⟨x, hx, rfl⟩ := enumD_get _ _ _ _ hd
      rw [List.getElem?_map, List.getElem?_eq_getElem (by omega)] at hx
      cases hx
      have e : r.getD i 0 = r[i] := by rw [List.getD_eq_getElem?_getD, List.getElem?_eq_getElem (by omega)]; rfl
      rw [List.getElem?_map, List.getElem?_range hi]
      show some (PyData.tuple [.int (0 + (i : Int)), natD r[i]]) = some (PyData.tuple [natD i, natD (r.getD i 0)])
      rw [Int.zero_add, e]
  · rw [List.getElem?_eq_none (by rw [enumD_len, List.length_map]; omega), List.getElem?_eq_none (by rw [List.length_map, List.length_range]; omega)]
theorem app_fold {α β : Type} (g : α → List β) : ∀ (xs : List α) (P : List β), xs.foldl (fun P a => P ++ g a) P = P ++ xs.flatMap g
  | [], P => by simp
  | x :: xs, P => by rw [List.foldl_cons, app_fold g xs, List.flatMap_cons, List.append_assoc]
def pab : DS := (dExt 1 (dComp (dIt (fEnum 0) (dVar 0)) (.tup [4, 5]) (dTest (d2 fLt (dVar 3) (dVar 5))) (dTup (dCons (dVar 2) (dCons (dVar 4) (dNil))))))
theorem pab_step {R A T F' : PyData} {fs es zs : List PyData} {S : Store} (he : fEnum 0 R = some es) (hc : compL (.tup [4, 5]) (dTest (d2 fLt (dVar 3) (dVar 5))) (dTup (dCons (dVar 2) (dCons (dVar 4) (dNil)))) [some R, some (.list fs), some A, some T, none, none] [] es S = .ok (.list zs) S) (hx : fExt fs (.list zs) = some F') :
    pab [some R, some (.list fs), some A, some T, none, none] S = .nx [some R, some F', some A, some T, none, none] S := by
  unfold pab
  simp only [ap_ext, onLst, List.getD_cons_succ, List.getD_cons_zero, ap_comp, ap_it, ap_var, ofO_some, PD.R.bind_ok, PD.R.st_ok, he, hc, hx, putO, List.set_cons_succ, List.set_cons_zero]
theorem rowPairs_len (n : Nat) (r : List Nat) (a : Nat) : (rowPairs n r a).length ≤ n := by
  unfold rowPairs
  rw [List.length_map]
  have := List.length_filter_le (fun b => decide (r.getD a 0 < r.getD b 0)) (List.range n)
  rw [List.length_range] at this
  exact this
theorem pairs_ahead_ok {n : Nat} {r : List Nat} (hr : r.length = n) (hn : n ≤ 5) (S : Store) : d_pairs_ahead [rowD r] S = .ok (.list ((pairsR n r).map tieD)) S := by
  have he : fEnum 0 (rowD r) = some ((List.range n).map fun a => .tuple [natD a, natD (r.getD a 0)]) := by
    show some (enumD 0 (r.map natD)) = _
    rw [enum_rng hr]
  obtain ⟨ρ', q, _, o2, o3, rfl⟩ := for_fold (t := .tup [2, 3]) (body := pab) (I := fun j (P : List Tie) ρ => P.length ≤ 5 * j ∧ ∃ o2 o3 : Option PyData, ρ = [some (rowD r), some (.list (P.map tieD)), o2, o3, none, none]) (e := fun a => .tuple [natD a, natD (r.getD a 0)]) (st := fun P a => P ++ rowPairs n r a) (S := S) (xs := List.range n) (j := 0) (b := []) (ρ := [some (rowD r), some (.list []), none, none, none, none]) ⟨by simp, none, none, rfl⟩ (fun a ha j P ρ hj hi => by
    obtain ⟨hP, o2, o3, rfl⟩ := hi
    rw [List.length_range] at hj
    have hl := rowPairs_len n r a
    refine ⟨[some (rowD r), some (.list (P.map tieD)), some (natD a), some (natD (r.getD a 0)), none, none], rfl, ?_⟩
    have hc := comp_t (t := .tup [4, 5]) (tt := (dTest (d2 fLt (dVar 3) (dVar 5)))) (de := (dTup (dCons (dVar 2) (dCons (dVar 4) (dNil))))) (ρ := [some (rowD r), some (.list (P.map tieD)), some (natD a), some (natD (r.getD a 0)), none, none]) (S := S) (e := fun b => .tuple [natD b, natD (r.getD b 0)]) (g := tieD) (p := fun b => decide (r.getD a 0 < r.getD b 0)) (f := fun b => (a, b)) (xs := List.range n) (acc := []) fun b _ => ⟨[some (rowD r), some (.list (P.map tieD)), some (natD a), some (natD (r.getD a 0)), some (natD b), some (natD (r.getD b 0))], rfl, tst2 rfl rfl (lt_nats _ _), fun _ => by simp [sz_small, tieD]⟩
    rw [List.nil_append] at hc
    have hx := fExt_ok (xs := P.map tieD) (ys := (rowPairs n r a).map tieD) (by rw [List.length_map, List.length_map]; omega)
    rw [← List.map_append] at hx
    refine ⟨_, pab_step he hc hx, by rw [List.length_append]; omega, _, _, rfl⟩)
  rw [app_fold, List.nil_append] at q
  have step : ∀ (R : PyData) (es fs : List PyData), fEnum 0 R = some es → forL (.tup [2, 3]) pab es [some R, some (.list []), none, none, none, none] S = .nx [some R, some (.list fs), o2, o3, none, none] S → d_pairs_ahead [R] S = .ok (.list fs) S := by
    intro R es fs he q
    unfold d_pairs_ahead dFn b_pairs_ahead env0
    change PD.RS.fin _ (dSeq (dSet 1 (dLst (dNil))) (dSeq (dFor (dIt (fEnum 0) (dVar 0)) (.tup [2, 3]) pab) (dRet (dVar 1))) _ _) = _
    generalize pab = bd at *
    simp [he, q, sz_small, RS.fin]
  exact step _ _ _ he q
/-! sure_ahead -/
def sab : DS := (dSeq (dSet 4 (dCall d_pairs_ahead (dCons (dVar 3) (dNil)))) (dSet 2 (dIfE (dTest (d2 (fIsN false) (dVar 2) (dC .none))) (dVar 4) (dComp (dIt seqD (dVar 2)) (.nm 5) (dTest (d2 (fIn false) (dVar 5) (dVar 4))) (dVar 5)))))
def fndD : Option (List Tie) → PyData | none => .none | some P => .list (P.map tieD)
def sureS (n : Nat) (o : Option (List Tie)) (r : List Nat) : Option (List Tie) := match o with | none => some (pairsR n r) | some P => some (P.filter fun p => decide (p ∈ pairsR n r))
theorem sab_none {M K R Q : PyData} {o4 : Option PyData} {S : Store} (h : d_pairs_ahead [R] S = .ok Q S) : sab [some M, some K, some .none, some R, o4, none] S = .nx [some M, some K, some Q, some R, some Q, none] S := by
  have h0 : fIsN false .none .none = some (.bool true) := rfl
  unfold sab
  simp [h, h0]
theorem sab_some {M K R Q : PyData} {ps zs : List PyData} {o4 : Option PyData} {S : Store} (h : d_pairs_ahead [R] S = .ok Q S) (hc : compL (.nm 5) (dTest (d2 (fIn false) (dVar 5) (dVar 4))) (dVar 5) [some M, some K, some (.list ps), some R, some Q, none] [] ps S = .ok (.list zs) S) :
    sab [some M, some K, some (.list ps), some R, o4, none] S = .nx [some M, some K, some (.list zs), some R, some Q, none] S := by
  have h0 : fIsN false (.list ps) .none = some (.bool false) := rfl
  have h1 : seqD (.list ps) = some ps := rfl
  unfold sab
  simp [h, h0, h1, hc]
theorem sab_turn {n : Nat} {r : List Nat} {M K : PyData} {o : Option (List Tie)} {o4 : Option PyData} {S : Store} (hr : r.length = n) (hn : n ≤ 5) : ∃ p4, sab [some M, some K, some (fndD o), some (rowD r), o4, none] S = .nx [some M, some K, some (fndD (sureS n o r)), some (rowD r), p4, none] S := by
  have h := pairs_ahead_ok hr hn S
  cases o with
  | none => exact ⟨_, sab_none h⟩
  | some P =>
    have hc := comp_t (t := .nm 5) (tt := (dTest (d2 (fIn false) (dVar 5) (dVar 4)))) (de := dVar 5) (ρ := [some M, some K, some (.list (P.map tieD)), some (rowD r), some (.list ((pairsR n r).map tieD)), none]) (S := S) (e := tieD) (g := tieD) (p := fun p => decide (p ∈ pairsR n r)) (f := fun p => p) (xs := P) (acc := []) fun p _ => ⟨_, rfl, tst2 rfl rfl (in_tiesL false p (pairsR n r)), fun _ => by simp⟩
    rw [List.map_id', List.nil_append] at hc
    exact ⟨_, sab_some h hc⟩
end K92
namespace K92
open PySem PySem.Spec PyProof.Rows L2 PD
/-! ### sorted pairs -/
theorem tie_dataLt (a b : Tie) : PySem.W.dataLt (tieD a) (tieD b) = true ↔ tieLt a b := by
  show PySem.W.dataLt (.tuple [.int (a.1 : Int), .int (a.2 : Int)]) (.tuple [.int (b.1 : Int), .int (b.2 : Int)]) = true ↔ _
  rw [PySem.W.dataLt_ii, decide_eq_true_eq]
  unfold tieLt
  omega
theorem dLe_tot : PySem.W.TotalLe (PySem.W.dataLe false (_root_.id : PyData → PyData)) := PySem.W.sortLe_total _ _ _
def sortT (P : List Tie) : List Tie := P.mergeSort fun a b => !PySem.W.dataLt (tieD b) (tieD a)
theorem sortT_perm (P : List Tie) : (sortT P).Perm P := List.mergeSort_perm ..
theorem sortT_up {P : List Tie} (h : P.Nodup) : (sortT P).Pairwise tieLt := by
  have h1 : (sortT P).Pairwise fun a b => (!PySem.W.dataLt (tieD b) (tieD a)) = true := List.pairwise_mergeSort (le := fun a b => !PySem.W.dataLt (tieD b) (tieD a)) (fun a b c => dLe_tot.trans (tieD a) (tieD b) (tieD c)) (fun a b => Bool.or_eq_true_iff.mpr (dLe_tot.total (tieD a) (tieD b))) P
  have h2 : (sortT P).Nodup := (sortT_perm P).nodup_iff.mpr h
  refine (h1.and h2).imp fun {a b} h => ?_
  obtain ⟨h1, h2⟩ := h
  have h1 : ¬ tieLt b a := fun h => by rw [(tie_dataLt b a).mpr h] at h1; cases h1
  unfold tieLt at *
  have : a.1 ≠ b.1 ∨ a.2 ≠ b.2 := by
    by_cases e : a.1 = b.1
    · right
      intro e2
      exact h2 (Prod.ext e e2)
    · exact .inl e
  omega
theorem sort_ties (P : List Tie) : fSort (.list (P.map tieD)) = some (.list ((sortT P).map tieD)) := by
  have e : sortD (P.map tieD) = (sortT P).map tieD := by
    unfold sortD sortT
    rw [List.map_mergeSort]
    intro a _ b _
    rfl
  have ok : sortOk (P.map tieD) = true := by
    unfold sortOk
    rw [Bool.or_eq_true]
    right
    have a1 : (P.map tieD).all (fun d => (P.map tieD).all fun e => PySem.W.alike d e) = true := by
      rw [List.all_eq_true]
      intro d hd
      rw [List.all_eq_true]
      intro d' hd'
      obtain ⟨l, _, rfl⟩ := List.mem_map.mp hd
      obtain ⟨l', _, rfl⟩ := List.mem_map.mp hd'
      rfl
    have a2 : (P.map tieD).all bigTup = true := by
      rw [List.all_eq_true]
      intro d hd
      obtain ⟨l, hl, rfl⟩ := List.mem_map.mp hd
      rfl
    have a3 : (P.map tieD).all (fun d => decide (d.depth ≤ 60)) = true := by
      rw [List.all_eq_true]
      intro d hd
      obtain ⟨l, hl, rfl⟩ := List.mem_map.mp hd
      have := (sh_tie l).2
      exact decide_eq_true (by omega)
    have a4 : SeqAt.shaped (.list (P.map tieD)) = true := (sh_lst (sh_map sh_tie)).ok
    rw [a1, a2, a3, a4]
    rfl
  unfold fSort
  cases P with
  | nil =>
    rw [e.symm, sortD_small (by simp)]
    show (match (intsOf []).map (fun ns => PyData.list ((sortI ns).map .int)) with | some d => some d | none => fSortG (.list [])) = _
    rw [show intsOf [] = some [] from rfl]
    simp [sortI]
  | cons l P =>
    have e0 : fSortI (.list ((l :: P).map tieD)) = none := by
      show (intsOf ((l :: P).map tieD)).map (fun ns => PyData.list ((sortI ns).map .int)) = none
      rw [show intsOf ((l :: P).map tieD) = none from rfl]
      rfl
    rw [e0]
    show fSortG _ = _
    unfold fSortG
    simp only [ok, if_true, e]
theorem tieLt_asym {a b : Tie} (h1 : tieLt a b) (h2 : tieLt b a) : False := by
  unfold tieLt at *
  omega
theorem up_nodup {P : List Tie} (h : P.Pairwise tieLt) : P.Nodup := h.imp fun h e => by
  subst e
  exact tieLt_asym h h
theorem sort_same {P : List Tie} (h : P.Pairwise tieLt) : sortT P = P := sorted_eq (R := tieLt) (fun a b => tieLt_asym) (sortT_up (up_nodup h)) h fun x => (sortT_perm P).mem_iff
theorem pairsR_up (n : Nat) (r : List Nat) : (pairsR n r).Pairwise tieLt := by
  unfold pairsR
  rw [List.pairwise_flatMap]
  refine ⟨fun a _ => ?_, (range_up n).imp fun {a b} hab x hx y hy => ?_⟩
  · unfold rowPairs
    rw [List.pairwise_map]
    exact ((range_up n).filter _).imp fun h => .inr ⟨rfl, h⟩
  · obtain ⟨_, _, rfl⟩ := List.mem_map.mp hx
    obtain ⟨_, _, rfl⟩ := List.mem_map.mp hy
    exact .inl hab
theorem mem_pairsR {n : Nat} {r : List Nat} {p : Tie} : p ∈ pairsR n r ↔ p.1 < n ∧ p.2 < n ∧ r.getD p.1 0 < r.getD p.2 0 := by
  unfold pairsR rowPairs
  rw [List.mem_flatMap]
  constructor
  · rintro ⟨a, ha, h⟩
    obtain ⟨b, hb, rfl⟩ := List.mem_map.mp h
    obtain ⟨h1, h2⟩ := List.mem_filter.mp hb
    exact ⟨List.mem_range.mp ha, List.mem_range.mp h1, of_decide_eq_true h2⟩
  · rintro ⟨h1, h2, h3⟩
    exact ⟨p.1, List.mem_range.mpr h1, List.mem_map.mpr ⟨p.2, List.mem_filter.mpr ⟨List.mem_range.mpr h2, decide_eq_true h3⟩, rfl⟩⟩
/-- what is surely ahead, for all that are gone through -/
def aheadL (n : Nat) (R : List (List Nat)) : List Tie := (List.range n).flatMap fun a => ((List.range n).filter fun b => R.all fun r => decide (r.getD a 0 < r.getD b 0)).map fun b => (a, b)
theorem ahead_up (n : Nat) (R : List (List Nat)) : (aheadL n R).Pairwise tieLt := by
  unfold aheadL
  rw [List.pairwise_flatMap]
  refine ⟨fun a _ => ?_, (range_up n).imp fun {a b} hab x hx y hy => ?_⟩
  · rw [List.pairwise_map]
    exact ((range_up n).filter _).imp fun h => .inr ⟨rfl, h⟩
  · obtain ⟨_, _, rfl⟩ := List.mem_map.mp hx
    obtain ⟨_, _, rfl⟩ := List.mem_map.mp hy
    exact .inl hab
theorem mem_ahead {n : Nat} {R : List (List Nat)} {p : Tie} : p ∈ aheadL n R ↔ p.1 < n ∧ p.2 < n ∧ ∀ r ∈ R, r.getD p.1 0 < r.getD p.2 0 := by
  unfold aheadL
  rw [List.mem_flatMap]
  constructor
  · rintro ⟨a, ha, h⟩
    obtain ⟨b, hb, rfl⟩ := List.mem_map.mp h
    obtain ⟨h1, h2⟩ := List.mem_filter.mp hb
    exact ⟨List.mem_range.mp ha, List.mem_range.mp h1, fun r hr => of_decide_eq_true (List.all_eq_true.mp h2 r hr)⟩
  · rintro ⟨h1, h2, h3⟩
    exact ⟨p.1, List.mem_range.mpr h1, List.mem_map.mpr ⟨p.2, List.mem_filter.mpr ⟨List.mem_range.mpr h2, List.all_eq_true.mpr fun r hr => decide_eq_true (h3 r hr)⟩, rfl⟩⟩
theorem sure_some {n : Nat} : ∀ (R : List (List Nat)) (P : List Tie), R.foldl (sureS n) (some P) = some (P.filter fun p => R.all fun r => decide (p ∈ pairsR n r))
  | [], P => by
    show some P = some (P.filter fun _ => true)
    rw [List.filter_eq_self.mpr (fun _ _ => rfl)]
  | r :: R, P => by
    rw [List.foldl_cons]
    show R.foldl (sureS n) (some (P.filter fun p => decide (p ∈ pairsR n r))) = _
    rw [sure_some R, List.filter_filter]
    congr 2
    funext p
    rw [List.all_cons, Bool.and_comm]
theorem sure_fold {n : Nat} {R : List (List Nat)} (h : R ≠ []) : R.foldl (sureS n) none = some (aheadL n R) := by
  cases R with
  | nil => exact absurd rfl h
  | cons r R =>
    rw [List.foldl_cons]
    show R.foldl (sureS n) (some (pairsR n r)) = _
    rw [sure_some]
    congr 1
    refine sorted_eq (R := tieLt) (fun a b => tieLt_asym) ((pairsR_up n r).filter _) (ahead_up n _) fun p => ?_
    rw [List.mem_filter, mem_pairsR, mem_ahead, List.all_eq_true]
    constructor
    · rintro ⟨⟨h1, h2, h3⟩, h4⟩
      refine ⟨h1, h2, fun s hs => ?_⟩
      rcases List.mem_cons.mp hs with rfl | hs
      · exact h3
      · exact (mem_pairsR.mp (of_decide_eq_true (h4 s hs))).2.2
    · rintro ⟨h1, h2, h3⟩
      exact ⟨⟨h1, h2, h3 r List.mem_cons_self⟩, fun s hs => decide_eq_true (mem_pairsR.mpr ⟨h1, h2, h3 s (List.mem_cons_of_mem _ hs)⟩)⟩
theorem sure_fin {M K BIG : PyData} {rs : List PyData} {F : PyData} {o3 o4 : Option PyData} {b : Bool} {G : PyData} {S : Store} (h9 : fI cPow (fun i j => i ^ j.toNat) (.int 10) (.int 9) = some BIG) (hc : d_check_within [M, K] S = .ok .none S) (ha : d_all_times [M, K, BIG] S = .ok (.list rs) S)
    (q : forL (.nm 3) sab rs [some M, some K, some .none, none, none, none] S = .nx [some M, some K, some F, o3, o4, none] S) (h0 : fIsN false F .none = some (.bool b)) (hs : if b = true then G = .none else ∃ ps, fSort F = some (.list ps) ∧ G = .tuple ps) : d_sure_ahead [M, K] S = .ok G S := by
  have hs' : seqD (.list rs) = some rs := rfl
  unfold d_sure_ahead dFn b_sure_ahead env0
  change PD.RS.fin _ (dSeq (dDrop (dCall d_check_within (dCons (dVar 0) (dCons (dVar 1) (dNil))))) (dSeq (dSet 2 (dC .none)) (dSeq (dFor (dIt seqD (dCall d_all_times (dCons (dVar 0) (dCons (dVar 1) (dCons (d2 (fI cPow fun i j => i ^ j.toNat) (dC (.int 10)) (dC (.int 9))) (dNil)))))) (.nm 3) sab) (dRet (dIfE (dTest (d2 (fIsN false) (dVar 2) (dC .none))) (dC .none) (d1 fTuple (d1 fSort (dVar 2))))))) _ _) = _
  generalize sab = bd at *
  cases b with
  | true =>
    rw [if_pos rfl] at hs
    subst hs
    simp [hc, h9, ha, hs', q, h0, RS.fin, -f_I]
  | false =>
    rw [if_neg (by decide)] at hs
    obtain ⟨ps, h1, rfl⟩ := hs
    have ht : fTuple (.list ps) = some (.tuple ps) := rfl
    simp [hc, h9, ha, hs', q, h0, h1, ht, RS.fin, -f_I]
def surD (n : Nat) (R : List (List Nat)) : PyData := if R = [] then .none else .tuple ((aheadL n R).map tieD)
theorem sure_ahead_ok {n : Nat} {ts as : List Tie} {k : Nat} (m : MixOk n ts as) (hk : 1 ≤ k) (hk8 : k ≤ 8) {S : Store} (hc : d_check_within [mixD n ts as, natD k] S = .ok .none S) : d_sure_ahead [mixD n ts as, natD k] S = .ok (surD n (timesN ts as k n)) S := by
  have h5 := m.five
  obtain ⟨ρ', q, hq⟩ := for_fold (t := .nm 3) (body := sab) (I := fun _ (o : Option (List Tie)) ρ => ∃ o3 o4 : Option PyData, ρ = [some (mixD n ts as), some (natD k), some (fndD o), o3, o4, none]) (e := rowD) (st := sureS n) (S := S) (xs := timesN ts as k n) (j := 0) (b := none) (ρ := [some (mixD n ts as), some (natD k), some .none, none, none, none]) ⟨none, none, rfl⟩ (fun r hr j o ρ _ hi => by
    obtain ⟨o3, o4, rfl⟩ := hi
    obtain ⟨p4, h⟩ := sab_turn (M := mixD n ts as) (K := natD k) (o := o) (o4 := o4) (S := S) (times_member_len hr) h5
    exact ⟨_, rfl, _, h, _, _, rfl⟩)
  have ha := all_times_ok m hk hk8 S
  generalize timesN ts as k n = R at *
  by_cases hR : R = []
  · subst hR
    obtain ⟨o3, o4, rfl⟩ := hq
    exact sure_fin (BIG := .int (10 ^ 9)) rfl hc ha q (b := true) rfl (by rw [if_pos rfl]; unfold surD; rw [if_pos rfl])
  · rw [sure_fold hR] at hq
    obtain ⟨o3, o4, rfl⟩ := hq
    refine sure_fin (BIG := .int (10 ^ 9)) rfl hc ha q (b := false) rfl ?_
    rw [if_neg (by decide)]
    refine ⟨_, sort_ties _, ?_⟩
    unfold surD
    rw [if_neg hR, sort_same (ahead_up n R)]
end K92
namespace K92
open PySem PySem.Spec PyProof.Rows L2 PD
/-! ### a mixed web is one -/
theorem mix_step {M W N A : PyData} {nn : Int} {TS AS A1 : PyData} {as zs xs ys us : List PyData} {S : Store} (e1 : d_is_sized [M, .int 3, .int 3] S = .ok (.bool true) S) (s1 : fSl M none (some 2) = some W) (e2 : d_is_web [W] S = .ok (.bool true) S) (i0 : fIx M (.int 0) = some (.int nn)) (h7 : ¬ 7 < nn) (i2 : fIx M (.int 2) = some AS) (ht : isT "tuple" AS = true)
    (hb : (Tg.tup [1, 2, 3]).bind M [some M, none, none, none, none, none, none, none, none, none] = some [some M, some (.int nn), some TS, some AS, none, none, none, none, none, none]) (hq : seqD AS = some as)
    (c1 : compL (.nm 4) dYes (dAndV (dCall d_is_sized (dCons (dVar 4) (dCons (dC (.int 2)) (dCons (dC (.int 2)) (dNil))))) (d1 (fBs fun bs => bs.all _root_.id) (dComp (dIt seqD (dVar 4)) (.nm 9) (dYes) (dCall d_is_within (dCons (dVar 9) (dCons (dC (.int 0)) (dCons (d2 (fI (fun _ _ => true) fun i j => i - j) (dVar 1) (dC (.int 1))) (dNil)))))))) [some M, some (.int nn), some TS, some AS, none, none, none, none, none, none] [] as S = .ok (.list xs) S) (f1 : fBs (fun bs => bs.all _root_.id) (.list xs) = some (.bool true))
    (s2 : fSl AS (some 1) none = some A1) (z2 : fZip AS A1 = some zs) (c2 : compL (.tup [5, 6]) dYes (d2 fLt (dVar 5) (dVar 6)) [some M, some (.int nn), some TS, some AS, none, none, none, none, none, none] [] zs S = .ok (.list ys) S) (f2 : fBs (fun bs => bs.all _root_.id) (.list ys) = some (.bool true))
    (c3 : compL (.tup [7, 8]) dYes (dOrV (d2 fEq (dVar 7) (dVar 8)) (dOrV (d2 (fIn false) (dTup (dCons (d2 fMin2 (dVar 7) (dVar 8)) (dCons (d2 fMax2 (dVar 7) (dVar 8)) (dNil)))) (dVar 2)) (d2 (fIn false) (dTup (dCons (dVar 8) (dCons (dVar 7) (dNil)))) (dVar 3)))) [some M, some (.int nn), some TS, some AS, none, none, none, none, none, none] [] as S = .ok (.list us) S) (f3 : fBs (fun bs => bs.any _root_.id) (.list us) = some (.bool false)) :
    d_is_mixed [M] S = .ok (.bool true) S := by
  unfold d_is_mixed dFn b_is_mixed env0
  simp [e1, s1, e2, i0, h7, i2, ht, hb, hq, c1, f1, s2, z2, c2, f2, c3, f3, RS.fin]
theorem is_mixed_ok {n : Nat} {ts as : List Tie} (m : MixOk n ts as) (S : Store) : d_is_mixed [mixD n ts as] S = .ok (.bool true) S := by
  have h5 := m.five
  obtain ⟨xs, q1, q2⟩ := comp_k (t := .nm 4) (de := (dAndV (dCall d_is_sized (dCons (dVar 4) (dCons (dC (.int 2)) (dCons (dC (.int 2)) (dNil))))) (d1 (fBs fun bs => bs.all _root_.id) (dComp (dIt seqD (dVar 4)) (.nm 9) (dYes) (dCall d_is_within (dCons (dVar 9) (dCons (dC (.int 0)) (dCons (d2 (fI (fun _ _ => true) fun i j => i - j) (dVar 1) (dC (.int 1))) (dNil))))))))) (ρ := [some (mixD n ts as), some (.int (n : Int)), some (.tuple (ts.map tieD)), some (.tuple (as.map tieD)), none, none, none, none, none, none]) (S := S) (z := .bool true) (ds := as.map tieD) (fun d hd => by
    obtain ⟨a, ha, rfl⟩ := List.mem_map.mp hd
    obtain ⟨_, h1, h2⟩ := m.lt a ha
    have e1 : d_is_sized [tieD a, .int 2, .int 2] S = .ok (.bool true) S := is_sized_ok S
    have hq : seqD (tieD a) = some [.int (a.1 : Int), .int (a.2 : Int)] := rfl
    have w1 : d_is_within [.int (a.1 : Int), .int 0, .int ((n : Int) - 1)] S = .ok (.bool true) S := by rw [is_within_ok, decide_eq_true (by omega), decide_eq_true (by omega)]; rfl
    have w2 : d_is_within [.int (a.2 : Int), .int 0, .int ((n : Int) - 1)] S = .ok (.bool true) S := by rw [is_within_ok, decide_eq_true (by omega), decide_eq_true (by omega)]; rfl
    obtain ⟨ys, r1, r2⟩ := comp_k (t := .nm 9) (de := (dCall d_is_within (dCons (dVar 9) (dCons (dC (.int 0)) (dCons (d2 (fI (fun _ _ => true) fun i j => i - j) (dVar 1) (dC (.int 1))) (dNil)))))) (ρ := [some (mixD n ts as), some (.int (n : Int)), some (.tuple (ts.map tieD)), some (.tuple (as.map tieD)), some (tieD a), none, none, none, none, none]) (S := S) (z := .bool true) (ds := [.int (a.1 : Int), .int (a.2 : Int)]) (fun d hd => by
      simp only [List.mem_cons, List.not_mem_nil, or_false] at hd
      rcases hd with rfl | rfl
      · exact ⟨_, rfl, by simp [w1]⟩
      · exact ⟨_, rfl, by simp [w2]⟩)
    have f := all_true r2
    refine ⟨_, rfl, ?_⟩
    generalize mixD n ts as = M at *
    generalize tieD a = T at *
    simp [e1, hq, r1, f])
  obtain ⟨ys, r1, r2⟩ := comp_k (t := .tup [5, 6]) (de := (d2 fLt (dVar 5) (dVar 6))) (ρ := [some (mixD n ts as), some (.int (n : Int)), some (.tuple (ts.map tieD)), some (.tuple (as.map tieD)), none, none, none, none, none, none]) (S := S) (z := .bool true) (ds := (as.zip (as.drop 1)).map fun a => PyData.tuple [tieD a.1, tieD a.2]) (fun d hd => by
    obtain ⟨z, hz, rfl⟩ := List.mem_map.mp hd
    refine ⟨[some (mixD n ts as), some (.int (n : Int)), some (.tuple (ts.map tieD)), some (.tuple (as.map tieD)), none, some (tieD z.1), some (tieD z.2), none, none, none], rfl, ?_⟩
    have := fLt_tie (zip_next m.up z hz)
    generalize tieD z.1 = A at *
    generalize tieD z.2 = B at *
    simp [this])
  obtain ⟨us, v1, v2⟩ := comp_k (t := .tup [7, 8]) (de := (dOrV (d2 fEq (dVar 7) (dVar 8)) (dOrV (d2 (fIn false) (dTup (dCons (d2 fMin2 (dVar 7) (dVar 8)) (dCons (d2 fMax2 (dVar 7) (dVar 8)) (dNil)))) (dVar 2)) (d2 (fIn false) (dTup (dCons (dVar 8) (dCons (dVar 7) (dNil)))) (dVar 3))))) (ρ := [some (mixD n ts as), some (.int (n : Int)), some (.tuple (ts.map tieD)), some (.tuple (as.map tieD)), none, none, none, none, none, none]) (S := S) (z := .bool false) (ds := as.map tieD) (fun d hd => by
    obtain ⟨a, ha, rfl⟩ := List.mem_map.mp hd
    refine ⟨[some (mixD n ts as), some (.int (n : Int)), some (.tuple (ts.map tieD)), some (.tuple (as.map tieD)), none, none, none, some (natD a.1), some (natD a.2), none], rfl, ?_⟩
    have e1 := eq_nats a.1 a.2
    rw [decide_eq_false (m.lt a ha).1] at e1
    obtain ⟨g1, g2⟩ := m.anti a ha
    have e2 := in_tiesT false (min a.1 a.2, max a.1 a.2) ts
    rw [if_neg (by decide), decide_eq_false g2] at e2
    have e3 := in_tiesT false (a.2, a.1) as
    rw [if_neg (by decide), decide_eq_false g1] at e3
    have e4 := min_nats a.1 a.2
    have e5 := max_nats a.1 a.2
    have t1 : PyData.tuple [natD (min a.1 a.2), natD (max a.1 a.2)] = tieD (min a.1 a.2, max a.1 a.2) := rfl
    have t2 : PyData.tuple [natD a.2, natD a.1] = tieD (a.2, a.1) := rfl
    rw [← t1] at e2
    rw [← t2] at e3
    generalize natD (min a.1 a.2) = MN at *
    generalize natD (max a.1 a.2) = MX at *
    generalize natD a.1 = A at *
    generalize natD a.2 = B at *
    simp [e1, e2, e3, e4, e5, sz_small])
  have hz : fZip (.tuple (as.map tieD)) (.tuple ((as.drop 1).map tieD)) = some ((as.zip (as.drop 1)).map fun a => PyData.tuple [tieD a.1, tieD a.2]) := by
    show some (zipD _ _) = _
    rw [zipD_t]
  have hs : fSl (.tuple (as.map tieD)) (some 1) none = some (.tuple ((as.drop 1).map tieD)) := by
    rw [slT, show (1 : Int) = ((1 : Nat) : Int) from rfl, cutA_drop, List.map_drop]
  have s1 : fSl (mixD n ts as) none (some 2) = some (webD n ts) := by
    unfold mixD
    rw [slT, show (2 : Int) = ((2 : Nat) : Int) from rfl, cutA_take]
    rfl
  exact mix_step (N := .none) (A := .none) (is_sized_ok S) s1 (is_web_ok m.w S) ixT_0 (by omega) ixT_2 rfl rfl rfl q1 (all_true q2) hs hz r1 (all_true r2) v1 (any_false v2)
theorem check_within_ok {n : Nat} {ts as : List Tie} {k : Nat} (m : MixOk n ts as) (hk : 1 ≤ k) (hk8 : k ≤ 8) (S : Store) : d_check_within [mixD n ts as, natD k] S = .ok .none S := by
  have h1 : d_check_mixed [mixD n ts as] S = .ok .none S := by
    have := is_mixed_ok m S
    unfold d_check_mixed dFn b_check_mixed env0
    simp [this, RS.fin]
  have h2 : d_is_within [natD k, .int 1, .int 8] S = .ok (.bool true) S := by
    show d_is_within [.int (k : Int), .int 1, .int 8] S = _
    rw [is_within_ok, decide_eq_true (by omega), decide_eq_true (by omega)]
    rfl
  unfold d_check_within dFn b_check_within env0
  generalize mixD n ts as = M at *
  generalize natD k = K at *
  simp [h1, h2, RS.fin]
end K92
namespace K92
open PySem PySem.Spec PyProof.Rows L2 PD
/-! ### names drawn -/
def nmb : DS := (dAppPop 3 2 (dCall d__law_draw (dCons dSt (dCons (d1 fLen (dVar 2)) (dNil)))))
theorem erase_map {α β : Type} (f : α → β) : ∀ (L : List α) (i : Nat), (L.map f).eraseIdx i = (L.eraseIdx i).map f
  | [], _ => rfl
  | a :: L, 0 => rfl
  | a :: L, i + 1 => by
    show f a :: (L.map f).eraseIdx i = f a :: (L.eraseIdx i).map f
    rw [erase_map f L i]
theorem erase_perm {α : Type} : ∀ (L : List α) (i : Nat) (h : i < L.length), (L[i] :: L.eraseIdx i).Perm L
  | [], i, h => absurd h (Nat.not_lt_zero _)
  | a :: L, 0, h => List.Perm.refl _
  | a :: L, i + 1, h => by
    show (L[i]'(by simpa using h) :: a :: L.eraseIdx i).Perm (a :: L)
    exact (List.Perm.swap a _ _).trans ((erase_perm L i (by simpa using h)).cons a)
theorem pop_at {L : List Nat} {i : Nat} (h : i < L.length) (hl : L.length < 1000) : fPopAt (L.map natD) (i : Int) = some (natD L[i], (L.eraseIdx i).map natD) := by
  unfold fPopAt
  rw [cR_small (by omega) (by omega), if_pos rfl]
  have e : seqIndex? (i : Int) (L.map natD).length = some i := by
    unfold seqIndex?
    have h0 : ¬ ((i : Int) < 0) := by omega
    simp only [h0, if_false]
    rw [if_pos]
    · simp
    · rw [List.length_map]
      simp
      omega
  rw [e, Option.bind_some, List.getElem?_map, List.getElem?_eq_getElem h]
  show some (natD L[i], (L.map natD).eraseIdx i) = _
  rw [erase_map]
theorem nmb_step {N F' : PyData} {fs ls : List PyData} {y : PyData} {ls' : List PyData} {z : Int} {o4 : Option PyData} {S S' : Store} (hd : d__law_draw [.none, .int (ls.length : Nat)] S = .ok (.int z) S') (hp : fPopAt ls z = some (y, ls')) (ha : fApp fs y = some F') :
    nmb [some .none, some N, some (.list ls), some (.list fs), o4] S = .nx [some .none, some N, some (.list ls'), some F', o4] S' := by
  unfold nmb dAppPop
  simp [onLst, putO, hd, hp, ha]
theorem names_ok {n : Nat} (h1 : 1 ≤ n) (h5 : n ≤ 5) {S : Store} (hS : TapeOk S) : ∃ (nm : List Nat) (S' : Store), d__law_names [.none, natD n] S = .ok (.tuple (nm.map natD)) S' ∧ TapeOk S' ∧ nm.Perm (List.range n) := by
  obtain ⟨ρ', S', q, hS', L, F, o4, rfl, hp, hF⟩ := for_n (t := .nm 4) (body := nmb) (I := fun j ρ S => TapeOk S ∧ ∃ (L F : List Nat) (o4 : Option PyData), ρ = [some .none, some (natD n), some (.list (L.map natD)), some (.list (F.map natD)), o4] ∧ (F ++ L).Perm (List.range n) ∧ F.length = j) (ds := rngD 0 (n : Int).toNat) (k := 0)
    (ρ := [some .none, some (natD n), some (.list ((List.range n).map natD)), some (.list []), none]) (S := S) ⟨hS, List.range n, [], none, rfl, List.Perm.refl _, rfl⟩ (by
    rintro j d hd ρ S ⟨hS, L, F, o4, rfl, hp, hF⟩
    obtain ⟨rfl, hj⟩ := rngD_get hd
    rw [Int.toNat_natCast] at hj
    rw [Nat.zero_add] at *
    have hlen := hp.length_eq
    rw [List.length_append, List.length_range] at hlen
    obtain ⟨r, S2, e1, hS2, r0, r1⟩ := draw_ok (n := (L.length : Int)) hS (by omega) (by omega)
    obtain ⟨i, rfl⟩ : ∃ i : Nat, r = i := ⟨r.toNat, by omega⟩
    have hi : i < L.length := by omega
    have e1' : d__law_draw [.none, .int ((L.map natD).length : Nat)] S = .ok (.int (i : Int)) S2 := by rw [List.length_map]; exact e1
    have ha := fApp_ok (xs := F.map natD) (d := natD L[i]) (by rw [List.length_map]; omega)
    have h := nmb_step (N := natD n) (o4 := some (natD j)) e1' (pop_at hi (by omega)) ha
    rw [show (0 : Int) + (j : Int) = (j : Int) by omega]
    refine ⟨_, rfl, _, S2, h, hS2, L.eraseIdx i, F ++ [L[i]], some (natD j), by rw [List.map_append]; rfl, ?_, by rw [List.length_append, List.length_singleton, hF]⟩
    refine List.Perm.trans ?_ hp
    rw [List.append_assoc]
    exact List.Perm.append_left F (erase_perm L i hi))
  rw [rngD_len, Nat.zero_add, Int.toNat_natCast] at hF
  have hl0 : L = [] := by
    have hlen := hp.length_eq
    rw [List.length_append, List.length_range] at hlen
    exact List.length_eq_zero_iff.mp (by omega)
  subst hl0
  rw [List.append_nil] at hp
  refine ⟨F, S', ?_, hS', hp⟩
  have step : ∀ (nn : Int) (fs : List PyData) (X : PyData), fLR (.int nn) = some X → cR nn = true → sz nn.toNat = true → forL (.nm 4) nmb (rngD 0 nn.toNat) [some .none, some (.int nn), some X, some (.list []), none] S = .nx [some .none, some (.int nn), some (.list []), some (.list fs), o4] S' → d__law_names [.none, .int nn] S = .ok (.tuple fs) S' := by
    intro nn fs X hX c1 c2 q
    have ht : fTuple (.list fs) = some (.tuple fs) := rfl
    unfold d__law_names dFn b__law_names env0
    change PD.RS.fin _ (dSeq (dPar [2, 3] (dCons (d1 fLR (dVar 1)) (dCons (dLst (dNil)) (dNil)))) (dSeq (dFor (dRng1 (dVar 1)) (.nm 4) nmb) (dRet (d1 fTuple (dVar 3)))) _ _) = _
    generalize nmb = bd at *
    simp [hX, c1, c2, q, ht, setAll, sz_small, RS.fin]
  refine step (n : Int) _ (.list ((List.range n).map natD)) ?_ (cR_small (by omega) (by omega)) (sz_small (by omega)) q
  show (if (cR (n : Int) && sz (n : Int).toNat) = true then some (PyData.list (rngD 0 (n : Int).toNat)) else none) = _
  rw [cR_small (by omega) (by omega), sz_small (by omega), Int.toNat_natCast, rngD0]
  rfl
end K92
namespace K92
open PySem PySem.Spec PyProof.Rows L2 PD
/-! ### arrows drawn -/
def mib : DS := (dIfS (dAnd (dTest (d2 (fIn true) (dTup (dCons (dVar 6) (dCons (dVar 7) (dNil)))) (d2 fIx (dVar 2) (dC (.int 1))))) (dTest (d2 fEq (dCall d__law_draw (dCons dSt (dCons (dC (.int 3)) (dNil)))) (dC (.int 0))))) (dApp 4 (dIfE (dAnd (dTest (dVar 5)) (dTest (d2 fEq (dCall d__law_draw (dCons dSt (dCons (dC (.int 2)) (dNil)))) (dC (.int 0))))) (dTup (dCons (dVar 7) (dCons (dVar 6) (dNil)))) (dTup (dCons (dVar 6) (dCons (dVar 7) (dNil)))))) (dNx))
def nrm (p : Tie) : Tie := (min p.1 p.2, max p.1 p.2)
theorem fEq_zero (z : Int) : fEq (.int z) (.int 0) = some (.bool (decide (z = 0))) := rfl
theorem mib_turn {n : Nat} {ts A : List Tie} {wd : Bool} {a b : Nat} {MO : PyData} {S : Store} (hS : TapeOk S) (hA : A.length < 1000) :
    ∃ (A' : List Tie) (S' : Store), mib [some .none, some MO, some (webD n ts), some (natD n), some (.list (A.map tieD)), some (.bool wd), some (natD a), some (natD b), none, none] S = .nx [some .none, some MO, some (webD n ts), some (natD n), some (.list (A'.map tieD)), some (.bool wd), some (natD a), some (natD b), none, none] S' ∧ TapeOk S' ∧ (A' = A ∨ ∃ p, A' = A ++ [p] ∧ (p = (a, b) ∨ p = (b, a)) ∧ (a, b) ∉ ts) := by
  have i1 : fIx (webD n ts) (.int 1) = some (.tuple (ts.map tieD)) := ixT_1
  have hin := in_tiesT true (a, b) ts
  rw [if_pos rfl] at hin
  have t1 : PyData.tuple [natD a, natD b] = tieD (a, b) := rfl
  have t2 : PyData.tuple [natD b, natD a] = tieD (b, a) := rfl
  rw [← t1] at hin
  by_cases hm : (a, b) ∈ ts
  · rw [decide_eq_true hm] at hin
    refine ⟨A, S, ?_, hS, .inl rfl⟩
    unfold mib
    generalize webD n ts = W at *
    generalize natD a = X at *
    generalize natD b = Y at *
    simp [i1, hin, sz_small]
  · rw [decide_eq_false hm] at hin
    obtain ⟨z, S1, e1, hS1, _, _⟩ := draw_ok (n := 3) hS (by decide) (by decide)
    by_cases hz : z = 0
    · subst hz
      have ha1 := fApp_ok (xs := A.map tieD) (d := tieD (a, b)) (by rw [List.length_map]; omega)
      have ha2 := fApp_ok (xs := A.map tieD) (d := tieD (b, a)) (by rw [List.length_map]; omega)
      rw [← t1] at ha1
      rw [← t2] at ha2
      cases wd with
      | false =>
        refine ⟨A ++ [(a, b)], S1, ?_, hS1, .inr ⟨_, rfl, .inl rfl, hm⟩⟩
        rw [List.map_append, List.map_singleton, ← t1]
        unfold mib
        generalize webD n ts = W at *
        generalize natD a = X at *
        generalize natD b = Y at *
        simp [i1, hin, e1, onLst, putO, ha1, sz_small]
      | true =>
        obtain ⟨y, S2, e2, hS2, _, _⟩ := draw_ok (n := 2) hS1 (by decide) (by decide)
        by_cases hy : y = 0
        · subst hy
          refine ⟨A ++ [(b, a)], S2, ?_, hS2, .inr ⟨_, rfl, .inr rfl, hm⟩⟩
          rw [List.map_append, List.map_singleton, ← t2]
          unfold mib
          generalize webD n ts = W at *
          generalize natD a = X at *
          generalize natD b = Y at *
          simp [i1, hin, e1, e2, onLst, putO, ha2, sz_small]
        · refine ⟨A ++ [(a, b)], S2, ?_, hS2, .inr ⟨_, rfl, .inl rfl, hm⟩⟩
          rw [List.map_append, List.map_singleton, ← t1]
          unfold mib
          generalize webD n ts = W at *
          generalize natD a = X at *
          generalize natD b = Y at *
          simp [i1, hin, e1, e2, hy, onLst, putO, ha1, sz_small]
    · refine ⟨A, S1, ?_, hS1, .inl rfl⟩
      unfold mib
      generalize webD n ts = W at *
      generalize natD a = X at *
      generalize natD b = Y at *
      simp [i1, hin, e1, hz, sz_small]
structure ArrOk (n : Nat) (ts A : List Tie) : Prop where
  lt : ∀ p ∈ A, p.1 ≠ p.2 ∧ p.1 < n ∧ p.2 < n ∧ nrm p ∉ ts
  up : (A.map nrm).Pairwise tieLt
theorem ArrOk.add {n : Nat} {ts A : List Tie} {a b : Nat} {p : Tie} (h : ArrOk n ts A) (hab : a < b) (hb : b < n) (hp : p = (a, b) ∨ p = (b, a)) (hm : (a, b) ∉ ts) (hl : ∀ q ∈ A, tieLt (nrm q) (a, b)) : ArrOk n ts (A ++ [p]) := by
  have hn : nrm p = (a, b) := by
    unfold nrm
    rcases hp with rfl | rfl
    · exact Prod.ext (show min a b = a by omega) (show max a b = b by omega)
    · exact Prod.ext (show min b a = a by omega) (show max b a = b by omega)
  refine ⟨fun q hq => ?_, ?_⟩
  · rcases List.mem_append.mp hq with hq | hq
    · exact h.lt q hq
    · rw [List.mem_singleton.mp hq, hn]
      refine ⟨?_, ?_, ?_, hm⟩ <;> rcases hp with rfl | rfl <;> dsimp only <;> omega
  · rw [List.map_append, List.map_singleton, List.pairwise_append]
    refine ⟨h.up, List.pairwise_singleton _ _, fun x hx y hy => ?_⟩
    obtain ⟨q, hq, rfl⟩ := List.mem_map.mp hx
    rw [List.mem_singleton.mp hy, hn]
    exact hl q hq
def mob : DS := (dFor (dRng2 (d2 fAdd (dVar 6) (dC (.int 1))) (dVar 3)) (.nm 7) mib)
theorem mob_step {MO W F F' WD : PyData} {aa nn : Int} {o7 o7' : Option PyData} {S S' : Store} (c1 : cR (aa + 1) = true) (c2 : cR nn = true) (c3 : sz (nn - (aa + 1)).toNat = true)
    (q : forL (.nm 7) mib (rngD (aa + 1) (nn - (aa + 1)).toNat) [some .none, some MO, some W, some (.int nn), some F, some WD, some (.int aa), o7, none, none] S = .nx [some .none, some MO, some W, some (.int nn), some F', some WD, some (.int aa), o7', none, none] S') :
    mob [some .none, some MO, some W, some (.int nn), some F, some WD, some (.int aa), o7, none, none] S = .nx [some .none, some MO, some W, some (.int nn), some F', some WD, some (.int aa), o7', none, none] S' := by
  unfold mob
  generalize mib = bd at *
  simp [c1, c2, c3, q]
theorem mob_turn {n : Nat} {ts A : List Tie} {wd : Bool} {a : Nat} {MO : PyData} {o7 : Option PyData} {S : Store} (hS : TapeOk S) (h : ArrOk n ts A) (ha : a < n) (hn : n ≤ 5) (hA : A.length ≤ 5 * a) (hl : ∀ q ∈ A, (nrm q).1 < a) :
    ∃ (A' : List Tie) (o7' : Option PyData) (S' : Store), mob [some .none, some MO, some (webD n ts), some (natD n), some (.list (A.map tieD)), some (.bool wd), some (natD a), o7, none, none] S = .nx [some .none, some MO, some (webD n ts), some (natD n), some (.list (A'.map tieD)), some (.bool wd), some (natD a), o7', none, none] S' ∧ TapeOk S' ∧ ArrOk n ts A' ∧ A'.length ≤ 5 * (a + 1) ∧ ∀ q ∈ A', (nrm q).1 < a + 1 := by
  have hlen : (rngD ((a : Int) + 1) ((n : Int) - ((a : Int) + 1)).toNat).length = n - (a + 1) := by rw [rngD_len]; omega
  obtain ⟨ρ', S', q, hS', A', o7', rfl, hA', hL', hl'⟩ := for_n (t := .nm 7) (body := mib) (I := fun i ρ S => TapeOk S ∧ ∃ (A' : List Tie) (o7 : Option PyData), ρ = [some .none, some MO, some (webD n ts), some (natD n), some (.list (A'.map tieD)), some (.bool wd), some (natD a), o7, none, none] ∧ ArrOk n ts A' ∧ A'.length ≤ 5 * a + i ∧ ∀ q ∈ A', tieLt (nrm q) (a, a + 1 + i))
    (ds := rngD ((a : Int) + 1) ((n : Int) - ((a : Int) + 1)).toNat) (k := 0) (ρ := [some .none, some MO, some (webD n ts), some (natD n), some (.list (A.map tieD)), some (.bool wd), some (natD a), o7, none, none]) (S := S) ⟨hS, A, o7, rfl, h, by omega, fun q hq => .inl (hl q hq)⟩ (by
    rintro i d hd ρ S ⟨hS, A', o7, rfl, hA', hL, hl⟩
    obtain ⟨rfl, hi⟩ := rngD_get hd
    have hb : a + 1 + i < n := by omega
    rw [Nat.zero_add] at *
    rw [show ((a : Int) + 1 + (i : Int)) = ((a + 1 + i : Nat) : Int) by omega]
    obtain ⟨A2, S2, e, hS2, hor⟩ := mib_turn (n := n) (ts := ts) (A := A') (wd := wd) (a := a) (b := a + 1 + i) (MO := MO) hS (by omega)
    refine ⟨_, rfl, _, S2, e, hS2, A2, some (natD (a + 1 + i)), rfl, ?_⟩
    rcases hor with rfl | ⟨p, rfl, hp, hm⟩
    · exact ⟨hA', by omega, fun q hq => by
        have := hl q hq
        unfold tieLt at *
        dsimp only at *
        omega⟩
    · refine ⟨hA'.add (by omega) hb hp hm hl, by rw [List.length_append, List.length_singleton]; omega, fun q hq => ?_⟩
      rcases List.mem_append.mp hq with hq | hq
      · have := hl q hq
        unfold tieLt at *
        dsimp only at *
        omega
      · rw [List.mem_singleton.mp hq]
        unfold tieLt nrm
        rcases hp with rfl | rfl <;> dsimp only <;> omega)
  rw [hlen] at hL' hl'
  refine ⟨A', o7', S', ?_, hS', hA', by omega, fun q hq => ?_⟩
  · exact mob_step (cR_small (by omega) (by omega)) (cR_small (by omega) (by omega)) (sz_small (by omega)) q
  · have := hl' q hq
    unfold tieLt at this
    dsimp only at this
    omega
end K92
namespace K92
open PySem PySem.Spec PyProof.Rows L2 PD
/-! ### a drawn mixed web is one -/
theorem nrm_eq {p q : Tie} (h : nrm p = nrm q) : (p.1 = q.1 ∧ p.2 = q.2) ∨ (p.1 = q.2 ∧ p.2 = q.1) := by
  have h1 : min p.1 p.2 = min q.1 q.2 := congrArg Prod.fst h
  have h2 : max p.1 p.2 = max q.1 q.2 := congrArg Prod.snd h
  omega
structure NmOk (n : Nat) (f : Nat → Nat) : Prop where
  lt : ∀ i, i < n → f i < n
  inj : ∀ i j, i < n → j < n → f i = f j → i = j
theorem nm_ok {n : Nat} {nm : List Nat} (hp : nm.Perm (List.range n)) : NmOk n fun i => nm.getD i 0 := by
  have hl : nm.length = n := by rw [hp.length_eq, List.length_range]
  have hn : nm.Nodup := hp.nodup_iff.mpr List.nodup_range
  have e : ∀ i (h : i < n), nm.getD i 0 = nm[i]'(by omega) := fun i h => by rw [List.getD_eq_getElem?_getD, List.getElem?_eq_getElem (by omega)]; rfl
  refine ⟨fun i hi => ?_, fun i j hi hj he => ?_⟩
  · rw [e i hi]
    exact List.mem_range.mp (hp.mem_iff.mp (List.getElem_mem _))
  · rw [e i hi, e j hj] at he
    exact (List.getElem_inj hn).mp he
def renT (f : Nat → Nat) (t : Tie) : Tie := nrm (f t.1, f t.2)
def renA (f : Nat → Nat) (t : Tie) : Tie := (f t.1, f t.2)
theorem mix_ren {n : Nat} {ts A : List Tie} {f : Nat → Nat} (w : WebOk n ts) (h5 : n ≤ 5) (hA : ArrOk n ts A) (hl : A.length ≤ 100) (hf : NmOk n f) : MixOk n (sortT (ts.map (renT f))) (sortT (A.map (renA f))) := by
  have nt : (ts.map (renT f)).Nodup := by
    unfold List.Nodup
    rw [List.pairwise_map]
    refine List.Pairwise.imp_of_mem (fun {a b} ha hb hab he => ?_) w.up
    have ha := w.lt a ha
    have hb := w.lt b hb
    unfold tieLt at hab
    rcases nrm_eq he with ⟨h1, h2⟩ | ⟨h1, h2⟩
    · have := hf.inj _ _ (by omega) (by omega) h1
      have := hf.inj _ _ (by omega) (by omega) h2
      omega
    · have := hf.inj _ _ (by omega) (by omega) h1
      have := hf.inj _ _ (by omega) (by omega) h2
      omega
  have key : ∀ a ∈ A, ∀ b ∈ A, nrm a = nrm b → a = b := by
    have hn := up_nodup hA.up
    intro a ha b hb he
    obtain ⟨i, hi, rfl⟩ := List.mem_iff_getElem.mp ha
    obtain ⟨j, hj, rfl⟩ := List.mem_iff_getElem.mp hb
    have : (A.map nrm)[i]'(by simpa using hi) = (A.map nrm)[j]'(by simpa using hj) := by rw [List.getElem_map, List.getElem_map]; exact he
    have := (List.getElem_inj hn).mp this
    subst this
    rfl
  have na : (A.map (renA f)).Nodup := by
    unfold List.Nodup
    rw [List.pairwise_map]
    have hu := hA.up
    rw [List.pairwise_map] at hu
    refine List.Pairwise.imp_of_mem (fun {a b} ha hb hab he => ?_) hu
    obtain ⟨_, a1, a2, _⟩ := hA.lt a ha
    obtain ⟨_, b1, b2, _⟩ := hA.lt b hb
    have e1 := hf.inj _ _ a1 b1 (congrArg Prod.fst he)
    have e2 := hf.inj _ _ a2 b2 (congrArg Prod.snd he)
    have e : a = b := Prod.ext e1 e2
    subst e
    exact tieLt_asym hab hab
  have mt : ∀ p, p ∈ sortT (ts.map (renT f)) ↔ ∃ t ∈ ts, renT f t = p := fun p => by rw [(sortT_perm _).mem_iff, List.mem_map]
  have ma : ∀ p, p ∈ sortT (A.map (renA f)) ↔ ∃ t ∈ A, renA f t = p := fun p => by rw [(sortT_perm _).mem_iff, List.mem_map]
  refine ⟨⟨w.lo, w.hi, by rw [(sortT_perm _).length_eq, List.length_map]; exact w.few, fun p hp => ?_, sortT_up nt⟩, h5, fun p hp => ?_, sortT_up na, by rw [(sortT_perm _).length_eq, List.length_map]; exact hl, fun p hp => ⟨fun hq => ?_, fun hq => ?_⟩⟩
  · obtain ⟨t, ht, rfl⟩ := (mt p).mp hp
    obtain ⟨h1, h2⟩ := w.lt t ht
    have l1 := hf.lt t.1 (by omega)
    have l2 := hf.lt t.2 h2
    have ne : f t.1 ≠ f t.2 := fun e => by have := hf.inj _ _ (by omega) h2 e; omega
    unfold renT nrm
    dsimp only
    omega
  · obtain ⟨t, ht, rfl⟩ := (ma p).mp hp
    obtain ⟨h0, h1, h2, _⟩ := hA.lt t ht
    exact ⟨fun e => h0 (hf.inj _ _ h1 h2 e), hf.lt _ h1, hf.lt _ h2⟩
  · obtain ⟨t, ht, rfl⟩ := (ma p).mp hp
    obtain ⟨t', ht', he⟩ := (ma _).mp hq
    obtain ⟨h0, h1, h2, _⟩ := hA.lt t ht
    obtain ⟨_, h1', h2', _⟩ := hA.lt t' ht'
    have e1 := hf.inj _ _ h1' h2 (congrArg Prod.fst he)
    have e2 := hf.inj _ _ h2' h1 (congrArg Prod.snd he)
    have e := key t ht t' ht' (by
      unfold nrm
      exact Prod.ext (show min t.1 t.2 = min t'.1 t'.2 by omega) (show max t.1 t.2 = max t'.1 t'.2 by omega))
    subst e
    exact h0 e1
  · obtain ⟨t, ht, rfl⟩ := (ma p).mp hp
    obtain ⟨h0, h1, h2, h3⟩ := hA.lt t ht
    obtain ⟨u, hu, he⟩ := (mt _).mp hq
    obtain ⟨u1, u2⟩ := w.lt u hu
    have he : nrm (f u.1, f u.2) = nrm (f t.1, f t.2) := he
    refine h3 ?_
    have : nrm t = u := by
      unfold nrm
      rcases nrm_eq he with ⟨e1, e2⟩ | ⟨e1, e2⟩
      · have e1 := hf.inj _ _ (by omega) h1 e1
        have e2 := hf.inj _ _ u2 h2 e2
        exact Prod.ext (show min t.1 t.2 = u.1 by omega) (show max t.1 t.2 = u.2 by omega)
      · have e1 := hf.inj _ _ (by omega) h2 e1
        have e2 := hf.inj _ _ u2 h1 e2
        exact Prod.ext (show min t.1 t.2 = u.1 by omega) (show max t.1 t.2 = u.2 by omega)
    rw [this]
    exact hu
end K92
namespace K92
open PySem PySem.Spec PyProof.Rows L2 PD
def deT : DE := (dTup (dCons (d2 fMin2 (d2 fIx (dVar 8) (dVar 6)) (d2 fIx (dVar 8) (dVar 7))) (dCons (d2 fMax2 (d2 fIx (dVar 8) (dVar 6)) (d2 fIx (dVar 8) (dVar 7))) (dNil))))
def deA : DE := (dTup (dCons (d2 fIx (dVar 8) (dVar 6)) (dCons (d2 fIx (dVar 8) (dVar 7)) (dNil))))
theorem mixed_fin {MO W NM TSd F X1 X2 : PyData} {nn z : Int} {ts0 as0 l1 l2 : List PyData} {o6 o7 : Option PyData} {S S1 S2 S3 S4 : Store} (h1 : d__law_web [.none, MO] S = .ok W S1) (i0 : fIx W (.int 0) = some (.int nn)) (h2 : d__law_draw [.none, .int 4] S1 = .ok (.int z) S2) (b1 : cR nn = true) (b2 : sz nn.toNat = true)
    (q : forL (.nm 6) mob (rngD 0 nn.toNat) [some .none, some MO, some W, some (.int nn), some (.list []), some (.bool (decide (z = 0))), none, none, none, none] S2 = .nx [some .none, some MO, some W, some (.int nn), some F, some (.bool (decide (z = 0))), o6, o7, none, none] S3) (h3 : d__law_names [.none, .int nn] S3 = .ok NM S4)
    (i1 : fIx W (.int 1) = some TSd) (s1 : seqD TSd = some ts0) (c1 : compL (.tup [6, 7]) dYes deT [some .none, some MO, some W, some (.int nn), some F, some (.bool (decide (z = 0))), o6, o7, some NM, none] [] ts0 S4 = .ok X1 S4) (f1 : fSort X1 = some (.list l1)) (s2 : lstD F = some as0)
    (c2 : compL (.tup [6, 7]) dYes deA [some .none, some MO, some W, some (.int nn), some F, some (.bool (decide (z = 0))), o6, o7, some NM, some (.tuple l1)] [] as0 S4 = .ok X2 S4) (f2 : fSort X2 = some (.list l2)) :
    d__law_mixed [.none, MO] S = .ok (.tuple [.int nn, .tuple l1, .tuple l2]) S4 := by
  have t1 : fTuple (.list l1) = some (.tuple l1) := rfl
  have t2 : fTuple (.list l2) = some (.tuple l2) := rfl
  have hz := fEq_zero z
  unfold d__law_mixed dFn b__law_mixed env0
  change PD.RS.fin _ (dSeq (dSet 2 (dCall d__law_web (dCons dSt (dCons (dVar 1) (dNil))))) (dSeq (dPar [3, 4, 5] (dCons (d2 fIx (dVar 2) (dC (.int 0))) (dCons (dLst (dNil)) (dCons (d2 fEq (dCall d__law_draw (dCons dSt (dCons (dC (.int 4)) (dNil)))) (dC (.int 0))) (dNil))))) (dSeq (dFor (dRng1 (dVar 3)) (.nm 6) mob) (dSeq (dSet 8 (dCall d__law_names (dCons dSt (dCons (dVar 3) (dNil))))) (dSeq (dSet 9 (d1 fTuple (d1 fSort (dComp (dIt seqD (d2 fIx (dVar 2) (dC (.int 1)))) (.tup [6, 7]) (dYes) deT)))) (dRet (dTup (dCons (dVar 3) (dCons (dVar 9) (dCons (d1 fTuple (d1 fSort (dComp (dIt lstD (dVar 4)) (.tup [6, 7]) (dYes) deA))) (dNil)))))))))) _ _) = _
  generalize mob = bd at *
  generalize deT = e1 at *
  generalize deA = e2 at *
  simp [h1, i0, h2, b1, b2, q, h3, i1, s1, c1, f1, s2, c2, f2, t1, t2, hz, setAll, sz_small, RS.fin]
theorem law_mixed_ok {S : Store} (hS : TapeOk S) : ∃ (n : Nat) (ts as : List Tie) (S' : Store), d__law_mixed [.none, .int 5] S = .ok (mixD n ts as) S' ∧ TapeOk S' ∧ MixOk n ts as := by
  obtain ⟨n, ts, S1, e1, hS1, w, h5⟩ := web_ok hS
  obtain ⟨z, S2, e2, hS2, _, _⟩ := draw_ok (n := 4) hS1 (by decide) (by decide)
  have h1 := w.lo
  obtain ⟨ρ', S3, q, hS3, A, o6, o7, rfl, hA, hl, _⟩ := for_n (t := .nm 6) (body := mob) (I := fun j ρ S => TapeOk S ∧ ∃ (A : List Tie) (o6 o7 : Option PyData), ρ = [some .none, some (.int 5), some (webD n ts), some (natD n), some (.list (A.map tieD)), some (.bool (decide (z = 0))), o6, o7, none, none] ∧ ArrOk n ts A ∧ A.length ≤ 5 * j ∧ ∀ q ∈ A, (nrm q).1 < j) (ds := rngD 0 (n : Int).toNat) (k := 0)
    (ρ := [some .none, some (.int 5), some (webD n ts), some (natD n), some (.list []), some (.bool (decide (z = 0))), none, none, none, none]) (S := S2) ⟨hS2, [], none, none, rfl, ⟨fun p hp => (by cases hp), List.Pairwise.nil⟩, by simp, fun q hq => (by cases hq)⟩ (by
    rintro j d hd ρ S ⟨hS, A, o6, o7, rfl, hA, hl, hq⟩
    obtain ⟨rfl, hj⟩ := rngD_get hd
    rw [Int.toNat_natCast] at hj
    rw [Nat.zero_add] at *
    rw [show (0 : Int) + (j : Int) = (j : Int) by omega]
    obtain ⟨A', o7', S', e, hS', hA', hl', hq'⟩ := mob_turn (MO := .int 5) (wd := decide (z = 0)) (o7 := o7) hS hA hj h5 hl hq
    exact ⟨_, rfl, _, S', e, hS', A', some (natD j), o7', rfl, hA', hl', hq'⟩)
  rw [rngD_len, Int.toNat_natCast] at hl
  obtain ⟨nm, S4, e3, hS4, hp⟩ := names_ok h1 h5 hS3
  have hnl : nm.length = n := by rw [hp.length_eq, List.length_range]
  have hf := nm_ok hp
  have c1 := comp_y (t := .tup [6, 7]) (de := deT) (ρ := [some .none, some (.int 5), some (webD n ts), some (natD n), some (.list (A.map tieD)), some (.bool (decide (z = 0))), o6, o7, some (rowD nm), none]) (S := S4) (e := tieD) (g := tieD) (f := renT fun i => nm.getD i 0) (xs := ts) (acc := []) fun t ht => ⟨[some .none, some (.int 5), some (webD n ts), some (natD n), some (.list (A.map tieD)), some (.bool (decide (z = 0))), some (natD t.1), some (natD t.2), some (rowD nm), none], rfl, by
    obtain ⟨l1, l2⟩ := w.lt t ht
    have a1 := fIx_row (x := nm) (v := t.1) (by omega)
    have a2 := fIx_row (x := nm) (v := t.2) (by omega)
    have a3 := min_nats (nm.getD t.1 0) (nm.getD t.2 0)
    have a4 := max_nats (nm.getD t.1 0) (nm.getD t.2 0)
    have a5 : tieD (renT (fun i => nm.getD i 0) t) = .tuple [natD (min (nm.getD t.1 0) (nm.getD t.2 0)), natD (max (nm.getD t.1 0) (nm.getD t.2 0))] := rfl
    rw [a5]
    generalize natD (min (nm.getD t.1 0) (nm.getD t.2 0)) = MN at *
    generalize natD (max (nm.getD t.1 0) (nm.getD t.2 0)) = MX at *
    generalize natD (nm.getD t.1 0) = X at *
    generalize natD (nm.getD t.2 0) = Y at *
    generalize natD t.1 = P at *
    generalize natD t.2 = Q at *
    generalize rowD nm = R at *
    unfold deT
    simp [a1, a2, a3, a4, sz_small]⟩
  rw [List.nil_append] at c1
  have c2 := comp_y (t := .tup [6, 7]) (de := deA) (ρ := [some .none, some (.int 5), some (webD n ts), some (natD n), some (.list (A.map tieD)), some (.bool (decide (z = 0))), o6, o7, some (rowD nm), some (.tuple ((sortT (ts.map (renT fun i => nm.getD i 0))).map tieD))]) (S := S4) (e := tieD) (g := tieD) (f := renA fun i => nm.getD i 0) (xs := A) (acc := []) fun t ht => ⟨[some .none, some (.int 5), some (webD n ts), some (natD n), some (.list (A.map tieD)), some (.bool (decide (z = 0))), some (natD t.1), some (natD t.2), some (rowD nm), some (.tuple ((sortT (ts.map (renT fun i => nm.getD i 0))).map tieD))], rfl, by
    obtain ⟨_, l1, l2, _⟩ := hA.lt t ht
    have a1 := fIx_row (x := nm) (v := t.1) (by omega)
    have a2 := fIx_row (x := nm) (v := t.2) (by omega)
    have a5 : tieD (renA (fun i => nm.getD i 0) t) = .tuple [natD (nm.getD t.1 0), natD (nm.getD t.2 0)] := rfl
    rw [a5]
    generalize natD (nm.getD t.1 0) = X at *
    generalize natD (nm.getD t.2 0) = Y at *
    generalize natD t.1 = P at *
    generalize natD t.2 = Q at *
    generalize rowD nm = R at *
    unfold deA
    simp [a1, a2, sz_small]⟩
  rw [List.nil_append] at c2
  refine ⟨n, _, _, S4, ?_, hS4, mix_ren w h5 hA (by omega) hf⟩
  exact mixed_fin e1 ixT_0 e2 (cR_small (by omega) (by omega)) (sz_small (by omega)) q e3 ixT_1 rfl c1 (sort_ties _) rfl c2 (sort_ties _)
end K92
namespace K92
open PySem PySem.Spec PyProof.Rows L2 PD
/-! ### what is no sheet -/
/-! ### the law -/
theorem ne_bools (b : Bool) : fNe (.bool b) (.bool b) = some (.bool false) := by cases b <;> rfl
/-- the last rows of a turn -/
theorem hand_ok {ns : List Int} (hl : ns.length ≤ 63) : d__law_hand [.list (ns.map .int)] [] = .ok (.list [.list ((ns.map fun i => if i < 0 then -i else i).map .int), .int 0, .int 0, .int (61 + 7 * ns.length), .int 0]) [] := by
  unfold d__law_hand dFn b__law_hand env0
  have hs : fSlL (.list (ns.map .int)) none (some 63) = some (.list (ns.map .int)) := by
    show some (PyData.list (cutA _ _ _)) = _
    rw [show (63 : Int) = ((63 : Nat) : Int) from rfl, cutA_take, List.take_of_length_le (by simpa using hl)]
  have hc := comp_map (t := .nm 2) (de := (d1 fAbs (d1 fInt (dVar 2)))) (ρ := [some (.list (ns.map .int)), none, none]) (S := []) (f := fun d => match d with | .int i => .int (if i < 0 then -i else i) | d => d) (ds := ns.map .int) (acc := []) (fun d hd => by
    obtain ⟨i, hi, rfl⟩ := List.mem_map.mp hd
    refine ⟨[some (.list (ns.map .int)), none, some (.int i)], rfl, ?_⟩
    have : fAbs (.int i) = some (.int (if i < 0 then -i else i)) := rfl
    simp [this])
  rw [List.nil_append, List.map_map] at hc
  have hl' : lstD (.list (ns.map .int)) = some (ns.map .int) := rfl
  have e : (ns.map ((fun d => match d with | .int i => PyData.int (if i < 0 then -i else i) | d => d) ∘ PyData.int)) = (ns.map fun i => if i < 0 then -i else i).map .int := by rw [List.map_map]; rfl
  rw [e] at hc
  have ht : fTimes (.int 7) (.int (ns.length : Nat)) = some (.int (7 * (ns.length : Nat))) := f_times (cMul_l (by decide) (by decide))
  simp [hs, hl', hc, ht, RS.fin]
theorem tape0 (ns : List Int) : TapeOk [[.list ((ns.map fun i => if i < 0 then -i else i).map .int), .int 0, .int 0, .int (61 + 7 * ns.length), .int 0]] :=
  ⟨_, 0, 0, _, 0, rfl, fun z hz => by
    obtain ⟨i, _, rfl⟩ := List.mem_map.mp hz
    split <;> omega, by omega⟩
/-! ### refusals -/
/-! words -/
/-! words -/
/-! ### refusals -/
def badL : List PyData := [.none, .tuple [], .int 0, .tuple [.int 2, .tuple []], .list [.int 2, .tuple [], .tuple []], .tuple [.int 0, .tuple [], .tuple []], .tuple [.int 8, .tuple [], .tuple []], .tuple [.int 2, .tuple [.tuple [.int 1, .int 0]], .tuple []], .tuple [.int 2, .tuple [], .tuple [.tuple [.int 0, .int 0]]], .tuple [.int 2, .tuple [], .tuple [.tuple [.int 0, .int 2]]], .tuple [.int 2, .tuple [.tuple [.int 0, .int 1]], .tuple [.tuple [.int 0, .int 1]]], .tuple [.int 2, .tuple [.tuple [.int 0, .int 1]], .tuple [.tuple [.int 1, .int 0]]], .tuple [.int 2, .tuple [], .tuple [.tuple [.int 0, .int 1], .tuple [.int 1, .int 0]]], .tuple [.int 2, .tuple [], .list [.tuple [.int 0, .int 1]]], .tuple [.int 3, .tuple [], .tuple [.tuple [.int 1, .int 2], .tuple [.int 0, .int 1]]]]
theorem bad_no {d : PyData} (h : d ∈ badL) (S : Store) : d_is_mixed [d] S = .ok (.bool false) S := by
  simp only [badL, List.mem_cons, List.not_mem_nil, or_false] at h
  rcases h with rfl | rfl | rfl | rfl | rfl | rfl | rfl | rfl | rfl | rfl | rfl | rfl | rfl | rfl | rfl <;> rfl
theorem no_mixed_ok {S : Store} (hS : TapeOk S) : ∃ d S', d__law_no_mixed [.none] S = .ok d S' ∧ TapeOk S' ∧ d ∈ badL := by
  obtain ⟨d, S', e, hS', hd⟩ := any_ok (xs := badL) hS (by simp [badL]) (show 15 < 2 ^ 62 by decide)
  refine ⟨d, S', ?_, hS', hd⟩
  have a1 : fAddL (.list [.none, .tuple [], .int 0, .tuple [.int 2, .tuple []], .list [.int 2, .tuple [], .tuple []], .tuple [.int 0, .tuple [], .tuple []], .tuple [.int 8, .tuple [], .tuple []], .tuple [.int 2, .tuple [.tuple [.int 1, .int 0]], .tuple []], .tuple [.int 2, .tuple [], .tuple [.tuple [.int 0, .int 0]]]]) (.list [.tuple [.int 2, .tuple [], .tuple [.tuple [.int 0, .int 2]]], .tuple [.int 2, .tuple [.tuple [.int 0, .int 1]], .tuple [.tuple [.int 0, .int 1]]], .tuple [.int 2, .tuple [.tuple [.int 0, .int 1]], .tuple [.tuple [.int 1, .int 0]]], .tuple [.int 2, .tuple [], .tuple [.tuple [.int 0, .int 1], .tuple [.int 1, .int 0]]]]) = some (.list [.none, .tuple [], .int 0, .tuple [.int 2, .tuple []], .list [.int 2, .tuple [], .tuple []], .tuple [.int 0, .tuple [], .tuple []], .tuple [.int 8, .tuple [], .tuple []], .tuple [.int 2, .tuple [.tuple [.int 1, .int 0]], .tuple []], .tuple [.int 2, .tuple [], .tuple [.tuple [.int 0, .int 0]]], .tuple [.int 2, .tuple [], .tuple [.tuple [.int 0, .int 2]]], .tuple [.int 2, .tuple [.tuple [.int 0, .int 1]], .tuple [.tuple [.int 0, .int 1]]], .tuple [.int 2, .tuple [.tuple [.int 0, .int 1]], .tuple [.tuple [.int 1, .int 0]]], .tuple [.int 2, .tuple [], .tuple [.tuple [.int 0, .int 1], .tuple [.int 1, .int 0]]]]) := rfl
  have a2 : fAddL (.list [.none, .tuple [], .int 0, .tuple [.int 2, .tuple []], .list [.int 2, .tuple [], .tuple []], .tuple [.int 0, .tuple [], .tuple []], .tuple [.int 8, .tuple [], .tuple []], .tuple [.int 2, .tuple [.tuple [.int 1, .int 0]], .tuple []], .tuple [.int 2, .tuple [], .tuple [.tuple [.int 0, .int 0]]], .tuple [.int 2, .tuple [], .tuple [.tuple [.int 0, .int 2]]], .tuple [.int 2, .tuple [.tuple [.int 0, .int 1]], .tuple [.tuple [.int 0, .int 1]]], .tuple [.int 2, .tuple [.tuple [.int 0, .int 1]], .tuple [.tuple [.int 1, .int 0]]], .tuple [.int 2, .tuple [], .tuple [.tuple [.int 0, .int 1], .tuple [.int 1, .int 0]]]]) (.list [.tuple [.int 2, .tuple [], .list [.tuple [.int 0, .int 1]]], .tuple [.int 3, .tuple [], .tuple [.tuple [.int 1, .int 2], .tuple [.int 0, .int 1]]]]) = some (.list badL) := rfl
  generalize badL = bl at *
  unfold d__law_no_mixed dFn b__law_no_mixed env0
  simp [sz_small, a1, a2, e, RS.fin]
def noMixed : Xc := ⟨"NoMixed", []⟩
def noCount : Xc := ⟨"NoCount", []⟩
theorem check_bad {d k : PyData} (h : d ∈ badL) (S : Store) : d_check_within [d, k] S = .exc noMixed S := by
  have e := bad_no h S
  have hc : d_check_mixed [d] S = .exc noMixed S := by
    have r0 : ∀ ρ S, dRaise0 "NoMixed" ρ S = .exc noMixed ρ S := fun _ _ => rfl
    unfold d_check_mixed dFn b_check_mixed env0
    simp [e, r0, RS.fin]
  unfold d_check_within dFn b_check_within env0
  simp [hc, RS.fin]
def offL : List PyData := [.none, .int 0, .int 9, .bool true, .str "1"]
theorem off_no {d : PyData} (S : Store) (h : d ∈ offL) : d_is_within [d, .int 1, .int 8] S = .ok (.bool false) S := by
  simp only [offL, List.mem_cons, List.not_mem_nil, or_false] at h
  rcases h with rfl | rfl | rfl | rfl | rfl <;> rfl
theorem check_off {n : Nat} {ts as : List Tie} {d : PyData} (m : MixOk n ts as) (h : d ∈ offL) (S : Store) : d_check_within [mixD n ts as, d] S = .exc noCount S := by
  have h1 : d_check_mixed [mixD n ts as] S = .ok .none S := by
    have := is_mixed_ok m S
    unfold d_check_mixed dFn b_check_mixed env0
    simp [this, RS.fin]
  have h2 := off_no S h
  have r0 : ∀ ρ S, dRaise0 "NoCount" ρ S = .exc noCount ρ S := fun _ _ => rfl
  unfold d_check_within dFn b_check_within env0
  generalize mixD n ts as = M at *
  simp [h1, h2, r0, RS.fin]
theorem windows_exc {M K : PyData} {x : Xc} {S : Store} (h : d_check_within [M, K] S = .exc x S) : d_windows [M, K] S = .exc x S := by
  unfold d_windows dFn b_windows env0
  simp [h, RS.fin]
theorem ahead_exc {M K : PyData} {x : Xc} {S : Store} (h : d_check_within [M, K] S = .exc x S) : d_sure_ahead [M, K] S = .exc x S := by
  unfold d_sure_ahead dFn b_sure_ahead env0
  simp [h, RS.fin]
theorem count_exc {M K : PyData} {x : Xc} {S : Store} (h : d_check_within [M, K] S = .exc x S) : d_time_count [M, K] S = .exc x S := by
  unfold d_time_count dFn b_time_count env0
  simp [h, RS.fin]
theorem off_ok {S : Store} (hS : TapeOk S) : ∃ d S', d__law_any [.none, .list offL] S = .ok d S' ∧ TapeOk S' ∧ d ∈ offL := any_ok hS (by simp [offL]) (show 5 < 2 ^ 62 by decide)
theorem word_gen {x : Xc} {w : Str} {b1 b2 : Bool} {j : Int} (i2 : xcs.contains x.cls = true) (i0 : inS ["NoCount", "NoMixed"] x.cls = true) (e1 : inS ["NoCount"] x.cls = b1) (e2 : inS ["NoMixed"] x.cls = b2) (f1 : fCount (.list [.bool b1, .bool b2, .bool false, .bool false]) (.bool true) = some (.int 1)) (f2 : fIndex (.list [.bool b1, .bool b2, .bool false, .bool false]) (.bool true) = some (.int j)) (f3 : fIx (.list [.str "count", .str "mixed", .str "times", .str "turning"]) (.int j) = some (.str w))
    {dl : DE} {ρ : PD.Env} {S : Store} (h : dl ρ S = .exc x S) : dLam 5 bl__law_word dl ρ S = .ok (.str w) S := by
  have i3 : inS [] x.cls = false := rfl
  have ht : ∀ (db : DS) (l : DCl) (ρ ρ' : PD.Env) (S S' : Store), db ρ S = .exc x ρ' S' → dTryN xcs db l ρ S = pickC l x ρ' S' := fun db l ρ ρ' S S' e => by
    unfold dTryN
    rw [e]
    simp only
    rw [if_pos i2]
  have hd : (dDrop fun _ S => (fun S' => dl ρ S') S) [some .none, some (.str "let"), none, none, none] S = .exc x [some .none, some (.str "let"), none, none, none] S := by
    simp [h]
  show ((bl__law_word (fun S' => dl ρ S') [some .none, none, none, none, none] S).fin false).calm = _
  unfold bl__law_word
  simp [ht _ _ _ _ _ _ hd, pickC, i0, i3, e1, e2, dXc, f1, f2, f3, sz_small, RS.calm, RS.fin]
theorem word_mixed {dl : DE} {ρ : PD.Env} {S : Store} (h : dl ρ S = .exc noMixed S) : dLam 5 bl__law_word dl ρ S = .ok (.str "mixed") S :=
  word_gen (b1 := false) (b2 := true) (j := 1) (by decide +kernel) (by decide +kernel) (by decide +kernel) (by decide +kernel) rfl rfl rfl h
theorem word_count {dl : DE} {ρ : PD.Env} {S : Store} (h : dl ρ S = .exc noCount S) : dLam 5 bl__law_word dl ρ S = .ok (.str "count") S :=
  word_gen (b1 := true) (b2 := false) (j := 0) (by decide +kernel) (by decide +kernel) (by decide +kernel) (by decide +kernel) rfl rfl rfl h
end K92
namespace K92
open PySem PySem.Spec PyProof.Rows L2 PD
/-! ### levels -/
def levF (L : List Nat) (e : Tie) : List Nat := L.set e.2 (max (L.getD e.2 0) (L.getD e.1 0 + 1))
def levR (es : List Tie) : Nat → List Nat → List Nat
  | 0, L => L
  | t + 1, L => levR es t (es.foldl levF L)
theorem lev_len (L : List Nat) (e : Tie) : (levF L e).length = L.length := by unfold levF; rw [List.length_set]
theorem fold_len : ∀ (es : List Tie) (L : List Nat), (es.foldl levF L).length = L.length
  | [], _ => rfl
  | e :: es, L => by rw [List.foldl_cons, fold_len es, lev_len]
theorem lev_get {L : List Nat} {e : Tie} {v : Nat} (h : e.2 < L.length) : (levF L e).getD v 0 = if v = e.2 then max (L.getD e.2 0) (L.getD e.1 0 + 1) else L.getD v 0 := by
  unfold levF
  rw [List.getD_eq_getElem?_getD, List.getD_eq_getElem?_getD (i := v)]
  by_cases hv : v = e.2
  · subst hv
    rw [List.getElem?_set_self h, if_pos rfl]
    rfl
  · rw [List.getElem?_set_ne (fun q => hv q.symm), if_neg hv]
theorem lev_mono {L : List Nat} {e : Tie} {v : Nat} (h : e.2 < L.length) : L.getD v 0 ≤ (levF L e).getD v 0 := by
  rw [lev_get h]
  split
  · rename_i hv
    subst hv
    omega
  · exact Nat.le_refl _
/-- any feasible times are at least the levels -/
theorem fold_least {f : Nat → Nat} : ∀ {es : List Tie} {L : List Nat}, (∀ e ∈ es, e.2 < L.length ∧ f e.1 + 1 ≤ f e.2) → (∀ v, L.getD v 0 ≤ f v) → ∀ v, (es.foldl levF L).getD v 0 ≤ f v
  | [], L, _, h, v => h v
  | e :: es, L, he, h, v => by
    obtain ⟨h1, h2⟩ := he e List.mem_cons_self
    refine fold_least (L := levF L e) (fun q hq => by rw [lev_len]; exact he q (List.mem_cons_of_mem _ hq)) (fun v => ?_) v
    rw [lev_get h1]
    split
    · rename_i hv
      subst hv
      have := h e.1
      have := h e.2
      omega
    · exact h v
theorem lev_least {f : Nat → Nat} {es : List Tie} : ∀ (t : Nat) {L : List Nat}, (∀ e ∈ es, e.2 < L.length ∧ f e.1 + 1 ≤ f e.2) → (∀ v, L.getD v 0 ≤ f v) → ∀ v, (levR es t L).getD v 0 ≤ f v
  | 0, L, _, h, v => h v
  | t + 1, L, he, h, v => lev_least t (L := es.foldl levF L) (fun e hm => by rw [fold_len]; exact he e hm) (fold_least he h) v
theorem fold_mono : ∀ {es : List Tie} {L : List Nat}, (∀ e ∈ es, e.2 < L.length) → ∀ v, L.getD v 0 ≤ (es.foldl levF L).getD v 0
  | [], L, _, v => Nat.le_refl _
  | e :: es, L, he, v => Nat.le_trans (lev_mono (he e List.mem_cons_self)) (fold_mono (L := levF L e) (fun q hq => by rw [lev_len]; exact he q (List.mem_cons_of_mem _ hq)) v)
/-- within a round that starts at L0: what rises stood at t at least; what was gone through is right or stands above t -/
theorem round_claim {t : Nat} {es0 : List Tie} {L0 : List Nat} (h0 : ∀ e ∈ es0, L0.getD e.1 0 + 1 ≤ L0.getD e.2 0 ∨ t ≤ L0.getD e.2 0) : ∀ {es : List Tie} {L : List Nat}, (∀ e ∈ es, e ∈ es0 ∧ e.2 < L.length) → (∀ v, L0.getD v 0 ≤ L.getD v 0) → (∀ v, L0.getD v 0 < L.getD v 0 → t ≤ L0.getD v 0) →
    ∀ v, L0.getD v 0 < (es.foldl levF L).getD v 0 → t ≤ L0.getD v 0
  | [], L, _, _, h, v, hv => h v hv
  | e :: es, L, he, hm, h, v, hv => by
    obtain ⟨e0, e1⟩ := he e List.mem_cons_self
    refine round_claim h0 (es := es) (L := levF L e) (fun q hq => by rw [lev_len]; exact he q (List.mem_cons_of_mem _ hq)) (fun v => Nat.le_trans (hm v) (lev_mono e1)) (fun v hv => ?_) v hv
    rw [lev_get e1] at hv
    split at hv
    · rename_i hve
      subst hve
      by_cases hr : L0.getD e.2 0 < L.getD e.2 0
      · exact h e.2 hr
      · have e3 : L.getD e.2 0 = L0.getD e.2 0 := by have := hm e.2; omega
        by_cases hr1 : L0.getD e.1 0 < L.getD e.1 0
        · have ht := h e.1 hr1
          rcases h0 e e0 with q | q <;> omega
        · have e4 : L.getD e.1 0 = L0.getD e.1 0 := by have := hm e.1; omega
          rcases h0 e e0 with q | q
          · omega
          · exact q
    · exact h v hv
end K92
namespace K92
open PySem PySem.Spec PyProof.Rows L2 PD
theorem round_next {t : Nat} {es0 : List Tie} {L0 : List Nat} (h0 : ∀ e ∈ es0, L0.getD e.1 0 + 1 ≤ L0.getD e.2 0 ∨ t ≤ L0.getD e.2 0) : ∀ {es : List Tie} {L : List Nat}, (∀ e ∈ es, e ∈ es0 ∧ e.2 < L.length) → (∀ e ∈ es, e.1 ≠ e.2) → (∀ v, L0.getD v 0 ≤ L.getD v 0) → (∀ v, L0.getD v 0 < L.getD v 0 → t ≤ L0.getD v 0) →
    ∀ e ∈ es, (es.foldl levF L).getD e.1 0 + 1 ≤ (es.foldl levF L).getD e.2 0 ∨ t + 1 ≤ (es.foldl levF L).getD e.2 0
  | e0 :: es, L, he, hn, hm, h, e, hq => by
    obtain ⟨k0, k1⟩ := he e0 List.mem_cons_self
    have hm' : ∀ v, L0.getD v 0 ≤ (levF L e0).getD v 0 := fun v => Nat.le_trans (hm v) (lev_mono k1)
    have he' : ∀ e ∈ es, e ∈ es0 ∧ e.2 < (levF L e0).length := fun q hq => by rw [lev_len]; exact he q (List.mem_cons_of_mem _ hq)
    have h' : ∀ v, L0.getD v 0 < (levF L e0).getD v 0 → t ≤ L0.getD v 0 := by
      have := round_claim h0 (es := [e0]) (L := L) (fun q hq => by rw [List.mem_singleton.mp hq]; exact ⟨k0, k1⟩) hm h
      exact this
    rcases List.mem_cons.mp hq with rfl | hq
    · rw [List.foldl_cons]
      have ne := hn e List.mem_cons_self
      have f1 := fold_mono (es := es) (L := levF L e) (fun q hq => (he' q hq).2) e.1
      have f2 := fold_mono (es := es) (L := levF L e) (fun q hq => (he' q hq).2) e.2
      have g2 : (levF L e).getD e.2 0 = max (L.getD e.2 0) (L.getD e.1 0 + 1) := by rw [lev_get k1, if_pos rfl]
      have g1 : (levF L e).getD e.1 0 = L.getD e.1 0 := by rw [lev_get k1, if_neg ne]
      by_cases hr : (es.foldl levF (levF L e)).getD e.1 0 = L.getD e.1 0
      · left; omega
      · right
        have hm1 := hm e.1
        have := round_claim h0 he' hm' h' e.1 (by omega)
        omega
    · rw [List.foldl_cons]
      exact round_next h0 he' (fun q hq => hn q (List.mem_cons_of_mem _ hq)) hm' h' e hq
theorem lev_claim {es : List Tie} (hn : ∀ e ∈ es, e.1 ≠ e.2) : ∀ (t s : Nat) {L : List Nat}, (∀ e ∈ es, e.2 < L.length) → (∀ e ∈ es, L.getD e.1 0 + 1 ≤ L.getD e.2 0 ∨ s ≤ L.getD e.2 0) → ∀ e ∈ es, (levR es t L).getD e.1 0 + 1 ≤ (levR es t L).getD e.2 0 ∨ s + t ≤ (levR es t L).getD e.2 0
  | 0, s, L, _, h => h
  | t + 1, s, L, hl, h => by
    have := lev_claim hn t (s + 1) (L := es.foldl levF L) (fun e he => by rw [fold_len]; exact hl e he) (round_next h (fun e he => ⟨he, hl e he⟩) hn (fun v => Nat.le_refl _) fun v hv => absurd hv (Nat.lt_irrefl _))
    rw [show s + (t + 1) = s + 1 + t by omega]
    exact this
/-! walks -/
inductive Wk (es : List Tie) : List Nat → Prop
  | one (v : Nat) : Wk es [v]
  | cons {a b : Nat} {q : List Nat} : (a, b) ∈ es → Wk es (a :: q) → Wk es (b :: a :: q)
def WkL (es : List Tie) (L : List Nat) : Prop := ∀ v, ∃ q, Wk es (v :: q) ∧ q.length = L.getD v 0
theorem wk_lev {es : List Tie} {L : List Nat} {e : Tie} (h : WkL es L) (he : e ∈ es) (hl : e.2 < L.length) : WkL es (levF L e) := by
  intro v
  rw [lev_get hl]
  split
  · rename_i hv
    subst hv
    by_cases hc : L.getD e.1 0 + 1 ≤ L.getD e.2 0
    · obtain ⟨q, h1, h2⟩ := h e.2
      exact ⟨q, h1, by omega⟩
    · obtain ⟨q, h1, h2⟩ := h e.1
      exact ⟨e.1 :: q, .cons he h1, by rw [List.length_cons]; omega⟩
  · exact h v
theorem wk_fold {es0 : List Tie} : ∀ {es : List Tie} {L : List Nat}, WkL es0 L → (∀ e ∈ es, e ∈ es0 ∧ e.2 < L.length) → WkL es0 (es.foldl levF L)
  | [], _, h, _ => h
  | e :: es, L, h, he => wk_fold (es := es) (L := levF L e) (wk_lev h (he e List.mem_cons_self).1 (he e List.mem_cons_self).2) fun q hq => by rw [lev_len]; exact he q (List.mem_cons_of_mem _ hq)
theorem wk_levR {es : List Tie} : ∀ (t : Nat) {L : List Nat}, WkL es L → (∀ e ∈ es, e.2 < L.length) → WkL es (levR es t L)
  | 0, _, h, _ => h
  | t + 1, L, h, he => wk_levR t (L := es.foldl levF L) (wk_fold h fun e hm => ⟨hm, he e hm⟩) fun e hm => by rw [fold_len]; exact he e hm
theorem wk_tail {es : List Tie} {a b : Nat} {q : List Nat} (h : Wk es (b :: a :: q)) : (a, b) ∈ es ∧ Wk es (a :: q) := by
  cases h with
  | cons h1 h2 => exact ⟨h1, h2⟩
theorem wk_pre {es : List Tie} : ∀ {p q : List Nat}, p ≠ [] → Wk es (p ++ q) → Wk es p
  | [], _, h, _ => absurd rfl h
  | [a], q, _, _ => .one a
  | b :: a :: p, q, _, h => by
    obtain ⟨h1, h2⟩ := wk_tail h
    exact .cons h1 (wk_pre (p := a :: p) (by simp) h2)
/-- a walk that visits a place twice holds a simple ring -/
theorem wk_ring {es : List Tie} : ∀ {q : List Nat}, Wk es q → ¬ q.Nodup → ∃ c : List Nat, Wk es c ∧ c.Nodup ∧ ∃ x y p, c = x :: p ∧ c.getLast? = some y ∧ (x, y) ∈ es
  | [], h, _ => by cases h
  | [v], _, hn => absurd (List.pairwise_singleton _ _) hn
  | v :: a :: q, h, hn => by
    obtain ⟨h1, h2⟩ := wk_tail h
    by_cases hd : (a :: q).Nodup
    · have hv : v ∈ a :: q := Classical.byContradiction fun hv => hn (List.nodup_cons.mpr ⟨hv, hd⟩)
      obtain ⟨m, r, e⟩ := List.append_of_mem hv
      have hw : Wk es ((m ++ [v]) ++ r) := by rw [List.append_assoc]; rw [e] at h2; exact h2
      have hc := wk_pre (by simp) hw
      have hnd : (m ++ [v]).Nodup := by
        have : ((m ++ [v]) ++ r).Nodup := by rw [List.append_assoc]; rw [e] at hd; exact hd
        exact (List.nodup_append.mp this).1
      refine ⟨m ++ [v], hc, hnd, ?_⟩
      cases m with
      | nil =>
        have ea : a = v := (List.cons.inj e).1
        subst ea
        exact ⟨a, a, [], rfl, rfl, h1⟩
      | cons x m =>
        have ea : a = x := (List.cons.inj e).1
        subst ea
        exact ⟨a, v, m ++ [v], rfl, by rw [List.getLast?_append]; rfl, h1⟩
    · exact wk_ring h2 hd
theorem nodup_len : ∀ {n : Nat} {l : List Nat}, l.Nodup → (∀ x ∈ l, x < n) → l.length ≤ n
  | 0, [], _, _ => Nat.le_refl _
  | 0, x :: l, _, h => absurd (h x List.mem_cons_self) (Nat.not_lt_zero _)
  | n + 1, l, h1, h2 => by
    by_cases hn : n ∈ l
    · have hl : (l.erase n).length ≤ n := nodup_len (List.Nodup.erase n h1) fun x hx => by
        have hx' := (List.Nodup.mem_erase_iff h1).mp hx
        have h3 := h2 x hx'.2
        have h4 := hx'.1
        omega
      rw [List.length_erase_of_mem hn] at hl
      omega
    · have := nodup_len (n := n) h1 fun x hx => by
        have h3 := h2 x hx
        have h4 : x ≠ n := fun q => hn (q ▸ hx)
        omega
      omega
end K92
namespace K92
open PySem PySem.Spec PyProof.Rows L2 PD
/-! the program's levels -/
def lvD (L : List Nat) : PyData := .list (L.map natD)
def lvIn : DS := dSetI 2 (dVar 5) (d2 fMax2 (d2 fIx (dVar 2) (dVar 5)) (d2 fAdd (d2 fIx (dVar 2) (dVar 4)) (dC (.int 1))))
def lvOut : DS := dFor (dIt seqD (dVar 1)) (.tup [4, 5]) lvIn
theorem lv_get {L : List Nat} {v : Nat} (h : v < L.length) : fIx (lvD L) (natD v) = some (natD (L.getD v 0)) := ix_nat (row_get h)
theorem lv_set {L : List Nat} {v x : Nat} (h : v < L.length) : fSetI (L.map natD) (natD v) (natD x) = some (lvD (L.set v x)) := by
  show (ixN (L.map natD).length (v : Int)).map _ = _
  rw [ixN_nat (by rw [List.length_map]; exact h), Option.map_some]
  unfold lvD
  rw [List.map_set]
theorem in_step {L : List PyData} {A B x y z w L' : PyData} {x0 x1 x3 : Option PyData} {S : Store} (h1 : fIx (.list L) B = some x) (h2 : fIx (.list L) A = some y) (h3 : fAdd y (.int 1) = some z) (h4 : fMax2 x z = some w) (h5 : fSetI L B w = some L') :
    lvIn [x0, x1, some (.list L), x3, some A, some B] S = .nx [x0, x1, some L', x3, some A, some B] S := by
  unfold lvIn dSetI onLst
  simp [h1, h2, h3, h4, h5, putO]
theorem in_ok {L : List Nat} {e : Tie} {x0 x1 x3 : Option PyData} {S : Store} (h1 : e.1 < L.length) (h2 : e.2 < L.length) :
    lvIn [x0, x1, some (lvD L), x3, some (natD e.1), some (natD e.2)] S = .nx [x0, x1, some (lvD (levF L e)), x3, some (natD e.1), some (natD e.2)] S :=
  in_step (lv_get h2) (lv_get h1) (add_one _) (max_nats _ _) (lv_set h2)
theorem in_loop {x0 x1 x3 : Option PyData} {S : Store} : ∀ {es : List Tie} {L : List Nat} {x4 x5 : Option PyData}, (∀ e ∈ es, e.1 < L.length ∧ e.2 < L.length) → ∃ y4 y5, forL (.tup [4, 5]) lvIn (es.map tieD) [x0, x1, some (lvD L), x3, x4, x5] S = .nx [x0, x1, some (lvD (es.foldl levF L)), x3, y4, y5] S
  | [], L, x4, x5, _ => ⟨x4, x5, rfl⟩
  | e :: es, L, x4, x5, h => by
    obtain ⟨h1, h2⟩ := h e List.mem_cons_self
    obtain ⟨y4, y5, q⟩ := in_loop (es := es) (L := levF L e) (x4 := some (natD e.1)) (x5 := some (natD e.2)) fun q hq => by rw [lev_len]; exact h q (List.mem_cons_of_mem _ hq)
    refine ⟨y4, y5, ?_⟩
    rw [List.map_cons, forL_cons]
    have hb : Tg.bind (.tup [4, 5]) (tieD e) [x0, x1, some (lvD L), x3, x4, x5] = some [x0, x1, some (lvD L), x3, some (natD e.1), some (natD e.2)] := rfl
    rw [hb]
    simp only [in_ok h1 h2]
    exact q
theorem out_step {A : PyData} {rs : List PyData} {x0 x2 x3 x4 x5 : Option PyData} {S : Store} {r : RS} (hs : seqD A = some rs) (h : forL (.tup [4, 5]) lvIn rs [x0, some A, x2, x3, x4, x5] S = r) : lvOut [x0, some A, x2, x3, x4, x5] S = r := by
  unfold lvOut
  generalize lvIn = bd at *
  simp [hs, h]
theorem out_loop {x0 : Option PyData} {S : Store} {es : List Tie} {A : PyData} (hA : seqD A = some (es.map tieD)) : ∀ (ds : List PyData) {L : List Nat} {x3 x4 x5 : Option PyData}, (∀ e ∈ es, e.1 < L.length ∧ e.2 < L.length) → ∃ y3 y4 y5, forL (.nm 3) lvOut ds [x0, some A, some (lvD L), x3, x4, x5] S = .nx [x0, some A, some (lvD (levR es ds.length L)), y3, y4, y5] S
  | [], L, x3, x4, x5, _ => ⟨x3, x4, x5, rfl⟩
  | d :: ds, L, x3, x4, x5, h => by
    obtain ⟨y4, y5, q1⟩ := in_loop (x0 := x0) (x1 := some A) (x3 := some d) (S := S) (x4 := x4) (x5 := x5) h
    obtain ⟨z3, z4, z5, q2⟩ := out_loop hA ds (L := es.foldl levF L) (x3 := some d) (x4 := y4) (x5 := y5) fun e he => by rw [fold_len]; exact h e he
    refine ⟨z3, z4, z5, ?_⟩
    rw [forL_cons]
    have hb : Tg.bind (.nm 3) d [x0, some A, some (lvD L), x3, x4, x5] = some [x0, some A, some (lvD L), some d, x4, x5] := rfl
    rw [hb]
    simp only [out_step hA q1]
    exact q2
theorem lev_step {N A L0 L' : PyData} {nn : Int} {y3 y4 y5 : Option PyData} {S : Store} (hN : N = .int nn) (c1 : cR nn = true) (c2 : sz nn.toNat = true) (h0 : fRepL (.list [.int 0]) N = some L0)
    (h : forL (.nm 3) lvOut (rngD 0 nn.toNat) [some N, some A, some L0, none, none, none] S = .nx [some N, some A, some L', y3, y4, y5] S) : d__law_levels [N, A] S = .ok L' S := by
  subst hN
  unfold d__law_levels dFn b__law_levels env0
  change RS.fin false (dSeq (dSet 2 (d2 fRepL (dLst (dCons (dC (.int 0)) (dNil))) (dVar 0))) (dSeq (dFor (dRng1 (dVar 0)) (.nm 3) lvOut) (dRet (dVar 2))) _ _) = _
  generalize lvOut = bd at *
  simp [h0, c1, c2, h, RS.fin, sz_small]
theorem levels_ok {n : Nat} {es : List Tie} {A : PyData} (hA : seqD A = some (es.map tieD)) (hn : n ≤ 100) (he : ∀ e ∈ es, e.1 < n ∧ e.2 < n) (S : Store) : d__law_levels [natD n, A] S = .ok (lvD (levR es n (List.replicate n 0))) S := by
  obtain ⟨y3, y4, y5, q⟩ := out_loop (x0 := some (natD n)) (S := S) hA (rngD 0 n) (L := List.replicate n 0) (x3 := none) (x4 := none) (x5 := none) (by rw [List.length_replicate]; exact he)
  have el : (rngD 0 n).length = n := by unfold rngD; rw [List.length_map, List.length_range]
  rw [el] at q
  refine lev_step (nn := (n : Int)) rfl (cR_small (by omega) (by omega)) (sz_small (by omega)) ?_ q
  unfold fRepL lvD
  have hs : [PyData.int 0].length * (n : Int).toNat ≤ sizeLine := by
    rw [sizeLine_eq]
    simp only [List.length_singleton, Int.toNat_natCast]
    omega
  rw [List.map_replicate]
  show (if _ then _ else _) = _
  rw [if_pos (by rw [decide_eq_true_eq]; exact ⟨by omega, by omega, hs⟩)]
  rw [Int.toNat_natCast]
  congr 2
  exact List.flatten_replicate_singleton
end K92
namespace K92
open PySem PySem.Spec PyProof.Rows L2 PD
/-! rings by the law: plain -/
def lastN (q : List Nat) : Nat := q.getD (q.length - 1) 0
def doneP (es : List Tie) (q : List Nat) : Bool := decide ((lastN q, q.getD 0 0) ∈ es)
def growQ (es : List Tie) (q : List Nat) : List (List Nat) := (es.filter fun e => decide (e.1 = lastN q) && !decide (e.2 ∈ q)).map fun e => q ++ [e.2]
def growF (es : List Tie) (R : List (List Nat)) : List (List Nat) := R.flatMap (growQ es)
theorem ix_last {q : List Nat} (h : q ≠ []) : fIx (rowD q) (.int (-1)) = some (natD (lastN q)) := by
  have hl : 0 < q.length := List.length_pos_iff.mpr h
  show L2.atI (q.map natD) (-1) = _
  unfold L2.atI ixN
  rw [if_neg (by omega), List.length_map, if_pos (by omega)]
  have e : ((-1 : Int) + (q.length : Int)).toNat = q.length - 1 := by omega
  show (q.map natD)[((-1 : Int) + (q.length : Int)).toNat]? = _
  rw [e]
  exact row_get (by omega)
theorem alike_rows : ∀ (a b : List Nat), PySem.W.alikeAll (a.map natD) (b.map natD) = true
  | [], [] => rfl
  | [], _ :: _ => rfl
  | _ :: _, [] => rfl
  | x :: a, y :: b => by
    have := alike_rows a b
    simp only [List.map_cons, PySem.W.alikeAll, this, natD, PySem.W.alike, Bool.and_true]
theorem rows_okMM (R : List (List Nat)) : okMM (R.map rowD) = true := by
  have a1 : (R.map rowD).all (fun d => (R.map rowD).all fun e => PySem.W.alike d e) = true := by
    rw [List.all_eq_true]
    intro d hd
    rw [List.all_eq_true]
    intro d' hd'
    obtain ⟨l, _, rfl⟩ := List.mem_map.mp hd
    obtain ⟨l', _, rfl⟩ := List.mem_map.mp hd'
    exact alike_rows l l'
  have a2 : (R.map rowD).all (fun d => !noneB d) = true := by
    rw [List.all_eq_true]
    intro d hd
    obtain ⟨l, hl, rfl⟩ := List.mem_map.mp hd
    rfl
  have a3 : decide (PyData.depthAll (R.map rowD) ≤ 60) = true := decide_eq_true (Nat.le_trans (depth_all (n := 1) fun x hx => by
    obtain ⟨l, hl, rfl⟩ := List.mem_map.mp hx
    exact (sh_row l).2) (by omega))
  have a4 : SeqAt.shaped (.list (R.map rowD)) = true := (sh_lst (sh_map sh_row)).ok
  unfold okMM
  rw [a1, a2, a3, a4]
  rfl
theorem min_rows {q : List Nat} {R : List (List Nat)} : ∃ d, fMM PySem.W.minD (.list ((q :: R).map rowD)) = some d ∧ d ≠ .none := by
  have h := rows_okMM (q :: R)
  refine ⟨PySem.W.minD (rowD q) (R.map rowD), ?_, fun e => ?_⟩
  · show (if okMM ((q :: R).map rowD) = true then some (PySem.W.minD (rowD q) (R.map rowD)) else none) = _
    rw [if_pos h]
  · have hm : PySem.W.minD (rowD q) (R.map rowD) ∈ (q :: R).map rowD := minD_mem _ _
    rw [e] at hm
    obtain ⟨r, _, hr⟩ := List.mem_map.mp hm
    cases hr
/-- at most four ways on -/
theorem grow_len {n : Nat} {es : List Tie} {q : List Nat} (hn : es.Nodup) (he : ∀ e ∈ es, e.1 ≠ e.2 ∧ e.2 < n) (h5 : n ≤ 5) (hl : lastN q < n) : (growQ es q).length ≤ 4 := by
  unfold growQ
  rw [List.length_map]
  have hs : ((es.filter fun e => decide (e.1 = lastN q) && !decide (e.2 ∈ q)).map (·.2)).Nodup := by
    refine List.Pairwise.map _ ?_ (List.Pairwise.and_mem.mp (hn.filter _))
    intro a b ⟨ha, hb, hab⟩ e
    have ha := (Bool.and_eq_true_iff.mp (List.mem_filter.mp ha).2).1
    have hb := (Bool.and_eq_true_iff.mp (List.mem_filter.mp hb).2).1
    exact hab (Prod.ext ((of_decide_eq_true ha).trans (of_decide_eq_true hb).symm) e)
  have hc : (lastN q :: (es.filter fun e => decide (e.1 = lastN q) && !decide (e.2 ∈ q)).map (·.2)).Nodup := by
    refine List.nodup_cons.mpr ⟨fun hm => ?_, hs⟩
    obtain ⟨e, h1, h2⟩ := List.mem_map.mp hm
    obtain ⟨h3, h4⟩ := List.mem_filter.mp h1
    exact (he e h3).1 ((of_decide_eq_true (Bool.and_eq_true_iff.mp h4).1).trans h2.symm)
  have := nodup_len (n := n) hc fun x hx => by
    rcases List.mem_cons.mp hx with rfl | hx
    · exact hl
    · obtain ⟨e, h1, rfl⟩ := List.mem_map.mp hx
      exact (he e (List.mem_filter.mp h1).1).2
  rw [List.length_cons, List.length_map] at this
  omega
theorem last_app (q : List Nat) (v : Nat) : lastN (q ++ [v]) = v := by
  unfold lastN
  rw [List.length_append, List.length_singleton, Nat.add_sub_cancel, List.getD_eq_getElem?_getD, List.getElem?_append_right (Nat.le_refl _), Nat.sub_self]
  rfl
/-- a row of the law's is a walk, turned about -/
def RowOk (n : Nat) (es : List Tie) (t : Nat) (q : List Nat) : Prop := Wk es q.reverse ∧ q.Nodup ∧ q.length = t + 1 ∧ ∀ v ∈ q, v < n
theorem last_rev {x : Nat} {p : List Nat} : lastN (x :: p).reverse = x := by
  rw [List.reverse_cons]
  exact last_app _ _
theorem row_last {n t : Nat} {es : List Tie} {q : List Nat} (h : RowOk n es t q) : q ≠ [] ∧ lastN q < n ∧ lastN q ∈ q := by
  obtain ⟨_, _, h3, h4⟩ := h
  have hq : q ≠ [] := fun e => by rw [e] at h3; cases h3
  have hm : lastN q ∈ q := by
    unfold lastN
    rw [List.getD_eq_getElem?_getD, List.getElem?_eq_getElem (by omega : q.length - 1 < q.length)]
    exact List.getElem_mem _
  exact ⟨hq, h4 _ hm, hm⟩
theorem grow_row {n t : Nat} {es : List Tie} {q r : List Nat} (he : ∀ e ∈ es, e.1 ≠ e.2 ∧ e.2 < n) (h : RowOk n es t q) (hr : r ∈ growQ es q) : RowOk n es (t + 1) r := by
  obtain ⟨e, h1, rfl⟩ := List.mem_map.mp hr
  obtain ⟨h2, h3⟩ := List.mem_filter.mp h1
  obtain ⟨h4, h5⟩ := Bool.and_eq_true_iff.mp h3
  have h4 := of_decide_eq_true h4
  have h5 : e.2 ∉ q := by simpa using h5
  obtain ⟨k1, k2, k3, k4⟩ := h
  refine ⟨?_, ?_, by rw [List.length_append, k3]; rfl, fun v hv => ?_⟩
  · rw [List.reverse_append]
    show Wk es (e.2 :: q.reverse)
    cases hq : q.reverse with
    | nil => exact .one _
    | cons a p =>
      rw [hq] at k1
      have : q = (a :: p).reverse := by rw [← hq, List.reverse_reverse]
      rw [this, last_rev] at h4
      refine .cons ?_ k1
      rw [← h4]
      exact h2
  · rw [List.nodup_append]
    refine ⟨k2, by simp, fun a ha b hb e2 => ?_⟩
    rw [List.mem_singleton] at hb
    subst hb
    exact h5 (e2 ▸ ha)
  · rcases List.mem_append.mp hv with hv | hv
    · exact k4 v hv
    · rw [List.mem_singleton] at hv
      rw [hv]
      exact (he e h2).2
def rowsR (n : Nat) (es : List Tie) : Nat → List (List Nat)
  | 0 => (List.range n).map fun v => [v]
  | t + 1 => growF es (rowsR n es t)
theorem rows_ok {n : Nat} {es : List Tie} (he : ∀ e ∈ es, e.1 ≠ e.2 ∧ e.2 < n) : ∀ t, ∀ q ∈ rowsR n es t, RowOk n es t q
  | 0, q, hq => by
    obtain ⟨v, hv, rfl⟩ := List.mem_map.mp hq
    exact ⟨.one v, List.pairwise_singleton _ _, rfl, fun x hx => by rw [List.mem_singleton] at hx; rw [hx]; exact List.mem_range.mp hv⟩
  | t + 1, q, hq => by
    obtain ⟨r, hr, h⟩ := List.mem_flatMap.mp hq
    exact grow_row he (rows_ok he t r hr) h
theorem flat4 {f : List Nat → List (List Nat)} : ∀ {R : List (List Nat)}, (∀ q ∈ R, (f q).length ≤ 4) → (R.flatMap f).length ≤ 4 * R.length
  | [], _ => Nat.zero_le _
  | q :: R, h => by
    have h1 := h q List.mem_cons_self
    have h2 := flat4 (f := f) (R := R) fun q hq => h q (List.mem_cons_of_mem _ hq)
    rw [List.flatMap_cons, List.length_append, List.length_cons]
    omega
theorem rows_len {n : Nat} {es : List Tie} (hn : es.Nodup) (he : ∀ e ∈ es, e.1 ≠ e.2 ∧ e.2 < n) (h5 : n ≤ 5) : ∀ t, (rowsR n es t).length ≤ n * 4 ^ t
  | 0 => by
    show ((List.range n).map fun v => [v]).length ≤ _
    rw [List.length_map, List.length_range]
    omega
  | t + 1 => by
    have h1 := rows_len hn he h5 t
    have h2 : (growF es (rowsR n es t)).length ≤ 4 * (rowsR n es t).length := flat4 fun q hq => grow_len hn he h5 (row_last (rows_ok he t q hq)).2.1
    show (growF es (rowsR n es t)).length ≤ _
    rw [Nat.pow_succ]
    have : n * (4 ^ t * 4) = 4 * (n * 4 ^ t) := by rw [← Nat.mul_assoc]; exact Nat.mul_comm _ _
    omega
/-- every simple walk stands in the rows -/
theorem rows_all {n : Nat} {es : List Tie} (he : ∀ e ∈ es, e.1 < n ∧ e.2 < n) : ∀ (t : Nat) {q : List Nat}, Wk es q → q.Nodup → q.length = t + 1 → (∀ v ∈ q, v < n) → q.reverse ∈ rowsR n es t
  | 0, [v], _, _, _, h => List.mem_map.mpr ⟨v, List.mem_range.mpr (h v List.mem_cons_self), rfl⟩
  | t + 1, b :: a :: q, h, hn, hl, hv => by
    obtain ⟨h1, h2⟩ := wk_tail h
    obtain ⟨n1, n2⟩ := List.nodup_cons.mp hn
    have := rows_all he t h2 n2 (by simpa using hl) fun v hm => hv v (List.mem_cons_of_mem _ hm)
    refine List.mem_flatMap.mpr ⟨_, this, List.mem_map.mpr ⟨(a, b), List.mem_filter.mpr ⟨h1, ?_⟩, ?_⟩⟩
    · rw [last_rev, Bool.and_eq_true_iff]
      refine ⟨decide_eq_true rfl, ?_⟩
      simp only [Bool.not_eq_true', decide_eq_false_iff_not, List.mem_reverse]
      exact n1
    · rw [List.reverse_cons (a := b)]
  | 0, [], _, _, hl, _ => by cases hl
  | 0, _ :: _ :: _, _, _, hl, _ => by simp at hl
  | t + 1, [], _, _, hl, _ => by cases hl
  | t + 1, [_], _, _, hl, _ => by simp at hl
end K92
namespace K92
open PySem PySem.Spec PyProof.Rows L2 PD
/-! rings by the law: the program -/
def rgT : DT := dAnd (dTest (d2 fEq (dVar 8) (d2 fIx (dVar 6) (d1 fNeg (dC (.int 1)))))) (dTest (d2 (fIn true) (dVar 9) (dVar 6)))
def rgE : DE := d2 fAdd (dVar 6) (dTup (dCons (dVar 9) (dNil)))
def rgIn : DS := dSet 5 (d2 fAddL (dVar 5) (dComp (dIt seqD (dVar 1)) (.tup [8, 9]) rgT rgE))
def rgD : DE := dComp (dIt seqD (dVar 2)) (.nm 6) (dTest (d2 (fIn false) (dTup (dCons (d2 fIx (dVar 6) (d1 fNeg (dC (.int 1)))) (dCons (d2 fIx (dVar 6) (dC (.int 0))) (dNil)))) (dVar 1))) (dVar 6)
def rgB : DS := dSeq (dSet 4 rgD) (dSeq (dIfS (dTest (d2 fNe (dVar 4) (dLst (dNil)))) (dRet (d1 (fMM PySem.W.minD) (dVar 4))) (dNx)) (dSeq (dSet 5 (dLst (dNil))) (dSeq (dFor (dIt seqD (dVar 2)) (.nm 6) rgIn) (dSet 2 (dVar 5)))))
theorem in_natsT (c : Nat) (l : List Nat) : fIn true (.int (c : Int)) (.tuple (l.map natD)) = some (.bool (!decide (c ∈ l))) := in_nats c l
theorem rgT_step {A B L C : PyData} {b c : Bool} {x0 x1 x2 x3 x4 x5 x7 : Option PyData} {S : Store} (h1 : fIx L (.int (-1)) = some C) (h2 : fEq A C = some (.bool b)) (h3 : fIn true B L = some (.bool c)) : rgT [x0, x1, x2, x3, x4, x5, some L, x7, some A, some B] S = .ok (b && c) S := by
  have hng : fNeg (.int 1) = some (.int (-1)) := rfl
  unfold rgT
  cases b <;> simp [h1, h2, h3, hng]
theorem rgE_step {A B L C : PyData} {x0 x1 x2 x3 x4 x5 x7 x8 : Option PyData} {S : Store} (h : fAdd L (.tuple [B]) = some C) : rgE [x0, x1, x2, x3, x4, x5, some L, x7, x8, some B] S = .ok C S := by
  unfold rgE
  simp [h, sz_small]
theorem gr_comp {q : List Nat} {es : List Tie} {x0 x1 x2 x3 x4 x5 x7 x8 x9 : Option PyData} {S : Store} (hq : q ≠ []) (hl : q.length ≤ 100) : compL (.tup [8, 9]) rgT rgE [x0, x1, x2, x3, x4, x5, some (rowD q), x7, x8, x9] [] (es.map tieD) S = .ok (.list ((growQ es q).map rowD)) S := by
  have h := comp_t (t := .tup [8, 9]) (tt := rgT) (de := rgE) (ρ := [x0, x1, x2, x3, x4, x5, some (rowD q), x7, x8, x9]) (S := S) (e := tieD) (g := rowD) (p := fun e => decide (e.1 = lastN q) && !decide (e.2 ∈ q)) (f := fun e => q ++ [e.2]) (xs := es) (acc := []) fun e _ => ⟨[x0, x1, x2, x3, x4, x5, some (rowD q), x7, some (natD e.1), some (natD e.2)], rfl, rgT_step (ix_last hq) (eq_nats _ _) (in_natsT _ _), fun _ => rgE_step (A := natD 0) (by
    have := fAddT_ok (xs := q.map natD) (ys := [natD e.2]) (by rw [List.length_map, List.length_singleton]; omega)
    rw [show (rowD (q ++ [e.2])) = .tuple (q.map natD ++ [natD e.2]) by unfold rowD; rw [List.map_append]; rfl]
    exact this)⟩
  rw [List.nil_append] at h
  exact h
theorem rgIn_step {A X Q Z : PyData} {es qs : List PyData} {x0 x2 x3 x4 x7 x8 x9 : Option PyData} {S : Store} (hs : seqD A = some es) (hc : compL (.tup [8, 9]) rgT rgE [x0, some A, x2, x3, x4, some X, some Q, x7, x8, x9] [] es S = .ok (.list qs) S) (ha : fAddL X (.list qs) = some Z) :
    rgIn [x0, some A, x2, x3, x4, some X, some Q, x7, x8, x9] S = .nx [x0, some A, x2, x3, x4, some Z, some Q, x7, x8, x9] S := by
  unfold rgIn
  generalize rgT = t at *
  generalize rgE = e at *
  simp [hs, hc, ha]
theorem rgIn_loop {A : PyData} {es : List Tie} {x0 x2 x3 x4 x7 x8 x9 : Option PyData} {S : Store} (hs : seqD A = some (es.map tieD)) : ∀ {R G : List (List Nat)} {x6 : Option PyData}, (∀ q ∈ R, q ≠ [] ∧ q.length ≤ 100) → G.length + (growF es R).length ≤ 10000 →
    ∃ y6, forL (.nm 6) rgIn (R.map rowD) [x0, some A, x2, x3, x4, some (.list (G.map rowD)), x6, x7, x8, x9] S = .nx [x0, some A, x2, x3, x4, some (.list ((G ++ growF es R).map rowD)), y6, x7, x8, x9] S
  | [], G, x6, _, _ => ⟨x6, by rw [show growF es [] = [] from rfl, List.append_nil]; rfl⟩
  | q :: R, G, x6, h, hl => by
    obtain ⟨h1, h2⟩ := h q List.mem_cons_self
    have e : growF es (q :: R) = growQ es q ++ growF es R := rfl
    rw [e, List.length_append] at hl
    obtain ⟨y6, k⟩ := rgIn_loop hs (R := R) (G := G ++ growQ es q) (x6 := some (rowD q)) (fun q hq => h q (List.mem_cons_of_mem _ hq)) (by rw [List.length_append]; omega)
    refine ⟨y6, ?_⟩
    rw [List.map_cons, forL_cons]
    have hb : Tg.bind (.nm 6) (rowD q) [x0, some A, x2, x3, x4, some (.list (G.map rowD)), x6, x7, x8, x9] = some [x0, some A, x2, x3, x4, some (.list (G.map rowD)), some (rowD q), x7, x8, x9] := rfl
    rw [hb]
    simp only [rgIn_step hs (gr_comp h1 h2) (fAddL_ok (xs := G.map rowD) (ys := (growQ es q).map rowD) (by rw [List.length_map, List.length_map]; omega))]
    rw [← List.map_append, k, e, List.append_assoc]
theorem done_comp {A : PyData} {as : List Tie} {R : List (List Nat)} {x0 x2 x3 x4 x5 x6 x7 x8 x9 : Option PyData} {S : Store} (hA : A = .tuple (as.map tieD)) (h : ∀ q ∈ R, q ≠ []) (tt : DT) (htt : tt = dTest (d2 (fIn false) (dTup (dCons (d2 fIx (dVar 6) (d1 fNeg (dC (.int 1)))) (dCons (d2 fIx (dVar 6) (dC (.int 0))) (dNil)))) (dVar 1))) :
    compL (.nm 6) tt (dVar 6) [x0, some A, x2, x3, x4, x5, x6, x7, x8, x9] [] (R.map rowD) S = .ok (.list ((R.filter (doneP as)).map rowD)) S := by
  have k := comp_t (t := .nm 6) (tt := tt) (de := dVar 6) (ρ := [x0, some A, x2, x3, x4, x5, x6, x7, x8, x9]) (S := S) (e := rowD) (g := rowD) (p := doneP as) (f := fun q => q) (xs := R) (acc := []) fun q hq => ⟨[x0, some A, x2, x3, x4, x5, some (rowD q), x7, x8, x9], rfl, by
    subst htt
    have hng : fNeg (.int 1) = some (.int (-1)) := rfl
    have h1 := ix_last (h q hq)
    have h2 : fIx (rowD q) (.int 0) = some (natD (q.getD 0 0)) := fIx_row (x := q) (v := 0) (List.length_pos_iff.mpr (h q hq))
    have h3 : fIn false (.tuple [natD (lastN q), natD (q.getD 0 0)]) A = some (.bool (doneP as q)) := by rw [hA]; exact in_tiesT false (lastN q, q.getD 0 0) as
    generalize rowD q = Q at *
    generalize natD (lastN q) = Y at *
    generalize natD (q.getD 0 0) = Z at *
    generalize doneP as q = b at *
    simp [hng, h1, h2, h3, sz_small], fun _ => by simp⟩
  rw [List.nil_append, List.map_id'] at k
  exact k
end K92
namespace K92
open PySem PySem.Spec PyProof.Rows L2 PD
def rgDt : DT := dTest (d2 (fIn false) (dTup (dCons (d2 fIx (dVar 6) (d1 fNeg (dC (.int 1)))) (dCons (d2 fIx (dVar 6) (dC (.int 0))) (dNil)))) (dVar 1))
theorem rgB_stop {rs ds : List PyData} {Z : PyData} {x0 x1 x3 x4 x5 x6 x7 x8 x9 : Option PyData} {S : Store} (hc : compL (.nm 6) rgDt (dVar 6) [x0, x1, some (.list rs), x3, x4, x5, x6, x7, x8, x9] [] rs S = .ok (.list ds) S) (hn : fNe (.list ds) (.list []) = some (.bool true)) (hm : fMM PySem.W.minD (.list ds) = some Z) :
    rgB [x0, x1, some (.list rs), x3, x4, x5, x6, x7, x8, x9] S = .ret Z S := by
  unfold rgB rgD
  change dSeq (dSet 4 (dComp (dIt seqD (dVar 2)) (.nm 6) rgDt (dVar 6))) (dSeq (dIfS (dTest (d2 fNe (dVar 4) (dLst (dNil)))) (dRet (d1 (fMM PySem.W.minD) (dVar 4))) (dNx)) (dSeq (dSet 5 (dLst (dNil))) (dSeq (dFor (dIt seqD (dVar 2)) (.nm 6) rgIn) (dSet 2 (dVar 5))))) _ _ = _
  generalize rgDt = t at *
  generalize rgIn = bd at *
  have hs : seqD (.list rs) = some rs := rfl
  simp [hs, hc, hn, hm, sz_small]
theorem rgB_go {rs gs : List PyData} {x0 x1 x3 x4 x5 x6 x7 x8 x9 y6 : Option PyData} {S : Store} (hc : compL (.nm 6) rgDt (dVar 6) [x0, x1, some (.list rs), x3, x4, x5, x6, x7, x8, x9] [] rs S = .ok (.list []) S)
    (hf : forL (.nm 6) rgIn rs [x0, x1, some (.list rs), x3, some (.list []), some (.list []), x6, x7, x8, x9] S = .nx [x0, x1, some (.list rs), x3, some (.list []), some (.list gs), y6, x7, x8, x9] S) :
    rgB [x0, x1, some (.list rs), x3, x4, x5, x6, x7, x8, x9] S = .nx [x0, x1, some (.list gs), x3, some (.list []), some (.list gs), y6, x7, x8, x9] S := by
  unfold rgB rgD
  change dSeq (dSet 4 (dComp (dIt seqD (dVar 2)) (.nm 6) rgDt (dVar 6))) (dSeq (dIfS (dTest (d2 fNe (dVar 4) (dLst (dNil)))) (dRet (d1 (fMM PySem.W.minD) (dVar 4))) (dNx)) (dSeq (dSet 5 (dLst (dNil))) (dSeq (dFor (dIt seqD (dVar 2)) (.nm 6) rgIn) (dSet 2 (dVar 5))))) _ _ = _
  generalize rgDt = t at *
  generalize rgIn = bd at *
  have hs : seqD (.list rs) = some rs := rfl
  have hn : fNe (.list []) (.list []) = some (.bool false) := rfl
  simp [hs, hc, hn, hf, sz_small]
def ringF (n : Nat) (as : List Tie) (t : Nat) : Bool := !((rowsR n as t).filter (doneP as)).isEmpty
theorem ring_loop {n : Nat} {as : List Tie} {A : PyData} {x0 : Option PyData} {S : Store} (hA : A = .tuple (as.map tieD)) (hn : as.Nodup) (he : ∀ e ∈ as, e.1 ≠ e.2 ∧ e.2 < n) (h5 : n ≤ 5) : ∀ (ds : List PyData) (t : Nat) {x3 x4 x5 x6 x7 x8 x9 : Option PyData}, t + ds.length ≤ n →
    (∃ d, forL (.nm 3) rgB ds [x0, some A, some (.list ((rowsR n as t).map rowD)), x3, x4, x5, x6, x7, x8, x9] S = .ret d S ∧ d ≠ .none ∧ ∃ s, ringF n as s = true) ∨
    (∃ ρ, forL (.nm 3) rgB ds [x0, some A, some (.list ((rowsR n as t).map rowD)), x3, x4, x5, x6, x7, x8, x9] S = .nx ρ S ∧ ∀ s, t ≤ s → s < t + ds.length → ringF n as s = false)
  | [], t, x3, x4, x5, x6, x7, x8, x9, _ => .inr ⟨_, rfl, fun s h1 h2 => by rw [List.length_nil] at h2; omega⟩
  | d :: ds, t, x3, x4, x5, x6, x7, x8, x9, hl => by
    have hA' : seqD A = some (as.map tieD) := by rw [hA]; rfl
    have ro := rows_ok he t
    have hb : Tg.bind (.nm 3) d [x0, some A, some (.list ((rowsR n as t).map rowD)), x3, x4, x5, x6, x7, x8, x9] = some [x0, some A, some (.list ((rowsR n as t).map rowD)), some d, x4, x5, x6, x7, x8, x9] := rfl
    have hc := done_comp (R := rowsR n as t) (x0 := x0) (x2 := some (.list ((rowsR n as t).map rowD))) (x3 := some d) (x4 := x4) (x5 := x5) (x6 := x6) (x7 := x7) (x8 := x8) (x9 := x9) (S := S) hA (fun q hq => (row_last (ro q hq)).1) rgDt rfl
    rw [List.length_cons] at hl
    cases hd : (rowsR n as t).filter (doneP as) with
    | cons q D =>
      left
      obtain ⟨z, hz, hz2⟩ := min_rows (q := q) (R := D)
      rw [hd] at hc
      refine ⟨z, ?_, hz2, t, by unfold ringF; rw [hd]; rfl⟩
      rw [forL_cons, hb]
      simp only [rgB_stop hc (ne_nil (xs := (q :: D).map rowD) (n := 2) (sh_lst (sh_map sh_row))) hz]
    | nil =>
      rw [hd] at hc
      have hlen : (rowsR n as (t + 1)).length ≤ n * 4 ^ (t + 1) := rows_len hn he h5 (t + 1)
      have hp : n * 4 ^ (t + 1) ≤ 10000 := by
        have h1 : 4 ^ (t + 1) ≤ 4 ^ 5 := Nat.pow_le_pow_right (by omega) (by omega)
        have h2 := Nat.mul_le_mul h5 h1
        have h3 : 5 * 4 ^ 5 = 5120 := by decide
        omega
      obtain ⟨y6, hf⟩ := rgIn_loop (x0 := x0) (x2 := some (.list ((rowsR n as t).map rowD))) (x3 := some d) (x4 := some (.list [])) (x7 := x7) (x8 := x8) (x9 := x9) (S := S) hA' (R := rowsR n as t) (G := []) (x6 := x6) (fun q hq => ⟨(row_last (ro q hq)).1, by have := (ro q hq).2.2.1; omega⟩) (by
        rw [List.length_nil]
        have : (growF as (rowsR n as t)).length ≤ n * 4 ^ (t + 1) := hlen
        omega)
      rw [List.nil_append] at hf
      have hg := rgB_go hc hf
      rcases ring_loop hA hn he h5 ds (t + 1) (x3 := some d) (x4 := some (.list [])) (x5 := some (.list ((growF as (rowsR n as t)).map rowD))) (x6 := y6) (x7 := x7) (x8 := x8) (x9 := x9) (by omega) with ⟨z, k1, k2, k3⟩ | ⟨ρ, k1, k2⟩
      · left
        refine ⟨z, ?_, k2, k3⟩
        rw [forL_cons, hb]
        simp only [hg]
        exact k1
      · right
        refine ⟨ρ, ?_, fun s h1 h2 => ?_⟩
        · rw [forL_cons, hb]
          simp only [hg]
          exact k1
        · by_cases hs : s = t
          · subst hs
            unfold ringF
            rw [hd]
            rfl
          · rw [List.length_cons] at h2
            exact k2 s (by omega) (by omega)
theorem ring_fin {N A R : PyData} {nn : Int} {r : RS} {Z : PyData} {S : Store} (hN : N = .int nn) (c1 : cR nn = true) (c2 : sz nn.toNat = true) (h0 : compL (.nm 7) dYes (dTup (dCons (dVar 7) (dNil))) [some N, some A, none, none, none, none, none, none, none, none] [] (rngD 0 nn.toNat) S = .ok R S)
    (h : forL (.nm 3) rgB (rngD 0 nn.toNat) [some N, some A, some R, none, none, none, none, none, none, none] S = r) (hr : (r = .ret Z S) ∨ ((∃ ρ, r = .nx ρ S) ∧ Z = .none)) : d__law_ring [N, A] S = .ok Z S := by
  subst hN
  unfold d__law_ring dFn b__law_ring env0
  change PD.RS.fin false (dSeq (dSet 2 (dComp (dRng1 (dVar 0)) (.nm 7) (dYes) (dTup (dCons (dVar 7) (dNil))))) (dSeq (dFor (dRng1 (dVar 0)) (.nm 3) rgB) (dRet (dC .none))) _ _) = _
  generalize rgB = bd at *
  rcases hr with rfl | ⟨⟨ρ, rfl⟩, rfl⟩
  · simp [h0, c1, c2, h, RS.fin, -ap_tup]
  · simp [h0, c1, c2, h, RS.fin, -ap_tup]
theorem ring_ok {n : Nat} {as : List Tie} {A : PyData} (hA : A = .tuple (as.map tieD)) (hn : as.Nodup) (he : ∀ e ∈ as, e.1 ≠ e.2 ∧ e.2 < n) (h5 : n ≤ 5) (S : Store) : ∃ d, d__law_ring [natD n, A] S = .ok d S ∧ (d = .none → ∀ s, s < n → ringF n as s = false) ∧ (d ≠ .none → ∃ s, ringF n as s = true) := by
  have h0 := comp_y (t := .nm 7) (de := dTup (dCons (dVar 7) (dNil))) (ρ := [some (natD n), some A, none, none, none, none, none, none, none, none]) (S := S) (e := natD) (g := rowD) (f := fun v => [v]) (xs := List.range n) (acc := []) fun v _ => ⟨[some (natD n), some A, none, none, none, none, none, some (natD v), none, none], rfl, by simp [sz_small, rowD]⟩
  rw [List.nil_append] at h0
  have er : rngD 0 n = (List.range n).map natD := rngD0 n
  have el : (rngD 0 n).length = n := by unfold rngD; rw [List.length_map, List.length_range]
  rw [← er] at h0
  have c1 : cR (n : Int) = true := cR_small (by omega) (by omega)
  have c2 : sz (n : Int).toNat = true := sz_small (by omega)
  rcases ring_loop (x0 := some (natD n)) (S := S) hA hn he h5 (rngD 0 n) 0 (x3 := none) (x4 := none) (x5 := none) (x6 := none) (x7 := none) (x8 := none) (x9 := none) (by omega) with ⟨z, k1, k2, k3⟩ | ⟨ρ, k1, k2⟩
  · exact ⟨z, ring_fin rfl c1 c2 h0 k1 (.inl rfl), fun e => absurd e k2, fun _ => k3⟩
  · exact ⟨.none, ring_fin rfl c1 c2 h0 k1 (.inr ⟨⟨ρ, rfl⟩, rfl⟩), fun _ s hs => k2 s (Nat.zero_le _) (by omega), fun e => absurd rfl e⟩
end K92
namespace K92
open PySem PySem.Spec PyProof.Rows L2 PD
/-! levels and rings: plain laws -/
def Feas (es : List Tie) (f : Nat → Nat) : Prop := ∀ e ∈ es, f e.1 + 1 ≤ f e.2
theorem feas_desc {es : List Tie} {f : Nat → Nat} (h : Feas es f) : ∀ {q : List Nat} {b : Nat}, Wk es (b :: q) → ∀ v ∈ q, f v + 1 ≤ f b
  | [], _, _, v, hv => by cases hv
  | a :: q, b, hw, v, hv => by
    obtain ⟨h1, h2⟩ := wk_tail hw
    have h3 := h _ h1
    rcases List.mem_cons.mp hv with rfl | hv
    · exact h3
    · have := feas_desc h h2 v hv
      have h3 : f a + 1 ≤ f b := h3
      omega
theorem feas_nodup {es : List Tie} {f : Nat → Nat} (h : Feas es f) : ∀ {q : List Nat}, Wk es q → q.Nodup
  | [], _ => List.nodup_nil
  | [v], _ => List.pairwise_singleton _ _
  | b :: a :: q, hw => List.nodup_cons.mpr ⟨fun hm => by have := feas_desc h hw b hm; omega, feas_nodup h (wk_tail hw).2⟩
theorem wk_lt {n : Nat} {es : List Tie} (he : ∀ e ∈ es, e.1 < n ∧ e.2 < n) : ∀ {q : List Nat} {b : Nat}, Wk es (b :: q) → b < n → ∀ v ∈ b :: q, v < n
  | [], b, _, hb, v, hv => by rw [List.mem_singleton] at hv; rw [hv]; exact hb
  | a :: q, b, hw, hb, v, hv => by
    obtain ⟨h1, h2⟩ := wk_tail hw
    rcases List.mem_cons.mp hv with rfl | hv
    · exact hb
    · exact wk_lt he h2 (he _ h1).1 v hv
theorem lev_feas {n : Nat} {es : List Tie} (he : ∀ e ∈ es, e.1 ≠ e.2 ∧ e.1 < n ∧ e.2 < n) (hw : ∀ q, Wk es q → q.Nodup) : Feas es (fun v => (levR es n (List.replicate n 0)).getD v 0) ∧ ∀ v, v < n → (levR es n (List.replicate n 0)).getD v 0 < n := by
  have hl : ∀ e ∈ es, e.2 < (List.replicate n 0).length := fun e hm => by rw [List.length_replicate]; exact (he e hm).2.2
  have h0 : WkL es (List.replicate n 0) := fun v => ⟨[], .one v, by
    rw [List.getD_eq_getElem?_getD, List.getElem?_replicate]
    split <;> rfl⟩
  have h1 := wk_levR n h0 hl
  have hb : ∀ v, v < n → (levR es n (List.replicate n 0)).getD v 0 < n := fun v hv => by
    obtain ⟨q, k1, k2⟩ := h1 v
    have := nodup_len (n := n) (hw _ k1) (wk_lt (fun e hm => (he e hm).2) k1 hv)
    rw [List.length_cons] at this
    omega
  refine ⟨fun e hm => ?_, hb⟩
  have := lev_claim (fun e hm => (he e hm).1) n 0 hl (fun e _ => .inr (Nat.zero_le _)) e hm
  have h2 := hb e.2 (he e hm).2.2
  rcases this with h | h
  · exact h
  · omega
theorem noring_nodup {n : Nat} {es : List Tie} (he : ∀ e ∈ es, e.1 ≠ e.2 ∧ e.1 < n ∧ e.2 < n) (hr : ∀ s, s < n → ringF n es s = false) : ∀ q, Wk es q → q.Nodup := by
  intro q hq
  refine Classical.byContradiction fun hn => ?_
  obtain ⟨c, k1, k2, x, y, p, rfl, k4, k5⟩ := wk_ring hq hn
  have hv := wk_lt (fun e hm => (he e hm).2) k1 (he _ k5).2.1
  have hl := nodup_len (n := n) k2 hv
  have hm := rows_all (n := n) (fun e hm => (he e hm).2) p.length k1 k2 rfl hv
  have h2 := hr p.length (by rw [List.length_cons] at hl; omega)
  unfold ringF at h2
  have hf : (x :: p).reverse ∈ (rowsR n es p.length).filter (doneP es) := by
    refine List.mem_filter.mpr ⟨hm, ?_⟩
    unfold doneP
    rw [last_rev, decide_eq_true_eq]
    have : (x :: p).reverse.getD 0 0 = y := by
      rw [List.getD_eq_getElem?_getD, ← List.head?_eq_getElem?, List.head?_reverse, k4]
      rfl
    rw [this]
    exact k5
  cases hg : (rowsR n es p.length).filter (doneP es) with
  | nil => rw [hg] at hf; cases hf
  | cons a b => rw [hg] at h2; cases h2
theorem ring_nofeas {n s : Nat} {es : List Tie} (he : ∀ e ∈ es, e.1 ≠ e.2 ∧ e.2 < n) (h : ringF n es s = true) (f : Nat → Nat) : ¬ Feas es f := by
  intro hf
  unfold ringF at h
  cases hg : (rowsR n es s).filter (doneP es) with
  | nil => rw [hg] at h; cases h
  | cons q D =>
    have hq : q ∈ (rowsR n es s).filter (doneP es) := by rw [hg]; exact List.mem_cons_self
    obtain ⟨h1, h2⟩ := List.mem_filter.mp hq
    obtain ⟨k1, k2, k3, k4⟩ := rows_ok he s q h1
    unfold doneP at h2
    rw [decide_eq_true_eq] at h2
    have h3 : f (lastN q) + 1 ≤ f (q.getD 0 0) := hf _ h2
    cases hr : q.reverse with
    | nil =>
      have : q = [] := by rw [← List.reverse_reverse q, hr]; rfl
      rw [this] at k3
      cases k3
    | cons x p =>
      have e : q = (x :: p).reverse := by rw [← hr, List.reverse_reverse]
      have hx : lastN q = x := by rw [e, last_rev]
      have hm : q.getD 0 0 ∈ x :: p := by
        rw [← hr, List.mem_reverse, List.getD_eq_getElem?_getD, List.getElem?_eq_getElem (by omega : 0 < q.length)]
        exact List.getElem_mem _
      rw [hr] at k1
      rw [hx] at h3
      rcases List.mem_cons.mp hm with h4 | h4
      · rw [h4] at h3; omega
      · have := feas_desc hf k1 _ h4
        omega
/-! the listing with arrows only -/
theorem getD_map {f : Nat → Nat} {n v : Nat} (h : v < n) : ((List.range n).map f).getD v 0 = f v := by
  rw [List.getD_eq_getElem?_getD, List.getElem?_map, List.getElem?_range h]
  rfl
theorem times_feas {as : List Tie} {k n : Nat} {f : Nat → Nat} (hf : Feas as f) : ∀ v, v ≤ n → (∀ x, x < n → f x < k) → (List.range v).map f ∈ timesN [] as k v
  | 0, _, _ => List.mem_singleton.mpr rfl
  | v + 1, hv, hk => by
    have ih := times_feas hf v (by omega) hk
    refine List.mem_flatMap.mpr ⟨_, ih, ?_⟩
    unfold extT
    refine List.mem_map.mpr ⟨f v, List.mem_filter.mpr ⟨List.mem_range.mpr (hk v (by omega)), ?_⟩, by rw [List.range_succ, List.map_append]; rfl⟩
    have e : (List.range v).map f ++ [f v] = (List.range (v + 1)).map f := by rw [List.range_succ, List.map_append]; rfl
    rw [e, fits_iff]
    refine ⟨fun t ht => (by cases ht), fun a ha hl => ?_⟩
    rw [List.length_map, List.length_range] at hl
    rw [getD_map (by omega), getD_map (by omega)]
    exact hf a ha
theorem times_sound {ts as : List Tie} {k : Nat} : ∀ {v : Nat} {r : List Nat}, r ∈ timesN ts as k v → (∀ x ∈ r, x < k) ∧ ∀ a ∈ as, max a.1 a.2 < v → r.getD a.1 0 < r.getD a.2 0
  | 0, r, h => by
    have : r = [] := by simpa [timesN] using h
    subst this
    exact ⟨fun x hx => (by cases hx), fun a _ h => absurd h (Nat.not_lt_zero _)⟩
  | v + 1, r, h => by
    have hl := times_member_len h
    obtain ⟨q, h1, h2⟩ := List.mem_flatMap.mp h
    unfold extT at h2
    obtain ⟨c, h3, rfl⟩ := List.mem_map.mp h2
    obtain ⟨h4, h5⟩ := List.mem_filter.mp h3
    refine ⟨fun x hx => ?_, fun a ha hm => (fits_iff.mp h5).2 a ha (by rw [hl]; exact hm)⟩
    rcases List.mem_append.mp hx with hx | hx
    · exact (times_sound h1).1 x hx
    · rw [List.mem_singleton] at hx
      rw [hx]
      exact List.mem_range.mp h4
theorem low_is {R : List (List Nat)} {a m : Nat} : ∀ {k : Nat}, m ≤ k → (∀ r ∈ R, m ≤ r.getD a 0) → (k = m ∨ ∃ r ∈ R, r.getD a 0 = m) → lowR k R a = m := by
  unfold lowR
  induction R with
  | nil =>
    intro k _ _ h
    rcases h with h | ⟨r, hr, _⟩
    · exact h
    · cases hr
  | cons r R ih =>
    intro k hk h1 h2
    have hr := h1 r List.mem_cons_self
    rw [List.foldl_cons]
    refine ih (by omega) (fun q hq => h1 q (List.mem_cons_of_mem _ hq)) ?_
    rcases h2 with h2 | ⟨q, hq, e⟩
    · left; omega
    · rcases List.mem_cons.mp hq with rfl | hq
      · left; omega
      · exact .inr ⟨q, hq, e⟩
theorem high_is {R : List (List Nat)} {a m : Nat} (h1 : ∀ r ∈ R, r.getD a 0 ≤ m) (h2 : ∃ r ∈ R, r.getD a 0 = m) : highR R a = (m : Int) := by
  have key : ∀ (R : List (List Nat)) (k : Int), k ≤ m → (∀ r ∈ R, r.getD a 0 ≤ m) → (k = m ∨ ∃ r ∈ R, r.getD a 0 = m) → R.foldl (fun m r => max m (r.getD a 0 : Int)) k = (m : Int) := by
    intro R
    induction R with
    | nil =>
      intro k _ _ h
      rcases h with h | ⟨r, hr, _⟩
      · exact h
      · cases hr
    | cons r R ih =>
      intro k hk h1 h2
      have hr := h1 r List.mem_cons_self
      rw [List.foldl_cons]
      refine ih _ (by omega) (fun q hq => h1 q (List.mem_cons_of_mem _ hq)) ?_
      rcases h2 with h2 | ⟨q, hq, e⟩
      · left; omega
      · rcases List.mem_cons.mp hq with rfl | hq
        · left; omega
        · exact .inr ⟨q, hq, e⟩
  exact key R (-1) (by omega) h1 (.inr h2)
end K92
namespace K92
open PySem PySem.Spec PyProof.Rows L2 PD
/-! arrows only: the windows are the levels from either end -/
def turnT (e : Tie) : Tie := (e.2, e.1)
def loL (as : List Tie) (n : Nat) : List Nat := levR as n (List.replicate n 0)
def bkL (as : List Tie) (n : Nat) : List Nat := levR (as.map turnT) n (List.replicate n 0)
theorem levR_len (es : List Tie) : ∀ (t : Nat) (L : List Nat), (levR es t L).length = L.length
  | 0, _ => rfl
  | t + 1, L => (levR_len es t _).trans (fold_len es L)
theorem rep_zero (n v : Nat) : (List.replicate n 0).getD v 0 = 0 := by
  rw [List.getD_eq_getElem?_getD, List.getElem?_replicate]
  split <;> rfl
theorem turn_arrow {n : Nat} {as : List Tie} (he : ∀ e ∈ as, e.1 ≠ e.2 ∧ e.1 < n ∧ e.2 < n) : ∀ e ∈ as.map turnT, e.1 ≠ e.2 ∧ e.1 < n ∧ e.2 < n := by
  intro e hm
  obtain ⟨a, ha, rfl⟩ := List.mem_map.mp hm
  obtain ⟨h1, h2, h3⟩ := he a ha
  exact ⟨fun q => h1 q.symm, h3, h2⟩
theorem turn_feas {as : List Tie} {f : Nat → Nat} {w : Nat} (hf : Feas as f) (hb : ∀ e ∈ as, f e.1 < w ∧ f e.2 < w) : Feas (as.map turnT) fun v => w - 1 - f v := by
  intro e hm
  obtain ⟨a, ha, rfl⟩ := List.mem_map.mp hm
  have h1 := hf a ha
  have h2 := hb a ha
  show w - 1 - f a.2 + 1 ≤ w - 1 - f a.1
  omega
theorem back_feas {as : List Tie} {f : Nat → Nat} {w : Nat} (hf : Feas (as.map turnT) f) (hb : ∀ e ∈ as, f e.1 < w ∧ f e.2 < w) : Feas as fun v => w - 1 - f v := by
  intro a ha
  have h1 := hf (turnT a) (List.mem_map.mpr ⟨a, ha, rfl⟩)
  have h1 : f a.2 + 1 ≤ f a.1 := h1
  have h2 := hb a ha
  show w - 1 - f a.1 + 1 ≤ w - 1 - f a.2
  omega
structure Lev (n : Nat) (as : List Tie) : Prop where
  low : Feas as fun v => (loL as n).getD v 0
  lowN : ∀ v, v < n → (loL as n).getD v 0 < n
  back : Feas (as.map turnT) fun v => (bkL as n).getD v 0
  backN : ∀ v, v < n → (bkL as n).getD v 0 < n
theorem lev_of {n : Nat} {as : List Tie} (he : ∀ e ∈ as, e.1 ≠ e.2 ∧ e.1 < n ∧ e.2 < n) (hr : ∀ s, s < n → ringF n as s = false) : Lev n as := by
  obtain ⟨h1, h2⟩ := lev_feas he (noring_nodup he hr)
  have h3 := turn_feas (w := n) h1 fun e hm => ⟨h2 _ (he e hm).2.1, h2 _ (he e hm).2.2⟩
  obtain ⟨h4, h5⟩ := lev_feas (turn_arrow he) fun q hq => feas_nodup h3 hq
  exact ⟨h1, h2, h4, h5⟩
/-- any times of the arrows lie between -/
theorem low_le_f {n : Nat} {as : List Tie} {f : Nat → Nat} (he : ∀ e ∈ as, e.1 ≠ e.2 ∧ e.1 < n ∧ e.2 < n) (hf : Feas as f) (v : Nat) : (loL as n).getD v 0 ≤ f v :=
  lev_least n (L := List.replicate n 0) (fun e hm => ⟨by rw [List.length_replicate]; exact (he e hm).2.2, hf e hm⟩) (fun v => by rw [rep_zero]; exact Nat.zero_le _) v
theorem row_feas {as : List Tie} {w n : Nat} {r : List Nat} (he : ∀ e ∈ as, e.1 ≠ e.2 ∧ e.1 < n ∧ e.2 < n) (h : r ∈ timesN [] as w n) : Feas as (fun v => r.getD v 0) ∧ ∀ v, v < n → r.getD v 0 < w := by
  obtain ⟨h1, h2⟩ := times_sound h
  have hl := times_member_len h
  refine ⟨fun e hm => h2 e hm (by have := (he e hm).2; omega), fun v hv => ?_⟩
  rw [List.getD_eq_getElem?_getD, List.getElem?_eq_getElem (by omega : v < r.length)]
  exact h1 _ (List.getElem_mem _)
theorem back_le_row {as : List Tie} {w n : Nat} {f : Nat → Nat} (he : ∀ e ∈ as, e.1 ≠ e.2 ∧ e.1 < n ∧ e.2 < n) (hf : Feas as f) (hb : ∀ v, v < n → f v < w) (v : Nat) : (bkL as n).getD v 0 ≤ w - 1 - f v :=
  low_le_f (turn_arrow he) (turn_feas (w := w) hf fun e hm => ⟨hb _ (he e hm).2.1, hb _ (he e hm).2.2⟩) v
theorem arrow_low {n w : Nat} {as : List Tie} (he : ∀ e ∈ as, e.1 ≠ e.2 ∧ e.1 < n ∧ e.2 < n) (l : Lev n as) (hw : ∀ v, v < n → (loL as n).getD v 0 < w) {a : Nat} (ha : a < n) : lowR w (timesN [] as w n) a = (loL as n).getD a 0 := by
  refine low_is (Nat.le_of_lt (hw a ha)) (fun r hr => low_le_f he (row_feas he hr).1 a) (.inr ⟨_, times_feas l.low n (Nat.le_refl _) hw, ?_⟩)
  rw [getD_map ha]
theorem back_lt {n w : Nat} {as : List Tie} (he : ∀ e ∈ as, e.1 ≠ e.2 ∧ e.1 < n ∧ e.2 < n) (l : Lev n as) (hw : ∀ v, v < n → (loL as n).getD v 0 < w) {a : Nat} (ha : a < n) : (bkL as n).getD a 0 < w := by
  have h1 := back_le_row he l.low hw a
  have h2 := hw a ha
  omega
theorem arrow_high {n w : Nat} {as : List Tie} (he : ∀ e ∈ as, e.1 ≠ e.2 ∧ e.1 < n ∧ e.2 < n) (l : Lev n as) (hw : ∀ v, v < n → (loL as n).getD v 0 < w) {a : Nat} (ha : a < n) : highR (timesN [] as w n) a = ((w - 1 - (bkL as n).getD a 0 : Nat) : Int) := by
  refine high_is (fun r hr => ?_) ⟨(List.range n).map fun v => w - 1 - (bkL as n).getD v 0, times_feas ?_ n (Nat.le_refl _) fun v hv => ?_, getD_map ha⟩
  · have h1 := row_feas he hr
    have h2 := back_le_row he h1.1 h1.2 a
    have h3 := h1.2 a ha
    omega
  · exact back_feas l.back fun e hm => ⟨back_lt he l hw (he e hm).2.1, back_lt he l hw (he e hm).2.2⟩
  · have := back_lt he l hw hv
    omega
theorem arrow_win {n w : Nat} {as : List Tie} (he : ∀ e ∈ as, e.1 ≠ e.2 ∧ e.1 < n ∧ e.2 < n) (l : Lev n as) (hw : ∀ v, v < n → (loL as n).getD v 0 < w) : winD n w (timesN [] as w n) = .tuple ((List.range n).map fun a => .tuple [natD ((loL as n).getD a 0), natD (w - 1 - (bkL as n).getD a 0)]) := by
  unfold winD
  have hne : timesN [] as w n ≠ [] := fun e => by
    have := times_feas l.low n (Nat.le_refl _) hw
    rw [e] at this
    cases this
  rw [if_neg hne]
  congr 1
  refine List.map_congr_left fun a ha => ?_
  have ha := List.mem_range.mp ha
  rw [arrow_low he l hw ha, arrow_high he l hw ha]
/-- a ring: no times at all, however many -/
theorem ring_none {n s k : Nat} {ts as : List Tie} (he : ∀ e ∈ as, e.1 ≠ e.2 ∧ e.1 < n ∧ e.2 < n) (h : ringF n as s = true) : timesN ts as k n = [] := by
  cases ht : timesN ts as k n with
  | nil => rfl
  | cons r R =>
    have hr : r ∈ timesN ts as k n := by rw [ht]; exact List.mem_cons_self
    refine absurd (fun e hm => ?_) (ring_nofeas (fun e hm => ⟨(he e hm).1, (he e hm).2.2⟩) h fun v => r.getD v 0)
    exact (times_sound hr).2 e hm (by have := (he e hm).2; omega)
end K92
namespace K92
open PySem PySem.Spec PyProof.Rows L2 PD
/-! ### the law's turn, statement by statement -/
def c1 : DS := dSet 3 (dCall d__law_mixed (dCons dSt (dCons (dC (.int 5)) (dNil))))
def c2 : DS := dPar [4, 5] (dCons (d2 fIx (dVar 3) (dC (.int 0))) (dCons (d2 fAdd (dC (.int 1)) (dCall d__law_draw (dCons dSt (dCons (dC (.int 4)) (dNil))))) (dNil)))
def c3 : DS := dSet 6 (dCall d__law_times (dCons (dVar 3) (dCons (dVar 5) (dNil))))
def c4 : DS := dIfS (dTest (d2 fNe (dCall d_time_count (dCons (dVar 3) (dCons (dVar 5) (dNil)))) (d1 fLen (dVar 6)))) (dRet (dC (.bool false))) (dNx)
def c5 : DS := dIfS (dTest (d2 fEq (dVar 6) (dLst (dNil)))) (dIfS (dOr (dTest (d2 (fIsN true) (dCall d_windows (dCons (dVar 3) (dCons (dVar 5) (dNil)))) (dC .none))) (dTest (d2 (fIsN true) (dCall d_sure_ahead (dCons (dVar 3) (dCons (dVar 5) (dNil)))) (dC .none)))) (dRet (dC (.bool false))) (dNx)) (dSeq (dPar [7, 8] (dCons (dLst (dNil)) (dCons (dLst (dNil)) (dNil)))) (dSeq (dFor (dRng1 (dVar 4)) (.nm 9) (dSeq (dApp 7 (dTup (dCons (d1 (fMM PySem.W.minD) (dComp (dIt seqD (dVar 6)) (.nm 21) (dYes) (d2 fIx (dVar 21) (dVar 9)))) (dCons (d1 (fMM PySem.W.maxD) (dComp (dIt seqD (dVar 6)) (.nm 21) (dYes) (d2 fIx (dVar 21) (dVar 9)))) (dNil))))) (dSet 8 (d2 fAddL (dVar 8) (dComp (dRng1 (dVar 4)) (.nm 17) (dAnd (dTest (d2 fNe (dVar 9) (dVar 17))) (dTest (d1 (fBs fun bs => bs.all _root_.id) (dComp (dIt seqD (dVar 6)) (.nm 21) (dYes) (d2 fLt (d2 fIx (dVar 21) (dVar 9)) (d2 fIx (dVar 21) (dVar 17))))))) (dTup (dCons (dVar 9) (dCons (dVar 17) (dNil))))))))) (dSeq (dIfS (dOr (dTest (d2 fNe (dCall d_windows (dCons (dVar 3) (dCons (dVar 5) (dNil)))) (d1 fTuple (dVar 7)))) (dTest (d2 fNe (dCall d_sure_ahead (dCons (dVar 3) (dCons (dVar 5) (dNil)))) (d1 fTuple (dVar 8))))) (dRet (dC (.bool false))) (dNx)) (dIfS (dNot (dTest (d1 (fBs fun bs => bs.all _root_.id) (dComp (dIt seqD (d2 fIx (dVar 3) (dC (.int 2)))) (.nm 18) (dYes) (d2 (fIn false) (dVar 18) (dVar 8)))))) (dRet (dC (.bool false))) (dNx)))))
def c6 : DS := dSet 10 (dTup (dCons (dVar 4) (dCons (dTup (dNil)) (dCons (d2 fIx (dVar 3) (dC (.int 2))) (dNil)))))
def c7 : DS := dIfS (dTest (d2 (fIsN false) (dCall d__law_ring (dCons (dVar 4) (dCons (d2 fIx (dVar 3) (dC (.int 2))) (dNil)))) (dC .none))) (dSeq (dPar [11, 12] (dCons (dCall d__law_levels (dCons (dVar 4) (dCons (d2 fIx (dVar 3) (dC (.int 2))) (dNil)))) (dCons (dCall d__law_levels (dCons (dVar 4) (dCons (dComp (dIt seqD (d2 fIx (dVar 3) (dC (.int 2)))) (.tup [9, 17]) (dYes) (dTup (dCons (dVar 17) (dCons (dVar 9) (dNil))))) (dNil)))) (dNil)))) (dSeq (dSet 13 (d2 fAdd (d2 fAdd (dC (.int 1)) (d1 (fMM PySem.W.maxD) (dVar 11))) (dCall d__law_draw (dCons dSt (dCons (dC (.int 2)) (dNil)))))) (dIfS (dTest (d2 fNe (dCall d_windows (dCons (dVar 10) (dCons (dVar 13) (dNil)))) (d1 fTuple (dComp (dIt2 fZipM (dVar 11) (dVar 12)) (.tup [19, 20]) (dYes) (dTup (dCons (dVar 19) (dCons (d2 (fI (fun _ _ => true) fun i j => i - j) (d2 (fI (fun _ _ => true) fun i j => i - j) (dVar 13) (dC (.int 1))) (dVar 20)) (dNil)))))))) (dRet (dC (.bool false))) (dNx)))) (dNx)
def c8 : DS := dPar [14, 15] (dCons (dCall d__law_no_mixed (dCons dSt (dNil))) (dCons (dCall d__law_any (dCons dSt (dCons (dLst (dCons (dC .none) (dCons (dC (.int 0)) (dCons (dC (.int 9)) (dCons (dC (.bool true)) (dCons (dC (.str "1")) (dNil))))))) (dNil)))) (dNil)))
def c9 : DS := dSet 16 (dLst (dCons (dLam 5 bl__law_word (dCall d_windows (dCons (dVar 14) (dCons (dVar 15) (dNil))))) (dNil)))
def c10 : DS := dApp 16 (dLam 5 bl__law_word (dCall d_windows (dCons (dVar 3) (dCons (dVar 15) (dNil)))))
def c11 : DS := dApp 16 (dLam 5 bl__law_word (dCall d_sure_ahead (dCons (dVar 14) (dCons (dVar 15) (dNil)))))
def c12 : DS := dApp 16 (dLam 5 bl__law_word (dCall d_sure_ahead (dCons (dVar 3) (dCons (dVar 15) (dNil)))))
def c13 : DS := dApp 16 (dLam 5 bl__law_word (dCall d_time_count (dCons (dVar 3) (dCons (dVar 15) (dNil)))))
def c14 : DS := dIfS (dTest (d2 fNe (dVar 16) (dLst (dCons (dC (.str "mixed")) (dCons (dC (.str "count")) (dCons (dC (.str "mixed")) (dCons (dC (.str "count")) (dCons (dC (.str "count")) (dNil))))))))) (dRet (dC (.bool false))) (dNx)
def tbody : DS := dSeq c1 (dSeq c2 (dSeq c3 (dSeq c4 (dSeq c5 (dSeq c6 (dSeq c7 (dSeq c8 (dSeq c9 (dSeq c10 (dSeq c11 (dSeq c12 (dSeq c13 (c14)))))))))))))
theorem dr_eq : dr_law = dSeq (dFor (dRng1 (dC (.int 3))) (.nm 2) tbody) (dRet (dC (.bool true))) := rfl
/-! columns -/
theorem fold_min_nat (a : Nat) : ∀ (R : List (List Nat)) (x : Nat), (R.map fun r => ((r.getD a 0 : Nat) : Int)).foldl min (x : Int) = ((R.foldl (fun m r => min m (r.getD a 0)) x : Nat) : Int)
  | [], _ => rfl
  | r :: R, x => by
    rw [List.map_cons, List.foldl_cons, List.foldl_cons, ← fold_min_nat a R]
    congr 1
    omega
theorem col_min {R : List (List Nat)} {r : List Nat} {a k : Nat} (h : r.getD a 0 < k) : fMM PySem.W.minD (.list ((r :: R).map fun r => natD (r.getD a 0))) = some (natD (lowR k (r :: R) a)) := by
  have h1 := min_ints ((r.getD a 0 : Nat) : Int) (R.map fun r => ((r.getD a 0 : Nat) : Int))
  rw [fold_min_nat] at h1
  have e : lowR k (r :: R) a = R.foldl (fun m r => min m (r.getD a 0)) (r.getD a 0) := by
    unfold lowR
    rw [List.foldl_cons, Nat.min_eq_right (Nat.le_of_lt h)]
  rw [e]
  rw [List.map_cons, List.map_map] at h1
  exact h1
theorem col_max {R : List (List Nat)} {r : List Nat} {a : Nat} : fMM PySem.W.maxD (.list ((r :: R).map fun r => natD (r.getD a 0))) = some (.int (highR (r :: R) a)) := by
  have h1 := max_ints ((r.getD a 0 : Nat) : Int) (R.map fun r => ((r.getD a 0 : Nat) : Int))
  have e : highR (r :: R) a = (R.map fun r => ((r.getD a 0 : Nat) : Int)).foldl max ((r.getD a 0 : Nat) : Int) := by
    unfold highR
    rw [List.foldl_cons, List.foldl_map]
    congr 1
  rw [e]
  rw [List.map_cons, List.map_map] at h1
  exact h1
section
variable {x0 x1 x2 x3 x4 x5 x6 x7 x8 x9 x10 x11 x12 x13 x14 x15 x16 x17 x18 x19 x20 x21 : Option PyData} {S S1 S2 : Store}
theorem k1 {M : PyData} (h : d__law_mixed [.none, .int 5] S = .ok M S1) : c1 [x0, x1, x2, x3, x4, x5, x6, x7, x8, x9, x10, x11, x12, x13, x14, x15, x16, x17, x18, x19, x20, x21] S = .nx [x0, x1, x2, (some M), x4, x5, x6, x7, x8, x9, x10, x11, x12, x13, x14, x15, x16, x17, x18, x19, x20, x21] S1 := by
  unfold c1
  simp [h]
theorem k2 {M N : PyData} {i j : Int} (h : fIx M (.int 0) = some N) (h2 : d__law_draw [.none, .int 4] S = .ok (.int i) S1) (e : 1 + i = j) : c2 [x0, x1, x2, (some M), x4, x5, x6, x7, x8, x9, x10, x11, x12, x13, x14, x15, x16, x17, x18, x19, x20, x21] S = .nx [x0, x1, x2, (some M), (some N), (some (.int j)), x6, x7, x8, x9, x10, x11, x12, x13, x14, x15, x16, x17, x18, x19, x20, x21] S1 := by
  unfold c2
  simp [h, h2, e, setAll]
theorem k3 {M K R : PyData} (h : d__law_times [M, K] S = .ok R S) : c3 [x0, x1, x2, (some M), x4, (some K), x6, x7, x8, x9, x10, x11, x12, x13, x14, x15, x16, x17, x18, x19, x20, x21] S = .nx [x0, x1, x2, (some M), x4, (some K), (some R), x7, x8, x9, x10, x11, x12, x13, x14, x15, x16, x17, x18, x19, x20, x21] S := by
  unfold c3
  simp [h]
theorem k4 {M K R C : PyData} (h : d_time_count [M, K] S = .ok C S) (hl : fLen R = some C) (hn : fNe C C = some (.bool false)) : c4 [x0, x1, x2, (some M), x4, (some K), (some R), x7, x8, x9, x10, x11, x12, x13, x14, x15, x16, x17, x18, x19, x20, x21] S = .nx [x0, x1, x2, (some M), x4, (some K), (some R), x7, x8, x9, x10, x11, x12, x13, x14, x15, x16, x17, x18, x19, x20, x21] S := by
  unfold c4
  simp [h, hl, hn]
theorem k5n {M K : PyData} (h1 : d_windows [M, K] S = .ok .none S) (h2 : d_sure_ahead [M, K] S = .ok .none S) : c5 [x0, x1, x2, (some M), x4, (some K), (some (.list [])), x7, x8, x9, x10, x11, x12, x13, x14, x15, x16, x17, x18, x19, x20, x21] S = .nx [x0, x1, x2, (some M), x4, (some K), (some (.list [])), x7, x8, x9, x10, x11, x12, x13, x14, x15, x16, x17, x18, x19, x20, x21] S := by
  have he : fEq (.list []) (.list []) = some (.bool true) := rfl
  have hi : fIsN true .none .none = some (.bool false) := rfl
  unfold c5
  simp [h1, h2, he, hi, sz_small]
theorem k6 {M N A : PyData} (h : fIx M (.int 2) = some A) : c6 [x0, x1, x2, (some M), (some N), x5, x6, x7, x8, x9, x10, x11, x12, x13, x14, x15, x16, x17, x18, x19, x20, x21] S = .nx [x0, x1, x2, (some M), (some N), x5, x6, x7, x8, x9, (some (.tuple [N, .tuple [], A])), x11, x12, x13, x14, x15, x16, x17, x18, x19, x20, x21] S := by
  unfold c6
  simp [h, sz_small]
theorem k7r {M N A Z : PyData} (h : fIx M (.int 2) = some A) (h1 : d__law_ring [N, A] S = .ok Z S) (h2 : fIsN false Z .none = some (.bool false)) : c7 [x0, x1, x2, (some M), (some N), x5, x6, x7, x8, x9, x10, x11, x12, x13, x14, x15, x16, x17, x18, x19, x20, x21] S = .nx [x0, x1, x2, (some M), (some N), x5, x6, x7, x8, x9, x10, x11, x12, x13, x14, x15, x16, x17, x18, x19, x20, x21] S := by
  unfold c7
  simp [h, h1, h2]
theorem k8 {bad off : PyData} (h1 : d__law_no_mixed [.none] S = .ok bad S1) (h2 : d__law_any [.none, .list offL] S1 = .ok off S2) : c8 [x0, x1, x2, x3, x4, x5, x6, x7, x8, x9, x10, x11, x12, x13, x14, x15, x16, x17, x18, x19, x20, x21] S = .nx [x0, x1, x2, x3, x4, x5, x6, x7, x8, x9, x10, x11, x12, x13, (some bad), (some off), x16, x17, x18, x19, x20, x21] S2 := by
  have h2 : d__law_any [.none, .list [.none, .int 0, .int 9, .bool true, .str "1"]] S1 = .ok off S2 := h2
  unfold c8
  simp [h1, h2, setAll, sz_small]
theorem ok_mixed : PyData.strOk (Str.ofString "mixed") = true := by decide +kernel
theorem ok_count : PyData.strOk (Str.ofString "count") = true := by decide +kernel
theorem ne_words : fNe (.list [.str "mixed", .str "count", .str "mixed", .str "count", .str "count"]) (.list [.str "mixed", .str "count", .str "mixed", .str "count", .str "count"]) = some (.bool false) := ne_self (n := 1) (sh_lst fun x hx => by
  simp only [List.mem_cons, List.not_mem_nil, or_false] at hx
  rcases hx with rfl | rfl | rfl | rfl | rfl <;> first | exact sh_str ok_mixed | exact sh_str ok_count)
theorem k9 {M bad off : PyData} (b1 : d_windows [bad, off] S = .exc noMixed S) (b2 : d_windows [M, off] S = .exc noCount S) (b3 : d_sure_ahead [bad, off] S = .exc noMixed S) (b4 : d_sure_ahead [M, off] S = .exc noCount S) (b5 : d_time_count [M, off] S = .exc noCount S) : (dSeq c9 (dSeq c10 (dSeq c11 (dSeq c12 (dSeq c13 c14))))) [x0, x1, x2, (some M), x4, x5, x6, x7, x8, x9, x10, x11, x12, x13, (some bad), (some off), x16, x17, x18, x19, x20, x21] S = .nx [x0, x1, x2, (some M), x4, x5, x6, x7, x8, x9, x10, x11, x12, x13, (some bad), (some off), (some (.list [.str "mixed", .str "count", .str "mixed", .str "count", .str "count"])), x17, x18, x19, x20, x21] S := by
  have w1 : ∀ x16, dLam 5 bl__law_word (dCall d_windows (dCons (dVar 14) (dCons (dVar 15) (dNil)))) [x0, x1, x2, (some M), x4, x5, x6, x7, x8, x9, x10, x11, x12, x13, (some bad), (some off), x16, x17, x18, x19, x20, x21] S = .ok (.str "mixed") S := fun x16 => word_mixed (by simp [b1])
  have w2 : ∀ x16, dLam 5 bl__law_word (dCall d_windows (dCons (dVar 3) (dCons (dVar 15) (dNil)))) [x0, x1, x2, (some M), x4, x5, x6, x7, x8, x9, x10, x11, x12, x13, (some bad), (some off), x16, x17, x18, x19, x20, x21] S = .ok (.str "count") S := fun x16 => word_count (by simp [b2])
  have w3 : ∀ x16, dLam 5 bl__law_word (dCall d_sure_ahead (dCons (dVar 14) (dCons (dVar 15) (dNil)))) [x0, x1, x2, (some M), x4, x5, x6, x7, x8, x9, x10, x11, x12, x13, (some bad), (some off), x16, x17, x18, x19, x20, x21] S = .ok (.str "mixed") S := fun x16 => word_mixed (by simp [b3])
  have w4 : ∀ x16, dLam 5 bl__law_word (dCall d_sure_ahead (dCons (dVar 3) (dCons (dVar 15) (dNil)))) [x0, x1, x2, (some M), x4, x5, x6, x7, x8, x9, x10, x11, x12, x13, (some bad), (some off), x16, x17, x18, x19, x20, x21] S = .ok (.str "count") S := fun x16 => word_count (by simp [b4])
  have w5 : ∀ x16, dLam 5 bl__law_word (dCall d_time_count (dCons (dVar 3) (dCons (dVar 15) (dNil)))) [x0, x1, x2, (some M), x4, x5, x6, x7, x8, x9, x10, x11, x12, x13, (some bad), (some off), x16, x17, x18, x19, x20, x21] S = .ok (.str "count") S := fun x16 => word_count (by simp [b5])
  have ap : ∀ (xs : List PyData) (d : PyData), xs.length < 100 → fApp xs d = some (.list (xs ++ [d])) := fun xs d h => fApp_ok (by omega)
  unfold c9 c10 c11 c12 c13 c14
  simp [w1, w2, w3, w4, w5, onLst, putO, ap, ne_words, sz_small]
end
end K92
namespace K92
open PySem PySem.Spec PyProof.Rows L2 PD
/-! statement 5: the windows and pairs by the listing -/
def t17 : DT := dAnd (dTest (d2 fNe (dVar 9) (dVar 17))) (dTest (d1 (fBs fun bs => bs.all _root_.id) (dComp (dIt seqD (dVar 6)) (.nm 21) (dYes) (d2 fLt (d2 fIx (dVar 21) (dVar 9)) (d2 fIx (dVar 21) (dVar 17))))))
def e17 : DE := dTup (dCons (dVar 9) (dCons (dVar 17) (dNil)))
def f5 : DS := dSeq (dApp 7 (dTup (dCons (d1 (fMM PySem.W.minD) (dComp (dIt seqD (dVar 6)) (.nm 21) (dYes) (d2 fIx (dVar 21) (dVar 9)))) (dCons (d1 (fMM PySem.W.maxD) (dComp (dIt seqD (dVar 6)) (.nm 21) (dYes) (d2 fIx (dVar 21) (dVar 9)))) (dNil))))) (dSet 8 (d2 fAddL (dVar 8) (dComp (dRng1 (dVar 4)) (.nm 17) t17 e17)))
section
variable {x0 x1 x2 x3 x4 x5 x6 x7 x8 x9 x10 x11 x12 x13 x14 x15 x16 x17 x18 x19 x20 x21 : Option PyData} {S S1 S2 : Store}
theorem t17_step {R A B : PyData} {rs bs : List PyData} {b c : Bool} (hs : seqD R = some rs) (h1 : fNe A B = some (.bool b)) (h2 : compL (.nm 21) dYes (d2 fLt (d2 fIx (dVar 21) (dVar 9)) (d2 fIx (dVar 21) (dVar 17))) [x0, x1, x2, x3, x4, x5, some R, x7, x8, some A, x10, x11, x12, x13, x14, x15, x16, some B, x18, x19, x20, x21] [] rs S = .ok (.list bs) S)
    (h3 : fBs (fun bs => bs.all _root_.id) (.list bs) = some (.bool c)) : t17 [x0, x1, x2, x3, x4, x5, some R, x7, x8, some A, x10, x11, x12, x13, x14, x15, x16, some B, x18, x19, x20, x21] S = .ok (b && c) S := by
  unfold t17
  cases b <;> simp [hs, h1, h2, h3]
theorem lt_comp {R : List (List Nat)} {a b : Nat} {x6 : Option PyData} (hR : ∀ r ∈ R, a < r.length ∧ b < r.length) : compL (.nm 21) dYes (d2 fLt (d2 fIx (dVar 21) (dVar 9)) (d2 fIx (dVar 21) (dVar 17))) [x0, x1, x2, x3, x4, x5, x6, x7, x8, some (natD a), x10, x11, x12, x13, x14, x15, x16, some (natD b), x18, x19, x20, x21] [] (R.map rowD) S = .ok (.list ((R.map fun r => decide (r.getD a 0 < r.getD b 0)).map .bool)) S := by
  refine comp_b fun r hr => ⟨[x0, x1, x2, x3, x4, x5, x6, x7, x8, some (natD a), x10, x11, x12, x13, x14, x15, x16, some (natD b), x18, x19, x20, some (rowD r)], rfl, ?_⟩
  have h1 := fIx_row (hR r hr).1
  have h2 := fIx_row (hR r hr).2
  have h3 := lt_nats (r.getD a 0) (r.getD b 0)
  generalize rowD r = Q at *
  generalize natD (r.getD a 0) = Y at *
  generalize natD (r.getD b 0) = Z at *
  generalize natD a = A at *
  generalize natD b = B at *
  simp [h1, h2, h3]
theorem ne_natD (a b : Nat) : fNe (natD a) (natD b) = some (.bool (!decide (a = b))) := by
  show some (PyData.bool (!decide ((a : Int) = (b : Int)))) = _
  congr 3
  rw [decide_eq_decide]
  omega
def rowA (n : Nat) (R : List (List Nat)) (a : Nat) : List Tie := ((List.range n).filter fun b => R.all fun r => decide (r.getD a 0 < r.getD b 0)).map fun b => (a, b)
theorem pr_comp {R : List (List Nat)} {n a : Nat} (hR : ∀ r ∈ R, r.length = n) (hne : R ≠ []) (ha : a < n) : compL (.nm 17) t17 e17 [x0, x1, x2, x3, x4, x5, some (.list (R.map rowD)), x7, x8, some (natD a), x10, x11, x12, x13, x14, x15, x16, x17, x18, x19, x20, x21] [] (rngD 0 n) S = .ok (.list ((rowA n R a).map tieD)) S := by
  have h := comp_t (t := .nm 17) (tt := t17) (de := e17) (ρ := [x0, x1, x2, x3, x4, x5, some (.list (R.map rowD)), x7, x8, some (natD a), x10, x11, x12, x13, x14, x15, x16, x17, x18, x19, x20, x21]) (S := S) (e := natD) (g := tieD) (p := fun b => !decide (a = b) && R.all fun r => decide (r.getD a 0 < r.getD b 0)) (f := fun b => (a, b)) (xs := List.range n) (acc := []) fun b hb => ⟨[x0, x1, x2, x3, x4, x5, some (.list (R.map rowD)), x7, x8, some (natD a), x10, x11, x12, x13, x14, x15, x16, some (natD b), x18, x19, x20, x21], rfl, by
    have h3 := fBs_ok (f := fun bs => bs.all _root_.id) (R.map fun r => decide (r.getD a 0 < r.getD b 0))
    rw [all_map_id] at h3
    exact t17_step rfl (ne_natD a b) (lt_comp fun r hr => ⟨by rw [hR r hr]; exact ha, by rw [hR r hr]; exact List.mem_range.mp hb⟩) h3, fun _ => by
    show e17 _ _ = .ok (.tuple [natD a, natD b]) S
    generalize natD a = A
    generalize natD b = B
    unfold e17
    simp [sz_small]⟩
  rw [List.nil_append, ← rngD0] at h
  rw [h]
  have e : (List.range n).filter (fun b => !decide (a = b) && R.all fun r => decide (r.getD a 0 < r.getD b 0)) = (List.range n).filter fun b => R.all fun r => decide (r.getD a 0 < r.getD b 0) := by
    refine List.filter_congr fun b _ => ?_
    by_cases hab : a = b
    · subst hab
      cases R with
      | nil => exact absurd rfl hne
      | cons r R => simp
    · simp [hab]
  rw [e]
  rfl
theorem f5_step {N R A C lo hi W P Q P' : PyData} {ws rs : List PyData} {nn : Int} (hN : N = .int nn) (q1 : cR nn = true) (q2 : sz nn.toNat = true) (hs : seqD R = some rs) (h1 : ∀ x8, compL (.nm 21) dYes (d2 fIx (dVar 21) (dVar 9)) [x0, x1, x2, x3, some N, x5, some R, some (.list ws), x8, some A, x10, x11, x12, x13, x14, x15, x16, x17, x18, x19, x20, x21] [] rs S = .ok C S) (h2 : fMM PySem.W.minD C = some lo) (h3 : fMM PySem.W.maxD C = some hi) (h4 : fApp ws (.tuple [lo, hi]) = some W)
    (h5 : ∀ x7 x8, compL (.nm 17) t17 e17 [x0, x1, x2, x3, some N, x5, some R, x7, x8, some A, x10, x11, x12, x13, x14, x15, x16, x17, x18, x19, x20, x21] [] (rngD 0 nn.toNat) S = .ok Q S) (h6 : fAddL P Q = some P') :
    f5 [x0, x1, x2, x3, some N, x5, some R, some (.list ws), some P, some A, x10, x11, x12, x13, x14, x15, x16, x17, x18, x19, x20, x21] S = .nx [x0, x1, x2, x3, some N, x5, some R, some W, some P', some A, x10, x11, x12, x13, x14, x15, x16, x17, x18, x19, x20, x21] S := by
  subst hN
  unfold f5 dApp onLst
  generalize t17 = tt at *
  generalize e17 = ee at *
  simp [hs, h1, h2, h3, h4, h5, h6, q1, q2, putO, sz_small]
end
end K92
namespace K92
open PySem PySem.Spec PyProof.Rows L2 PD
section
variable {x0 x1 x2 x3 x4 x5 x6 x7 x8 x9 x10 x11 x12 x13 x14 x15 x16 x17 x18 x19 x20 x21 : Option PyData} {S S1 S2 : Store}
theorem col_comp {R : List (List Nat)} {a : Nat} (hR : ∀ r ∈ R, a < r.length) : compL (.nm 21) dYes (d2 fIx (dVar 21) (dVar 9)) [x0, x1, x2, x3, x4, x5, x6, x7, x8, some (natD a), x10, x11, x12, x13, x14, x15, x16, x17, x18, x19, x20, x21] [] (R.map rowD) S = .ok (.list (R.map fun r => natD (r.getD a 0))) S := by
  have h := comp_y (t := .nm 21) (de := d2 fIx (dVar 21) (dVar 9)) (ρ := [x0, x1, x2, x3, x4, x5, x6, x7, x8, some (natD a), x10, x11, x12, x13, x14, x15, x16, x17, x18, x19, x20, x21]) (S := S) (e := rowD) (g := natD) (f := fun r => r.getD a 0) (xs := R) (acc := []) fun r hr => ⟨[x0, x1, x2, x3, x4, x5, x6, x7, x8, some (natD a), x10, x11, x12, x13, x14, x15, x16, x17, x18, x19, x20, some (rowD r)], rfl, by
    have h1 := fIx_row (hR r hr)
    generalize rowD r = Q at *
    generalize natD (r.getD a 0) = Y at *
    generalize natD a = A at *
    simp [h1]⟩
  rw [List.nil_append, List.map_map] at h
  exact h
def winE (k : Nat) (R : List (List Nat)) (a : Nat) : PyData := .tuple [natD (lowR k R a), .int (highR R a)]
theorem rowA_len (n : Nat) (R : List (List Nat)) (a : Nat) : (rowA n R a).length ≤ n := by
  unfold rowA
  rw [List.length_map]
  have := List.length_filter_le (fun b => R.all fun r => decide (r.getD a 0 < r.getD b 0)) (List.range n)
  rw [List.length_range] at this
  exact this
theorem f5_loop {R : List (List Nat)} {n k : Nat} (h5 : n ≤ 5) (hR : ∀ r ∈ R, r.length = n ∧ ∀ v, v < n → r.getD v 0 < k) (hne : R ≠ []) : ∃ o9, forL (.nm 9) f5 (rngD 0 (n : Int).toNat) [x0, x1, x2, x3, some (natD n), x5, some (.list (R.map rowD)), some (.list []), some (.list []), x9, x10, x11, x12, x13, x14, x15, x16, x17, x18, x19, x20, x21] S = .nx [x0, x1, x2, x3, some (natD n), x5, some (.list (R.map rowD)), some (.list ((List.range n).map (winE k R))), some (.list ((aheadL n R).map tieD)), o9, x10, x11, x12, x13, x14, x15, x16, x17, x18, x19, x20, x21] S := by
  obtain ⟨ρ', S', q, rfl, o9, rfl⟩ := for_n (t := .nm 9) (body := f5) (I := fun j ρ S' => S' = S ∧ ∃ o9 : Option PyData, ρ = [x0, x1, x2, x3, some (natD n), x5, some (.list (R.map rowD)), some (.list ((List.range j).map (winE k R))), some (.list (((List.range j).flatMap (rowA n R)).map tieD)), o9, x10, x11, x12, x13, x14, x15, x16, x17, x18, x19, x20, x21]) (ds := rngD 0 (n : Int).toNat) (k := 0)
    (ρ := [x0, x1, x2, x3, some (natD n), x5, some (.list (R.map rowD)), some (.list []), some (.list []), x9, x10, x11, x12, x13, x14, x15, x16, x17, x18, x19, x20, x21]) (S := S) ⟨rfl, x9, rfl⟩ (by
    rintro j d hd ρ S' ⟨rfl, o9, rfl⟩
    rw [Nat.zero_add]
    obtain ⟨hd1, hd2⟩ := rngD_get hd
    rw [Int.toNat_natCast] at hd2
    rw [Int.zero_add] at hd1
    subst hd1
    refine ⟨_, rfl, [x0, x1, x2, x3, some (natD n), x5, some (.list (R.map rowD)), some (.list ((List.range (j + 1)).map (winE k R))), some (.list (((List.range (j + 1)).flatMap (rowA n R)).map tieD)), some (natD j), x10, x11, x12, x13, x14, x15, x16, x17, x18, x19, x20, x21], S', ?_, rfl, _, rfl⟩
    obtain ⟨r, R', rfl⟩ := List.exists_cons_of_ne_nil hne
    have hp : ((List.range j).flatMap (rowA n (r :: R'))).length ≤ n * j := by
      have := flat_len (l := List.range j) (g := rowA n (r :: R')) (c := n) fun a _ => rowA_len n _ a
      rw [List.length_range] at this
      exact this
    have hp2 : n * j ≤ 5 * 5 := Nat.mul_le_mul h5 (by omega)
    have hq := rowA_len n (r :: R') j
    have ea : fAddL (.list (((List.range j).flatMap (rowA n (r :: R'))).map tieD)) (.list ((rowA n (r :: R') j).map tieD)) = some (.list (((List.range (j + 1)).flatMap (rowA n (r :: R'))).map tieD)) := by
      rw [fAddL_ok (by rw [List.length_map, List.length_map]; omega), ← List.map_append, List.range_succ, List.flatMap_append, List.flatMap_singleton]
    have eb : fApp ((List.range j).map (winE k (r :: R'))) (.tuple [natD (lowR k (r :: R') j), .int (highR (r :: R') j)]) = some (.list ((List.range (j + 1)).map (winE k (r :: R')))) := by
      rw [fApp_ok (by rw [List.length_map, List.length_range]; omega), List.range_succ, List.map_append]
      rfl
    exact f5_step rfl (cR_small (by omega) (by omega)) (sz_small (by omega)) rfl (fun x8 => col_comp fun q hq => by rw [(hR q hq).1]; exact hd2) (col_min ((hR r List.mem_cons_self).2 j hd2)) col_max eb (fun x7 x8 => by
      rw [Int.toNat_natCast]
      exact pr_comp (fun q hq => (hR q hq).1) hne hd2) ea)
  have el : (rngD 0 (n : Int).toNat).length = n := by unfold rngD; rw [List.length_map, List.length_range, Int.toNat_natCast]
  rw [el, Nat.zero_add] at q
  exact ⟨o9, q⟩
def a5 : DS := dIfS (dNot (dTest (d1 (fBs fun bs => bs.all _root_.id) (dComp (dIt seqD (d2 fIx (dVar 3) (dC (.int 2)))) (.nm 18) (dYes) (d2 (fIn false) (dVar 18) (dVar 8)))))) (dRet (dC (.bool false))) (dNx)
theorem a5_ok {M A : PyData} {P as : List Tie} (h : fIx M (.int 2) = some A) (hA : seqD A = some (as.map tieD)) (hp : ∀ a ∈ as, a ∈ P) : a5 [x0, x1, x2, some M, x4, x5, x6, x7, some (.list (P.map tieD)), x9, x10, x11, x12, x13, x14, x15, x16, x17, x18, x19, x20, x21] S = .nx [x0, x1, x2, some M, x4, x5, x6, x7, some (.list (P.map tieD)), x9, x10, x11, x12, x13, x14, x15, x16, x17, x18, x19, x20, x21] S := by
  have hc : compL (.nm 18) dYes (d2 (fIn false) (dVar 18) (dVar 8)) [x0, x1, x2, some M, x4, x5, x6, x7, some (.list (P.map tieD)), x9, x10, x11, x12, x13, x14, x15, x16, x17, x18, x19, x20, x21] [] (as.map tieD) S = .ok (.list ((as.map fun a => decide (a ∈ P)).map .bool)) S := by
    refine comp_b fun a ha => ⟨[x0, x1, x2, some M, x4, x5, x6, x7, some (.list (P.map tieD)), x9, x10, x11, x12, x13, x14, x15, x16, x17, some (tieD a), x19, x20, x21], rfl, ?_⟩
    have h1 := in_tiesL false a P
    generalize tieD a = T at *
    generalize PyData.list (P.map tieD) = L at *
    simp [h1]
  have h3 := fBs_ok (f := fun bs => bs.all _root_.id) (as.map fun a => decide (a ∈ P))
  rw [all_map_id] at h3
  have ht : (as.all fun a => decide (a ∈ P)) = true := List.all_eq_true.mpr fun a ha => decide_eq_true (hp a ha)
  rw [ht] at h3
  generalize PyData.list ((as.map fun a => decide (a ∈ P)).map .bool) = B at *
  generalize as.map tieD = ats at *
  generalize PyData.list (P.map tieD) = L at *
  unfold a5
  simp [h, hA, hc, h3]
theorem k5s {M K N W D : PyData} {rs : List PyData} {nn : Int} {ws ps : List PyData} {o9 : Option PyData} (he : fEq (.list rs) (.list []) = some (.bool false)) (hN : N = .int nn) (q1 : cR nn = true) (q2 : sz nn.toNat = true)
    (hf : forL (.nm 9) f5 (rngD 0 nn.toNat) [x0, x1, x2, some M, some N, some K, some (.list rs), some (.list []), some (.list []), x9, x10, x11, x12, x13, x14, x15, x16, x17, x18, x19, x20, x21] S = .nx [x0, x1, x2, some M, some N, some K, some (.list rs), some (.list ws), some (.list ps), o9, x10, x11, x12, x13, x14, x15, x16, x17, x18, x19, x20, x21] S)
    (h1 : d_windows [M, K] S = .ok (.tuple ws) S) (h2 : d_sure_ahead [M, K] S = .ok (.tuple ps) S) (n1 : fNe (.tuple ws) (.tuple ws) = some (.bool false)) (n2 : fNe (.tuple ps) (.tuple ps) = some (.bool false))
    (ha : ∀ y9, a5 [x0, x1, x2, some M, some N, some K, some (.list rs), some (.list ws), some (.list ps), y9, x10, x11, x12, x13, x14, x15, x16, x17, x18, x19, x20, x21] S = .nx [x0, x1, x2, some M, some N, some K, some (.list rs), some (.list ws), some (.list ps), y9, x10, x11, x12, x13, x14, x15, x16, x17, x18, x19, x20, x21] S) :
    c5 [x0, x1, x2, some M, some N, some K, some (.list rs), x7, x8, x9, x10, x11, x12, x13, x14, x15, x16, x17, x18, x19, x20, x21] S = .nx [x0, x1, x2, some M, some N, some K, some (.list rs), some (.list ws), some (.list ps), o9, x10, x11, x12, x13, x14, x15, x16, x17, x18, x19, x20, x21] S := by
  subst hN
  have t1 : fTuple (.list ws) = some (.tuple ws) := rfl
  have t2 : fTuple (.list ps) = some (.tuple ps) := rfl
  unfold c5
  change dIfS (dTest (d2 fEq (dVar 6) (dLst (dNil)))) (dIfS (dOr (dTest (d2 (fIsN true) (dCall d_windows (dCons (dVar 3) (dCons (dVar 5) (dNil)))) (dC .none))) (dTest (d2 (fIsN true) (dCall d_sure_ahead (dCons (dVar 3) (dCons (dVar 5) (dNil)))) (dC .none)))) (dRet (dC (.bool false))) (dNx)) (dSeq (dPar [7, 8] (dCons (dLst (dNil)) (dCons (dLst (dNil)) (dNil)))) (dSeq (dFor (dRng1 (dVar 4)) (.nm 9) f5) (dSeq (dIfS (dOr (dTest (d2 fNe (dCall d_windows (dCons (dVar 3) (dCons (dVar 5) (dNil)))) (d1 fTuple (dVar 7)))) (dTest (d2 fNe (dCall d_sure_ahead (dCons (dVar 3) (dCons (dVar 5) (dNil)))) (d1 fTuple (dVar 8))))) (dRet (dC (.bool false))) (dNx)) a5))) _ _ = _
  generalize f5 = bd at *
  generalize a5 = ab at *
  simp [he, q1, q2, hf, h1, h2, n1, n2, t1, t2, ha, setAll, sz_small]
end
end K92
namespace K92
open PySem PySem.Spec PyProof.Rows L2 PD
section
variable {x0 x1 x2 x3 x4 x5 x6 x7 x8 x9 x10 x11 x12 x13 x14 x15 x16 x17 x18 x19 x20 x21 : Option PyData} {S S1 S2 : Store}
theorem k7s {M N A F B LO HI : PyData} {as zs ws : List PyData} {mx d w : Int} (h : fIx M (.int 2) = some A) (h1 : d__law_ring [N, A] S = .ok .none S) (h2 : d__law_levels [N, A] S = .ok LO S) (hs : seqD A = some as)
    (h3 : compL (.tup [9, 17]) dYes (dTup (dCons (dVar 17) (dCons (dVar 9) (dNil)))) [x0, x1, x2, (some M), (some N), x5, x6, x7, x8, x9, (some F), x11, x12, x13, x14, x15, x16, x17, x18, x19, x20, x21] [] as S = .ok B S) (h4 : d__law_levels [N, B] S = .ok HI S) (h5 : fMM PySem.W.maxD LO = some (.int mx)) (h6 : d__law_draw [.none, .int 2] S = .ok (.int d) S1) (hw : 1 + mx + d = w)
    (h7 : d_windows [F, .int w] S1 = .ok (.tuple ws) S1) (h8 : fZipM LO HI = some zs) (h9 : compL (.tup [19, 20]) dYes (dTup (dCons (dVar 19) (dCons (d2 (fI (fun _ _ => true) fun i j => i - j) (d2 (fI (fun _ _ => true) fun i j => i - j) (dVar 13) (dC (.int 1))) (dVar 20)) (dNil)))) [x0, x1, x2, (some M), (some N), x5, x6, x7, x8, x9, (some F), (some LO), (some HI), (some (.int w)), x14, x15, x16, x17, x18, x19, x20, x21] [] zs S1 = .ok (.list ws) S1) (n1 : fNe (.tuple ws) (.tuple ws) = some (.bool false)) :
    c7 [x0, x1, x2, (some M), (some N), x5, x6, x7, x8, x9, (some F), x11, x12, x13, x14, x15, x16, x17, x18, x19, x20, x21] S = .nx [x0, x1, x2, (some M), (some N), x5, x6, x7, x8, x9, (some F), (some LO), (some HI), (some (.int w)), x14, x15, x16, x17, x18, x19, x20, x21] S1 := by
  have hi : fIsN false .none .none = some (.bool true) := rfl
  have ht : fTuple (.list ws) = some (.tuple ws) := rfl
  unfold c7
  simp [h, h1, h2, hs, h3, h4, h5, h6, hw, h7, h8, h9, n1, hi, ht, setAll, -f_I, -ap_tup]
theorem turn_comp {as : List Tie} : compL (.tup [9, 17]) dYes (dTup (dCons (dVar 17) (dCons (dVar 9) (dNil)))) [x0, x1, x2, x3, x4, x5, x6, x7, x8, x9, x10, x11, x12, x13, x14, x15, x16, x17, x18, x19, x20, x21] [] (as.map tieD) S = .ok (.list ((as.map turnT).map tieD)) S := by
  have h := comp_y (t := .tup [9, 17]) (de := dTup (dCons (dVar 17) (dCons (dVar 9) (dNil)))) (ρ := [x0, x1, x2, x3, x4, x5, x6, x7, x8, x9, x10, x11, x12, x13, x14, x15, x16, x17, x18, x19, x20, x21]) (S := S) (e := tieD) (g := tieD) (f := turnT) (xs := as) (acc := []) fun a _ => ⟨[x0, x1, x2, x3, x4, x5, x6, x7, x8, some (natD a.1), x10, x11, x12, x13, x14, x15, x16, some (natD a.2), x18, x19, x20, x21], rfl, by
    show dTup (dCons (dVar 17) (dCons (dVar 9) (dNil))) _ S = .ok (.tuple [natD a.2, natD a.1]) S
    generalize natD a.1 = A
    generalize natD a.2 = B
    simp [sz_small]⟩
  rw [List.nil_append] at h
  exact h
theorem zip_e {W X Y Z : PyData} {i j : Int} (h1 : fI (fun _ _ => true) (fun i j => i - j) W (.int 1) = some X) (h2 : fI (fun _ _ => true) (fun i j => i - j) X Y = some Z) {V : PyData} : (dTup (dCons (dVar 19) (dCons (d2 (fI (fun _ _ => true) fun i j => i - j) (d2 (fI (fun _ _ => true) fun i j => i - j) (dVar 13) (dC (.int 1))) (dVar 20)) (dNil)))) [x0, x1, x2, x3, x4, x5, x6, x7, x8, x9, x10, x11, x12, some W, x14, x15, x16, x17, x18, some V, some Y, x21] S = .ok (.tuple [V, Z]) S := by
  simp [h1, h2, sz_small, -f_I]
theorem zip_comp {L1 L2 : List Nat} {n w : Nat} (hb : ∀ a, a < n → L2.getD a 0 < w) : compL (.tup [19, 20]) dYes (dTup (dCons (dVar 19) (dCons (d2 (fI (fun _ _ => true) fun i j => i - j) (d2 (fI (fun _ _ => true) fun i j => i - j) (dVar 13) (dC (.int 1))) (dVar 20)) (dNil)))) [x0, x1, x2, x3, x4, x5, x6, x7, x8, x9, x10, x11, x12, some (natD w), x14, x15, x16, x17, x18, x19, x20, x21] [] ((List.range n).map fun a => .tuple [natD (L1.getD a 0), natD (L2.getD a 0)]) S = .ok (.list ((List.range n).map fun a => .tuple [natD (L1.getD a 0), natD (w - 1 - L2.getD a 0)])) S := by
  have h := comp_y (t := .tup [19, 20]) (de := dTup (dCons (dVar 19) (dCons (d2 (fI (fun _ _ => true) fun i j => i - j) (d2 (fI (fun _ _ => true) fun i j => i - j) (dVar 13) (dC (.int 1))) (dVar 20)) (dNil)))) (ρ := [x0, x1, x2, x3, x4, x5, x6, x7, x8, x9, x10, x11, x12, some (natD w), x14, x15, x16, x17, x18, x19, x20, x21]) (S := S) (e := fun a => .tuple [natD (L1.getD a 0), natD (L2.getD a 0)]) (g := fun a => .tuple [natD (L1.getD a 0), natD (w - 1 - L2.getD a 0)]) (f := fun a => a) (xs := List.range n) (acc := []) fun a ha => ⟨[x0, x1, x2, x3, x4, x5, x6, x7, x8, x9, x10, x11, x12, some (natD w), x14, x15, x16, x17, x18, some (natD (L1.getD a 0)), some (natD (L2.getD a 0)), x21], rfl, by
    have hl := hb a (List.mem_range.mp ha)
    refine zip_e (i := 0) (j := 0) (X := .int ((w : Int) - 1)) rfl ?_
    show some (PyData.int ((w : Int) - 1 - ((L2.getD a 0 : Nat) : Int))) = some (PyData.int ((w - 1 - L2.getD a 0 : Nat) : Int))
    congr 2
    omega⟩
  rw [List.nil_append, List.map_id'] at h
  exact h
end
end K92
namespace K92
open PySem PySem.Spec PyProof.Rows L2 PD
theorem fmx_nat : ∀ (xs : List Nat) (x : Nat), (xs.map fun y => ((y : Nat) : Int)).foldl max (x : Int) = ((xs.foldl max x : Nat) : Int)
  | [], _ => rfl
  | y :: xs, x => by
    rw [List.map_cons, List.foldl_cons, List.foldl_cons, ← fmx_nat xs]
    congr 1
    omega
theorem fmx_ge : ∀ (xs : List Nat) (x : Nat), x ≤ xs.foldl max x ∧ ∀ y ∈ xs, y ≤ xs.foldl max x
  | [], x => ⟨Nat.le_refl _, fun y hy => (by cases hy)⟩
  | z :: xs, x => by
    obtain ⟨h1, h2⟩ := fmx_ge xs (max x z)
    rw [List.foldl_cons]
    refine ⟨by omega, fun y hy => ?_⟩
    rcases List.mem_cons.mp hy with rfl | hy
    · omega
    · exact h2 y hy
theorem fmx_lt {b : Nat} : ∀ (xs : List Nat) (x : Nat), x < b → (∀ y ∈ xs, y < b) → xs.foldl max x < b
  | [], x, h, _ => h
  | z :: xs, x, h, hy => by
    rw [List.foldl_cons]
    have := hy z List.mem_cons_self
    exact fmx_lt xs (max x z) (by omega) fun y hm => hy y (List.mem_cons_of_mem _ hm)
theorem max_lv {L : List Nat} {b : Nat} (h0 : 0 < L.length) (hb : ∀ v, v < L.length → L.getD v 0 < b) : ∃ mx : Nat, fMM PySem.W.maxD (lvD L) = some (.int (mx : Int)) ∧ mx < b ∧ ∀ v, v < L.length → L.getD v 0 ≤ mx := by
  cases L with
  | nil => cases h0
  | cons x xs =>
    have h := max_ints ((x : Nat) : Int) (xs.map fun y => ((y : Nat) : Int))
    rw [fmx_nat, List.map_cons, List.map_map] at h
    have hm : ∀ y ∈ x :: xs, y < b := fun y hy => by
      obtain ⟨i, hi, e⟩ := List.getElem_of_mem hy
      have := hb i hi
      rw [List.getD_eq_getElem?_getD, List.getElem?_eq_getElem hi, Option.getD_some, e] at this
      exact this
    obtain ⟨g1, g2⟩ := fmx_ge xs x
    refine ⟨xs.foldl max x, h, fmx_lt xs x (hm x List.mem_cons_self) fun y hy => hm y (List.mem_cons_of_mem _ hy), fun v hv => ?_⟩
    have hv2 : (x :: xs).getD v 0 ∈ x :: xs := by
      rw [List.getD_eq_getElem?_getD, List.getElem?_eq_getElem hv]
      exact List.getElem_mem _
    rcases List.mem_cons.mp hv2 with e | e
    · rw [e]; exact g1
    · exact g2 _ e
theorem nodup_up {as : List Tie} (h : as.Pairwise tieLt) : as.Nodup := h.imp fun {a b} h e => by
  subst e
  unfold tieLt at h
  omega
theorem mix_free {n : Nat} {ts as : List Tie} (m : MixOk n ts as) : MixOk n [] as :=
  ⟨⟨m.w.lo, m.w.hi, by simp, fun p hp => (by cases hp), .nil⟩, m.five, m.lt, m.up, m.few, fun a ha => ⟨(m.anti a ha).1, by simp⟩⟩
theorem sh_pair (a b : Int) : Sh 1 (.tuple [.int a, .int b]) := sh_tup fun x hx => by
  simp only [List.mem_cons, List.not_mem_nil, or_false] at hx
  rcases hx with rfl | rfl <;> exact sh_int
theorem sq {a b : DS} {ρ ρ1 : PD.Env} {S S1 : Store} {z : PD.RS} (h : a ρ S = .nx ρ1 S1) (h2 : b ρ1 S1 = z) : dSeq a b ρ S = z := by
  rw [ap_seq, h, RS.bind_nx, h2]
section
variable {x0 x1 x2 x3 x4 x5 x6 x7 x8 x9 x10 x11 x12 x13 x14 x15 x16 x17 x18 x19 x20 x21 : Option PyData} {S : Store}
theorem s5_ok {n k : Nat} {ts as : List Tie} (m : MixOk n ts as) (h1 : 1 ≤ k) (h4 : k ≤ 4) : ∃ y7 y8 y9, c5 [x0, x1, x2, (some (mixD n ts as)), (some (natD n)), (some (natD k)), (some (.list ((timesN ts as k n).map rowD))), x7, x8, x9, x10, x11, x12, x13, x14, x15, x16, x17, x18, x19, x20, x21] S = .nx [x0, x1, x2, (some (mixD n ts as)), (some (natD n)), (some (natD k)), (some (.list ((timesN ts as k n).map rowD))), y7, y8, y9, x10, x11, x12, x13, x14, x15, x16, x17, x18, x19, x20, x21] S := by
  have hc := check_within_ok m h1 (by omega : k ≤ 8) S
  have hw := windows_ok m h1 (by omega) hc
  have hs := sure_ahead_ok m h1 (by omega) hc
  have h5 := m.five
  by_cases hR : timesN ts as k n = []
  · rw [hR] at hw hs ⊢
    exact ⟨_, _, _, k5n hw hs⟩
  · have hrow : ∀ r ∈ timesN ts as k n, r.length = n ∧ ∀ v, v < n → r.getD v 0 < k := fun r hr => by
      have hl := times_member_len hr
      refine ⟨hl, fun v hv => ?_⟩
      rw [List.getD_eq_getElem?_getD, List.getElem?_eq_getElem (by omega : v < r.length)]
      exact (times_sound hr).1 _ (List.getElem_mem _)
    obtain ⟨o9, q⟩ := f5_loop (x0 := x0) (x1 := x1) (x2 := x2) (x3 := some (mixD n ts as)) (x5 := some (natD k)) (x9 := x9) (x10 := x10) (x11 := x11) (x12 := x12) (x13 := x13) (x14 := x14) (x15 := x15) (x16 := x16) (x17 := x17) (x18 := x18) (x19 := x19) (x20 := x20) (x21 := x21) (S := S) h5 hrow hR
    unfold winD at hw
    unfold surD at hs
    rw [if_neg hR] at hw hs
    have he : fEq (.list ((timesN ts as k n).map rowD)) (.list []) = some (.bool false) := by
      cases ht : timesN ts as k n with
      | nil => exact absurd ht hR
      | cons r R => exact eq_nil (xs := (r :: R).map rowD) (n := 2) (sh_lst (sh_map sh_row))
    refine ⟨_, _, _, k5s (W := .none) (D := .none) he rfl (cR_small (by omega) (by omega)) (sz_small (by omega)) q hw hs (ne_self (n := 2) (sh_tup (sh_map fun a => sh_pair _ _))) (ne_self (n := 2) (sh_tup (sh_map sh_tie))) fun y9 => a5_ok (as := as) ixT_2 rfl fun a ha => ?_⟩
    exact mem_ahead.mpr ⟨(m.lt a ha).2.1, (m.lt a ha).2.2, fun r hr => (times_sound hr).2 a ha (by have := (m.lt a ha).2; omega)⟩
theorem s7_ok {n : Nat} {ts as : List Tie} (m : MixOk n ts as) (hS : TapeOk S) : ∃ y11 y12 y13 S', c7 [x0, x1, x2, (some (mixD n ts as)), (some (natD n)), x5, x6, x7, x8, x9, (some (mixD n [] as)), x11, x12, x13, x14, x15, x16, x17, x18, x19, x20, x21] S = .nx [x0, x1, x2, (some (mixD n ts as)), (some (natD n)), x5, x6, x7, x8, x9, (some (mixD n [] as)), y11, y12, y13, x14, x15, x16, x17, x18, x19, x20, x21] S' ∧ TapeOk S' := by
  have h5 := m.five
  have h0 := m.w.lo
  have he := m.lt
  obtain ⟨d, e1, e2, e3⟩ := ring_ok (n := n) (as := as) rfl (nodup_up m.up) (fun e hm => ⟨(he e hm).1, (he e hm).2.2⟩) h5 S
  by_cases hd : d = .none
  · subst hd
    have l := lev_of he (e2 rfl)
    have hl : (loL as n).length = n := (levR_len as n _).trans List.length_replicate
    have hl2 : (bkL as n).length = n := (levR_len _ n _).trans List.length_replicate
    obtain ⟨mx, m1, m2, m3⟩ := max_lv (L := loL as n) (b := n) (by omega) fun v hv => l.lowN v (by omega)
    obtain ⟨i, S', d1, hS', i0, i1⟩ := draw_ok (n := 2) hS (by decide) (by decide)
    obtain ⟨w, hw⟩ : ∃ w : Nat, 1 + (mx : Int) + i = (w : Int) := ⟨(1 + (mx : Int) + i).toNat, by omega⟩
    have hlo : ∀ v, v < n → (loL as n).getD v 0 < w := fun v hv => by have := m3 v (by omega); omega
    have mf := mix_free m
    have hwin := windows_ok mf (by omega : 1 ≤ w) (by omega) (check_within_ok mf (by omega : 1 ≤ w) (by omega) S')
    rw [arrow_win he l hlo] at hwin
    have hz : fZipM (lvD (loL as n)) (lvD (bkL as n)) = some ((List.range n).map fun a => .tuple [natD ((loL as n).getD a 0), natD ((bkL as n).getD a 0)]) := by
      unfold lvD
      rw [row_rng hl, row_rng hl2]
      exact congrArg some (zip_same _)
    refine ⟨_, _, _, S', k7s (A := .tuple (as.map tieD)) (B := .list ((as.map turnT).map tieD)) ixT_2 e1 (levels_ok (es := as) rfl (by omega) (fun e hm => (he e hm).2) S) rfl turn_comp (levels_ok (es := as.map turnT) rfl (by omega) (fun e hm => (turn_arrow he e hm).2) S) m1 d1 hw hwin hz (zip_comp fun a ha => back_lt he l hlo ha) (ne_self (n := 2) (sh_tup (sh_map fun a => sh_pair _ _))), hS'⟩
  · have hi : fIsN false d .none = some (.bool false) := by cases d <;> first | rfl | exact absurd rfl hd
    exact ⟨_, _, _, S, k7r ixT_2 e1 hi, hS⟩
theorem turn_ok (hS : TapeOk S) : ∃ (ρ : PD.Env) (S' : Store), tbody [x0, (some .none), x2, x3, x4, x5, x6, x7, x8, x9, x10, x11, x12, x13, x14, x15, x16, x17, x18, x19, x20, x21] S = .nx ρ S' ∧ TapeOk S' ∧ ∃ y2 y3 y4 y5 y6 y7 y8 y9 y10 y11 y12 y13 y14 y15 y16 y17 y18 y19 y20 y21 : Option PyData, ρ = [x0, some .none, y2, y3, y4, y5, y6, y7, y8, y9, y10, y11, y12, y13, y14, y15, y16, y17, y18, y19, y20, y21] := by
  obtain ⟨n, ts, as, S1, e1, hS1, m⟩ := law_mixed_ok hS
  obtain ⟨i, S2, e2, hS2, i0, i1⟩ := draw_ok (n := 4) hS1 (by decide) (by decide)
  obtain ⟨k, hk⟩ : ∃ k : Nat, 1 + i = (k : Int) := ⟨(1 + i).toNat, by omega⟩
  have k1' : 1 ≤ k := by omega
  have k4' : k ≤ 4 := by omega
  have hc := check_within_ok m k1' (by omega : k ≤ 8) S2
  have hln : fLen (.list ((timesN ts as k n).map rowD)) = some (natD (timesN ts as k n).length) := by
    show some (PyData.int (((timesN ts as k n).map rowD).length : Nat)) = _
    rw [List.length_map]
  obtain ⟨y7, y8, y9, q5⟩ := s5_ok (x0 := x0) (x1 := some .none) (x2 := x2) (x7 := x7) (x8 := x8) (x9 := x9) (x10 := x10) (x11 := x11) (x12 := x12) (x13 := x13) (x14 := x14) (x15 := x15) (x16 := x16) (x17 := x17) (x18 := x18) (x19 := x19) (x20 := x20) (x21 := x21) (S := S2) m k1' k4'
  obtain ⟨y11, y12, y13, S3, q7, hS3⟩ := s7_ok (x0 := x0) (x1 := some .none) (x2 := x2) (x5 := some (natD k)) (x6 := (some (.list ((timesN ts as k n).map rowD)))) (x7 := y7) (x8 := y8) (x9 := y9) (x11 := x11) (x12 := x12) (x13 := x13) (x14 := x14) (x15 := x15) (x16 := x16) (x17 := x17) (x18 := x18) (x19 := x19) (x20 := x20) (x21 := x21) m hS2
  obtain ⟨bad, S4, a3, hS4, hb⟩ := no_mixed_ok hS3
  obtain ⟨off, S5, a4, hS5, ho⟩ := off_ok hS4
  refine ⟨[x0, some .none, x2, some (mixD n ts as), some (natD n), some (natD k), some (.list ((timesN ts as k n).map rowD)), y7, y8, y9, some (mixD n [] as), y11, y12, y13, some bad, some off, some (.list [.str "mixed", .str "count", .str "mixed", .str "count", .str "count"]), x17, x18, x19, x20, x21], S5, ?_, hS5, _, _, _, _, _, _, _, _, _, _, _, _, _, _, _, _, _, _, _, _, rfl⟩
  unfold tbody
  refine sq (k1 e1) ?_
  refine sq (k2 (N := natD n) ixT_0 e2 hk) ?_
  refine sq (k3 (law_times_ok m k4' S2)) ?_
  refine sq (k4 (time_count_ok m k1' (by omega) hc) hln (by rw [ne_natD]; simp)) ?_
  refine sq q5 ?_
  refine sq (k6 (A := .tuple (as.map tieD)) ixT_2) ?_
  refine sq q7 ?_
  refine sq (k8 a3 a4) ?_
  exact k9 (windows_exc (check_bad hb S5)) (windows_exc (check_off m ho S5)) (ahead_exc (check_bad hb S5)) (ahead_exc (check_off m ho S5)) (count_exc (check_off m ho S5))
end
theorem pure_ok : Pure := by
  intro ns hn _
  have e1 := hand_ok hn
  have hS0 := tape0 ns
  show ∃ S', (dAdopt 1 dt_law dr_law [some (.list (ns.map .int)), none, none, none, none, none, none, none, none, none, none, none, none, none, none, none, none, none, none, none, none, none] []).fin false = .ok (.bool true) S'
  have e2 : dAdopt 1 dt_law dr_law [some (.list (ns.map .int)), none, none, none, none, none, none, none, none, none, none, none, none, none, none, none, none, none, none, none, none, none] [] = dr_law [some (.list (ns.map .int)), some .none, none, none, none, none, none, none, none, none, none, none, none, none, none, none, none, none, none, none, none, none] [[PyData.list ((ns.map fun i => if i < 0 then -i else i).map .int), .int 0, .int 0, .int (61 + 7 * ns.length), .int 0]] := by
    unfold dAdopt dt_law
    simp [e1, adL]
  rw [e2, dr_eq]
  generalize [[PyData.list ((ns.map fun i => if i < 0 then -i else i).map .int), .int 0, .int 0, .int (61 + 7 * ns.length), .int 0]] = S at hS0
  generalize PyData.list (ns.map .int) = sc
  obtain ⟨ρ', S', q, hS', y2, y3, y4, y5, y6, y7, y8, y9, y10, y11, y12, y13, y14, y15, y16, y17, y18, y19, y20, y21, rfl⟩ := for_inv (t := .nm 2) (body := tbody) (I := fun ρ S' => TapeOk S' ∧ ∃ y2 y3 y4 y5 y6 y7 y8 y9 y10 y11 y12 y13 y14 y15 y16 y17 y18 y19 y20 y21 : Option PyData, ρ = [some sc, some .none, y2, y3, y4, y5, y6, y7, y8, y9, y10, y11, y12, y13, y14, y15, y16, y17, y18, y19, y20, y21]) (ds := rngD 0 3) (ρ := [some sc, some .none, none, none, none, none, none, none, none, none, none, none, none, none, none, none, none, none, none, none, none, none]) (S := S) ⟨hS0, _, _, _, _, _, _, _, _, _, _, _, _, _, _, _, _, _, _, _, _,  rfl⟩ (by
    rintro d hd ρ S' ⟨hS, y2, y3, y4, y5, y6, y7, y8, y9, y10, y11, y12, y13, y14, y15, y16, y17, y18, y19, y20, y21, rfl⟩
    obtain ⟨ρ, S2, h1, h2, h3⟩ := turn_ok (x0 := some sc) (x2 := some d) (x3 := y3) (x4 := y4) (x5 := y5) (x6 := y6) (x7 := y7) (x8 := y8) (x9 := y9) (x10 := y10) (x11 := y11) (x12 := y12) (x13 := y13) (x14 := y14) (x15 := y15) (x16 := y16) (x17 := y17) (x18 := y18) (x19 := y19) (x20 := y20) (x21 := y21) hS
    exact ⟨_, rfl, _, S2, h1, h2, h3⟩)
  have c1 : cR 3 = true := cR_small (by decide) (by decide)
  refine ⟨S', ?_⟩
  generalize tbody = tb at *
  simp [c1, sz_small, q, PD.RS.fin]
end K92
namespace K92
open PySem PySem.Spec PyProof.Rows L2 LamX PD
theorem all_mk {w : World} {K : PySem.W.Frag} {h : Heap} {mg : Str → Option Value} {fa : Addr} {ts : List Addr} (hp : Pure) (X : K.In h) (G : h.Ns mainGlobals mg) (hfa : mg "law" = some (.ref fa)) (tt : ∀ P ∈ ts, h.get? P = some (PySem.W.tabObj #[]))
    {Ais_integer : Addr} {odis_integer anis_integer : Option Addr} {slis_integer : Array (Option Value)} {ocis_integer kVis_integer dcis_integer pmis_integer ctis_integer : Value} {cdis_integer : Value} {Ais_sized : Addr} {odis_sized anis_sized : Option Addr} {slis_sized : Array (Option Value)} {ocis_sized kVis_sized dcis_sized pmis_sized ctis_sized : Value} {cdis_sized : Value} {Anext_times : Addr} {odnext_times annext_times : Option Addr} {slnext_times : Array (Option Value)} {ocnext_times kVnext_times dcnext_times pmnext_times ctnext_times : Value} {cdnext_times : Value} {Apairs_ahead : Addr} {odpairs_ahead anpairs_ahead : Option Addr} {slpairs_ahead : Array (Option Value)} {ocpairs_ahead kVpairs_ahead dcpairs_ahead pmpairs_ahead ctpairs_ahead : Value} {cdpairs_ahead : Value} {A_law_hand : Addr} {od_law_hand an_law_hand : Option Addr} {sl_law_hand : Array (Option Value)} {oc_law_hand kV_law_hand dc_law_hand pm_law_hand ct_law_hand : Value} {cd_law_hand : Value} {A_law_draw : Addr} {od_law_draw an_law_draw : Option Addr} {sl_law_draw : Array (Option Value)} {oc_law_draw kV_law_draw dc_law_draw pm_law_draw ct_law_draw : Value} {cd_law_draw : Value} {A_law_fits : Addr} {od_law_fits an_law_fits : Option Addr} {sl_law_fits : Array (Option Value)} {oc_law_fits kV_law_fits dc_law_fits pm_law_fits ct_law_fits : Value} {cd_law_fits : Value} {A_law_ring : Addr} {od_law_ring an_law_ring : Option Addr} {sl_law_ring : Array (Option Value)} {oc_law_ring kV_law_ring dc_law_ring pm_law_ring ct_law_ring : Value} {cd_law_ring : Value} {A_law_word : Addr} {od_law_word an_law_word : Option Addr} {sl_law_word : Array (Option Value)} {oc_law_word kV_law_word dc_law_word pm_law_word ct_law_word : Value} {cd_law_word : Value} {A_law_levels : Addr} {od_law_levels an_law_levels : Option Addr} {sl_law_levels : Array (Option Value)} {oc_law_levels kV_law_levels dc_law_levels pm_law_levels ct_law_levels : Value} {cd_law_levels : Value} {Ais_within : Addr} {odis_within anis_within : Option Addr} {slis_within : Array (Option Value)} {ocis_within kVis_within dcis_within pmis_within ctis_within : Value} {cdis_within : Value} {Aall_times : Addr} {odall_times anall_times : Option Addr} {slall_times : Array (Option Value)} {ocall_times kVall_times dcall_times pmall_times ctall_times : Value} {cdall_times : Value} {A_law_any : Addr} {od_law_any an_law_any : Option Addr} {sl_law_any : Array (Option Value)} {oc_law_any kV_law_any dc_law_any pm_law_any ct_law_any : Value} {cd_law_any : Value} {A_law_web : Addr} {od_law_web an_law_web : Option Addr} {sl_law_web : Array (Option Value)} {oc_law_web kV_law_web dc_law_web pm_law_web ct_law_web : Value} {cd_law_web : Value} {A_law_names : Addr} {od_law_names an_law_names : Option Addr} {sl_law_names : Array (Option Value)} {oc_law_names kV_law_names dc_law_names pm_law_names ct_law_names : Value} {cd_law_names : Value} {A_law_times : Addr} {od_law_times an_law_times : Option Addr} {sl_law_times : Array (Option Value)} {oc_law_times kV_law_times dc_law_times pm_law_times ct_law_times : Value} {cd_law_times : Value} {Ais_lot : Addr} {odis_lot anis_lot : Option Addr} {slis_lot : Array (Option Value)} {ocis_lot kVis_lot dcis_lot pmis_lot ctis_lot : Value} {cdis_lot : Value} {A_law_mixed : Addr} {od_law_mixed an_law_mixed : Option Addr} {sl_law_mixed : Array (Option Value)} {oc_law_mixed kV_law_mixed dc_law_mixed pm_law_mixed ct_law_mixed : Value} {cd_law_mixed : Value} {A_law_no_mixed : Addr} {od_law_no_mixed an_law_no_mixed : Option Addr} {sl_law_no_mixed : Array (Option Value)} {oc_law_no_mixed kV_law_no_mixed dc_law_no_mixed pm_law_no_mixed ct_law_no_mixed : Value} {cd_law_no_mixed : Value} {Aare_ties : Addr} {odare_ties anare_ties : Option Addr} {slare_ties : Array (Option Value)} {ocare_ties kVare_ties dcare_ties pmare_ties ctare_ties : Value} {cdare_ties : Value} {Ais_web : Addr} {odis_web anis_web : Option Addr} {slis_web : Array (Option Value)} {ocis_web kVis_web dcis_web pmis_web ctis_web : Value} {cdis_web : Value} {Ais_mixed : Addr} {odis_mixed anis_mixed : Option Addr} {slis_mixed : Array (Option Value)} {ocis_mixed kVis_mixed dcis_mixed pmis_mixed ctis_mixed : Value} {cdis_mixed : Value} {Acheck_mixed : Addr} {odcheck_mixed ancheck_mixed : Option Addr} {slcheck_mixed : Array (Option Value)} {occheck_mixed kVcheck_mixed dccheck_mixed pmcheck_mixed ctcheck_mixed : Value} {cdcheck_mixed : Value} {Acheck_within : Addr} {odcheck_within ancheck_within : Option Addr} {slcheck_within : Array (Option Value)} {occheck_within kVcheck_within dccheck_within pmcheck_within ctcheck_within : Value} {cdcheck_within : Value} {Awindows : Addr} {odwindows anwindows : Option Addr} {slwindows : Array (Option Value)} {ocwindows kVwindows dcwindows pmwindows ctwindows : Value} {cdwindows : Value} {Asure_ahead : Addr} {odsure_ahead ansure_ahead : Option Addr} {slsure_ahead : Array (Option Value)} {ocsure_ahead kVsure_ahead dcsure_ahead pmsure_ahead ctsure_ahead : Value} {cdsure_ahead : Value} {Atime_count : Addr} {odtime_count antime_count : Option Addr} {sltime_count : Array (Option Value)} {octime_count kVtime_count dctime_count pmtime_count cttime_count : Value} {cdtime_count : Value} {Alaw : Addr} {odlaw anlaw : Option Addr} {sllaw : Array (Option Value)} {oclaw kVlaw dclaw pmlaw ctlaw : Value} {calaw : Addr} {Plaw : Addr} {oolaw : Option Addr} {vslaw : Array Value} {oslaw : Array (Option Value)} {tkMOST_PLACES : Tok} {tkMOST_MIXED : Tok} {tkMOST_TIME : Tok} {CColourError : Addr} {CNoCount : Addr} {CNoMixed : Addr} {CNoTimes : Addr} {CNoTurning : Addr} {CTooMany : Addr}
    (a_is_integer : PySem.W.nsIn K mainGlobals "is_integer" = some (some (.ref Ais_integer)))
    (l_is_integer : K.lookup Ais_integer = some ⟨ocis_integer, odis_integer, .func (PySem.W.fnOf "is_integer" "is_integer" (defArgs (top 1)) (defBody (top 1)) (defScope (top 1)) .none kVis_integer dcis_integer pmis_integer anis_integer cdis_integer ctis_integer), slis_integer⟩)
    (c_is_integer : PySem.W.codeIn K cdis_integer "is_integer" = true)
    (k_is_integer : PySem.W.keepIn K (.ref Ais_integer) = true)
    (a_is_sized : PySem.W.nsIn K mainGlobals "is_sized" = some (some (.ref Ais_sized)))
    (l_is_sized : K.lookup Ais_sized = some ⟨ocis_sized, odis_sized, .func (PySem.W.fnOf "is_sized" "is_sized" (defArgs (top 3)) (defBody (top 3)) (defScope (top 3)) .none kVis_sized dcis_sized pmis_sized anis_sized cdis_sized ctis_sized), slis_sized⟩)
    (c_is_sized : PySem.W.codeIn K cdis_sized "is_sized" = true)
    (k_is_sized : PySem.W.keepIn K (.ref Ais_sized) = true)
    (a_next_times : PySem.W.nsIn K mainGlobals "next_times" = some (some (.ref Anext_times)))
    (l_next_times : K.lookup Anext_times = some ⟨ocnext_times, odnext_times, .func (PySem.W.fnOf "next_times" "next_times" (defArgs (top 22)) (defBody (top 22)) (defScope (top 22)) .none kVnext_times dcnext_times pmnext_times annext_times cdnext_times ctnext_times), slnext_times⟩)
    (c_next_times : PySem.W.codeIn K cdnext_times "next_times" = true)
    (k_next_times : PySem.W.keepIn K (.ref Anext_times) = true)
    (a_pairs_ahead : PySem.W.nsIn K mainGlobals "pairs_ahead" = some (some (.ref Apairs_ahead)))
    (l_pairs_ahead : K.lookup Apairs_ahead = some ⟨ocpairs_ahead, odpairs_ahead, .func (PySem.W.fnOf "pairs_ahead" "pairs_ahead" (defArgs (top 25)) (defBody (top 25)) (defScope (top 25)) .none kVpairs_ahead dcpairs_ahead pmpairs_ahead anpairs_ahead cdpairs_ahead ctpairs_ahead), slpairs_ahead⟩)
    (c_pairs_ahead : PySem.W.codeIn K cdpairs_ahead "pairs_ahead" = true)
    (k_pairs_ahead : PySem.W.keepIn K (.ref Apairs_ahead) = true)
    (a__law_hand : PySem.W.nsIn K mainGlobals "_law_hand" = some (some (.ref A_law_hand)))
    (l__law_hand : K.lookup A_law_hand = some ⟨oc_law_hand, od_law_hand, .func (PySem.W.fnOf "_law_hand" "_law_hand" (defArgs (top 29)) (defBody (top 29)) (defScope (top 29)) .none kV_law_hand dc_law_hand pm_law_hand an_law_hand cd_law_hand ct_law_hand), sl_law_hand⟩)
    (c__law_hand : PySem.W.codeIn K cd_law_hand "_law_hand" = true)
    (k__law_hand : PySem.W.keepIn K (.ref A_law_hand) = true)
    (a__law_draw : PySem.W.nsIn K mainGlobals "_law_draw" = some (some (.ref A_law_draw)))
    (l__law_draw : K.lookup A_law_draw = some ⟨oc_law_draw, od_law_draw, .func (PySem.W.fnOf "_law_draw" "_law_draw" (defArgs (top 30)) (defBody (top 30)) (defScope (top 30)) .none kV_law_draw dc_law_draw pm_law_draw an_law_draw cd_law_draw ct_law_draw), sl_law_draw⟩)
    (c__law_draw : PySem.W.codeIn K cd_law_draw "_law_draw" = true)
    (k__law_draw : PySem.W.keepIn K (.ref A_law_draw) = true)
    (a__law_fits : PySem.W.nsIn K mainGlobals "_law_fits" = some (some (.ref A_law_fits)))
    (l__law_fits : K.lookup A_law_fits = some ⟨oc_law_fits, od_law_fits, .func (PySem.W.fnOf "_law_fits" "_law_fits" (defArgs (top 35)) (defBody (top 35)) (defScope (top 35)) .none kV_law_fits dc_law_fits pm_law_fits an_law_fits cd_law_fits ct_law_fits), sl_law_fits⟩)
    (c__law_fits : PySem.W.codeIn K cd_law_fits "_law_fits" = true)
    (k__law_fits : PySem.W.keepIn K (.ref A_law_fits) = true)
    (a__law_ring : PySem.W.nsIn K mainGlobals "_law_ring" = some (some (.ref A_law_ring)))
    (l__law_ring : K.lookup A_law_ring = some ⟨oc_law_ring, od_law_ring, .func (PySem.W.fnOf "_law_ring" "_law_ring" (defArgs (top 37)) (defBody (top 37)) (defScope (top 37)) .none kV_law_ring dc_law_ring pm_law_ring an_law_ring cd_law_ring ct_law_ring), sl_law_ring⟩)
    (c__law_ring : PySem.W.codeIn K cd_law_ring "_law_ring" = true)
    (k__law_ring : PySem.W.keepIn K (.ref A_law_ring) = true)
    (a__law_word : PySem.W.nsIn K mainGlobals "_law_word" = some (some (.ref A_law_word)))
    (l__law_word : K.lookup A_law_word = some ⟨oc_law_word, od_law_word, .func (PySem.W.fnOf "_law_word" "_law_word" (defArgs (top 39)) (defBody (top 39)) (defScope (top 39)) .none kV_law_word dc_law_word pm_law_word an_law_word cd_law_word ct_law_word), sl_law_word⟩)
    (c__law_word : PySem.W.codeIn K cd_law_word "_law_word" = true)
    (k__law_word : PySem.W.keepIn K (.ref A_law_word) = true)
    (a__law_levels : PySem.W.nsIn K mainGlobals "_law_levels" = some (some (.ref A_law_levels)))
    (l__law_levels : K.lookup A_law_levels = some ⟨oc_law_levels, od_law_levels, .func (PySem.W.fnOf "_law_levels" "_law_levels" (defArgs (top 40)) (defBody (top 40)) (defScope (top 40)) .none kV_law_levels dc_law_levels pm_law_levels an_law_levels cd_law_levels ct_law_levels), sl_law_levels⟩)
    (c__law_levels : PySem.W.codeIn K cd_law_levels "_law_levels" = true)
    (k__law_levels : PySem.W.keepIn K (.ref A_law_levels) = true)
    (a_is_within : PySem.W.nsIn K mainGlobals "is_within" = some (some (.ref Ais_within)))
    (l_is_within : K.lookup Ais_within = some ⟨ocis_within, odis_within, .func (PySem.W.fnOf "is_within" "is_within" (defArgs (top 2)) (defBody (top 2)) (defScope (top 2)) .none kVis_within dcis_within pmis_within anis_within cdis_within ctis_within), slis_within⟩)
    (c_is_within : PySem.W.codeIn K cdis_within "is_within" = true)
    (k_is_within : PySem.W.keepIn K (.ref Ais_within) = true)
    (a_all_times : PySem.W.nsIn K mainGlobals "all_times" = some (some (.ref Aall_times)))
    (l_all_times : K.lookup Aall_times = some ⟨ocall_times, odall_times, .func (PySem.W.fnOf "all_times" "all_times" (defArgs (top 23)) (defBody (top 23)) (defScope (top 23)) .none kVall_times dcall_times pmall_times anall_times cdall_times ctall_times), slall_times⟩)
    (c_all_times : PySem.W.codeIn K cdall_times "all_times" = true)
    (k_all_times : PySem.W.keepIn K (.ref Aall_times) = true)
    (a__law_any : PySem.W.nsIn K mainGlobals "_law_any" = some (some (.ref A_law_any)))
    (l__law_any : K.lookup A_law_any = some ⟨oc_law_any, od_law_any, .func (PySem.W.fnOf "_law_any" "_law_any" (defArgs (top 31)) (defBody (top 31)) (defScope (top 31)) .none kV_law_any dc_law_any pm_law_any an_law_any cd_law_any ct_law_any), sl_law_any⟩)
    (c__law_any : PySem.W.codeIn K cd_law_any "_law_any" = true)
    (k__law_any : PySem.W.keepIn K (.ref A_law_any) = true)
    (a__law_web : PySem.W.nsIn K mainGlobals "_law_web" = some (some (.ref A_law_web)))
    (l__law_web : K.lookup A_law_web = some ⟨oc_law_web, od_law_web, .func (PySem.W.fnOf "_law_web" "_law_web" (defArgs (top 32)) (defBody (top 32)) (defScope (top 32)) .none kV_law_web dc_law_web pm_law_web an_law_web cd_law_web ct_law_web), sl_law_web⟩)
    (c__law_web : PySem.W.codeIn K cd_law_web "_law_web" = true)
    (k__law_web : PySem.W.keepIn K (.ref A_law_web) = true)
    (a__law_names : PySem.W.nsIn K mainGlobals "_law_names" = some (some (.ref A_law_names)))
    (l__law_names : K.lookup A_law_names = some ⟨oc_law_names, od_law_names, .func (PySem.W.fnOf "_law_names" "_law_names" (defArgs (top 33)) (defBody (top 33)) (defScope (top 33)) .none kV_law_names dc_law_names pm_law_names an_law_names cd_law_names ct_law_names), sl_law_names⟩)
    (c__law_names : PySem.W.codeIn K cd_law_names "_law_names" = true)
    (k__law_names : PySem.W.keepIn K (.ref A_law_names) = true)
    (a__law_times : PySem.W.nsIn K mainGlobals "_law_times" = some (some (.ref A_law_times)))
    (l__law_times : K.lookup A_law_times = some ⟨oc_law_times, od_law_times, .func (PySem.W.fnOf "_law_times" "_law_times" (defArgs (top 36)) (defBody (top 36)) (defScope (top 36)) .none kV_law_times dc_law_times pm_law_times an_law_times cd_law_times ct_law_times), sl_law_times⟩)
    (c__law_times : PySem.W.codeIn K cd_law_times "_law_times" = true)
    (k__law_times : PySem.W.keepIn K (.ref A_law_times) = true)
    (a_is_lot : PySem.W.nsIn K mainGlobals "is_lot" = some (some (.ref Ais_lot)))
    (l_is_lot : K.lookup Ais_lot = some ⟨ocis_lot, odis_lot, .func (PySem.W.fnOf "is_lot" "is_lot" (defArgs (top 4)) (defBody (top 4)) (defScope (top 4)) .none kVis_lot dcis_lot pmis_lot anis_lot cdis_lot ctis_lot), slis_lot⟩)
    (c_is_lot : PySem.W.codeIn K cdis_lot "is_lot" = true)
    (k_is_lot : PySem.W.keepIn K (.ref Ais_lot) = true)
    (a__law_mixed : PySem.W.nsIn K mainGlobals "_law_mixed" = some (some (.ref A_law_mixed)))
    (l__law_mixed : K.lookup A_law_mixed = some ⟨oc_law_mixed, od_law_mixed, .func (PySem.W.fnOf "_law_mixed" "_law_mixed" (defArgs (top 34)) (defBody (top 34)) (defScope (top 34)) .none kV_law_mixed dc_law_mixed pm_law_mixed an_law_mixed cd_law_mixed ct_law_mixed), sl_law_mixed⟩)
    (c__law_mixed : PySem.W.codeIn K cd_law_mixed "_law_mixed" = true)
    (k__law_mixed : PySem.W.keepIn K (.ref A_law_mixed) = true)
    (a__law_no_mixed : PySem.W.nsIn K mainGlobals "_law_no_mixed" = some (some (.ref A_law_no_mixed)))
    (l__law_no_mixed : K.lookup A_law_no_mixed = some ⟨oc_law_no_mixed, od_law_no_mixed, .func (PySem.W.fnOf "_law_no_mixed" "_law_no_mixed" (defArgs (top 38)) (defBody (top 38)) (defScope (top 38)) .none kV_law_no_mixed dc_law_no_mixed pm_law_no_mixed an_law_no_mixed cd_law_no_mixed ct_law_no_mixed), sl_law_no_mixed⟩)
    (c__law_no_mixed : PySem.W.codeIn K cd_law_no_mixed "_law_no_mixed" = true)
    (k__law_no_mixed : PySem.W.keepIn K (.ref A_law_no_mixed) = true)
    (a_are_ties : PySem.W.nsIn K mainGlobals "are_ties" = some (some (.ref Aare_ties)))
    (l_are_ties : K.lookup Aare_ties = some ⟨ocare_ties, odare_ties, .func (PySem.W.fnOf "are_ties" "are_ties" (defArgs (top 14)) (defBody (top 14)) (defScope (top 14)) .none kVare_ties dcare_ties pmare_ties anare_ties cdare_ties ctare_ties), slare_ties⟩)
    (c_are_ties : PySem.W.codeIn K cdare_ties "are_ties" = true)
    (k_are_ties : PySem.W.keepIn K (.ref Aare_ties) = true)
    (a_is_web : PySem.W.nsIn K mainGlobals "is_web" = some (some (.ref Ais_web)))
    (l_is_web : K.lookup Ais_web = some ⟨ocis_web, odis_web, .func (PySem.W.fnOf "is_web" "is_web" (defArgs (top 15)) (defBody (top 15)) (defScope (top 15)) .none kVis_web dcis_web pmis_web anis_web cdis_web ctis_web), slis_web⟩)
    (c_is_web : PySem.W.codeIn K cdis_web "is_web" = true)
    (k_is_web : PySem.W.keepIn K (.ref Ais_web) = true)
    (a_is_mixed : PySem.W.nsIn K mainGlobals "is_mixed" = some (some (.ref Ais_mixed)))
    (l_is_mixed : K.lookup Ais_mixed = some ⟨ocis_mixed, odis_mixed, .func (PySem.W.fnOf "is_mixed" "is_mixed" (defArgs (top 19)) (defBody (top 19)) (defScope (top 19)) .none kVis_mixed dcis_mixed pmis_mixed anis_mixed cdis_mixed ctis_mixed), slis_mixed⟩)
    (c_is_mixed : PySem.W.codeIn K cdis_mixed "is_mixed" = true)
    (k_is_mixed : PySem.W.keepIn K (.ref Ais_mixed) = true)
    (a_check_mixed : PySem.W.nsIn K mainGlobals "check_mixed" = some (some (.ref Acheck_mixed)))
    (l_check_mixed : K.lookup Acheck_mixed = some ⟨occheck_mixed, odcheck_mixed, .func (PySem.W.fnOf "check_mixed" "check_mixed" (defArgs (top 20)) (defBody (top 20)) (defScope (top 20)) .none kVcheck_mixed dccheck_mixed pmcheck_mixed ancheck_mixed cdcheck_mixed ctcheck_mixed), slcheck_mixed⟩)
    (c_check_mixed : PySem.W.codeIn K cdcheck_mixed "check_mixed" = true)
    (k_check_mixed : PySem.W.keepIn K (.ref Acheck_mixed) = true)
    (a_check_within : PySem.W.nsIn K mainGlobals "check_within" = some (some (.ref Acheck_within)))
    (l_check_within : K.lookup Acheck_within = some ⟨occheck_within, odcheck_within, .func (PySem.W.fnOf "check_within" "check_within" (defArgs (top 21)) (defBody (top 21)) (defScope (top 21)) .none kVcheck_within dccheck_within pmcheck_within ancheck_within cdcheck_within ctcheck_within), slcheck_within⟩)
    (c_check_within : PySem.W.codeIn K cdcheck_within "check_within" = true)
    (k_check_within : PySem.W.keepIn K (.ref Acheck_within) = true)
    (a_windows : PySem.W.nsIn K mainGlobals "windows" = some (some (.ref Awindows)))
    (l_windows : K.lookup Awindows = some ⟨ocwindows, odwindows, .func (PySem.W.fnOf "windows" "windows" (defArgs (top 24)) (defBody (top 24)) (defScope (top 24)) .none kVwindows dcwindows pmwindows anwindows cdwindows ctwindows), slwindows⟩)
    (c_windows : PySem.W.codeIn K cdwindows "windows" = true)
    (k_windows : PySem.W.keepIn K (.ref Awindows) = true)
    (a_sure_ahead : PySem.W.nsIn K mainGlobals "sure_ahead" = some (some (.ref Asure_ahead)))
    (l_sure_ahead : K.lookup Asure_ahead = some ⟨ocsure_ahead, odsure_ahead, .func (PySem.W.fnOf "sure_ahead" "sure_ahead" (defArgs (top 26)) (defBody (top 26)) (defScope (top 26)) .none kVsure_ahead dcsure_ahead pmsure_ahead ansure_ahead cdsure_ahead ctsure_ahead), slsure_ahead⟩)
    (c_sure_ahead : PySem.W.codeIn K cdsure_ahead "sure_ahead" = true)
    (k_sure_ahead : PySem.W.keepIn K (.ref Asure_ahead) = true)
    (a_time_count : PySem.W.nsIn K mainGlobals "time_count" = some (some (.ref Atime_count)))
    (l_time_count : K.lookup Atime_count = some ⟨octime_count, odtime_count, .func (PySem.W.fnOf "time_count" "time_count" (defArgs (top 27)) (defBody (top 27)) (defScope (top 27)) .none kVtime_count dctime_count pmtime_count antime_count cdtime_count cttime_count), sltime_count⟩)
    (c_time_count : PySem.W.codeIn K cdtime_count "time_count" = true)
    (k_time_count : PySem.W.keepIn K (.ref Atime_count) = true)
    (a_law : PySem.W.nsIn K mainGlobals "law" = some (some (.ref Alaw)))
    (l_law : K.lookup Alaw = some ⟨oclaw, odlaw, .func (PySem.W.fnOf "law" "law" (defArgs (top 41)) (defBody (top 41)) (defScope (top 41)) .none kVlaw dclaw pmlaw anlaw (.ref calaw) ctlaw), sllaw⟩)
    (c_law : PySem.W.codeIn K (.ref calaw) "law" = true)
    (k_law : PySem.W.keepIn K (.ref Alaw) = true)
    (v_law : K.lookup calaw = some ⟨.type "code", oolaw, .fields vslaw, oslaw⟩)
    (p_law : vslaw[11]? = some (.ref Plaw))
    (h_law : PySem.W.codeHdIn K calaw Plaw = true)
    (n_law : K.lookup Plaw = none)
    (m_law : Plaw ∈ ts)
    (nd : ([Plaw] : List Addr).Nodup)
    (b_abs : PySem.W.nsIn K mainGlobals "abs" = some none)
    (b_all : PySem.W.nsIn K mainGlobals "all" = some none)
    (b_any : PySem.W.nsIn K mainGlobals "any" = some none)
    (b_bool : PySem.W.nsIn K mainGlobals "bool" = some none)
    (b_enumerate : PySem.W.nsIn K mainGlobals "enumerate" = some none)
    (b_int : PySem.W.nsIn K mainGlobals "int" = some none)
    (b_isinstance : PySem.W.nsIn K mainGlobals "isinstance" = some none)
    (b_len : PySem.W.nsIn K mainGlobals "len" = some none)
    (b_list : PySem.W.nsIn K mainGlobals "list" = some none)
    (b_max : PySem.W.nsIn K mainGlobals "max" = some none)
    (b_min : PySem.W.nsIn K mainGlobals "min" = some none)
    (b_range : PySem.W.nsIn K mainGlobals "range" = some none)
    (b_sorted : PySem.W.nsIn K mainGlobals "sorted" = some none)
    (b_tuple : PySem.W.nsIn K mainGlobals "tuple" = some none)
    (b_zip : PySem.W.nsIn K mainGlobals "zip" = some none)
    (c_MOST_PLACES : PySem.W.nsIn K mainGlobals "MOST_PLACES" = some (some (.int 8 tkMOST_PLACES)))
    (c_MOST_MIXED : PySem.W.nsIn K mainGlobals "MOST_MIXED" = some (some (.int 7 tkMOST_MIXED)))
    (c_MOST_TIME : PySem.W.nsIn K mainGlobals "MOST_TIME" = some (some (.int 8 tkMOST_TIME)))
    (g_ColourError : PySem.W.nsIn K mainGlobals "ColourError" = some (some (.ref CColourError)))
    (g_NoCount : PySem.W.nsIn K mainGlobals "NoCount" = some (some (.ref CNoCount)))
    (g_NoMixed : PySem.W.nsIn K mainGlobals "NoMixed" = some (some (.ref CNoMixed)))
    (g_NoTimes : PySem.W.nsIn K mainGlobals "NoTimes" = some (some (.ref CNoTimes)))
    (g_NoTurning : PySem.W.nsIn K mainGlobals "NoTurning" = some (some (.ref CNoTurning)))
    (g_TooMany : PySem.W.nsIn K mainGlobals "TooMany" = some (some (.ref CTooMany)))
    (xB : ([("NoCount", CNoCount), ("NoMixed", CNoMixed)] : List (Str × Addr)).all (fun p => excB K p.2) = true)
    (q_NoCount : PySem.W.excIn K CNoCount [.type "ValueError", .type "Exception", .type "BaseException", .type "object"] "ValueError.__new__" = true)
    (q_NoMixed : PySem.W.excIn K CNoMixed [.type "ValueError", .type "Exception", .type "BaseException", .type "object"] "ValueError.__new__" = true)
    (kB_NoCount : ([("NoCount", CNoCount), ("NoMixed", CNoMixed)] : List (Str × Addr)).all (fun p => decide (PySem.W.kitOne K (.ref p.2) (.ref CNoCount) = some (inS ["NoCount"] p.1))) = true)
    (kB_NoMixed : ([("NoCount", CNoCount), ("NoMixed", CNoMixed)] : List (Str × Addr)).all (fun p => decide (PySem.W.kitOne K (.ref p.2) (.ref CNoMixed) = some (inS ["NoMixed"] p.1))) = true)
    (kB_NoTimes : ([("NoCount", CNoCount), ("NoMixed", CNoMixed)] : List (Str × Addr)).all (fun p => decide (PySem.W.kitOne K (.ref p.2) (.ref CNoTimes) = some (inS [] p.1))) = true)
    (kB_NoTurning : ([("NoCount", CNoCount), ("NoMixed", CNoMixed)] : List (Str × Addr)).all (fun p => decide (PySem.W.kitOne K (.ref p.2) (.ref CNoTurning) = some (inS [] p.1))) = true)
    (eB_ColourError : ([("NoCount", CNoCount), ("NoMixed", CNoMixed)] : List (Str × Addr)).all (fun p => decide (PySem.W.exmOne K (.ref p.2) (.ref CColourError) = some (inS ["NoCount", "NoMixed"] p.1))) = true)
    (eB_TooMany : ([("NoCount", CNoCount), ("NoMixed", CNoMixed)] : List (Str × Addr)).all (fun p => decide (PySem.W.exmOne K (.ref p.2) (.ref CTooMany) = some (inS [] p.1))) = true)
    (nB_most : ([("NoCount", CNoCount), ("NoMixed", CNoMixed)] : List (Str × Addr)).all (fun p => decide (PySem.W.findIn K (.ref p.2) "most" = some none)) = true)
    : LawAtS PySem.Challenge.rw_colourhouse_k92_whole_windows_of_times w K (L2.CX PySem.Challenge.rw_colourhouse_k92_whole_windows_of_times.prog w) 13 63 "script" mg fa h := by
  have e : Alaw = fa := by
    have e := hfa.symm.trans (PySem.W.mg_of X G a_law)
    cases e
    rfl
  subst e
  have F_is_integer := fun_mk (st := top 1) l_is_integer c_is_integer k_is_integer
  have B_is_integer := F_is_integer.binds (ps := ["thing"]) fun _ _ _ _ _ _ us hl => match us, hl with | [_], _ => rfl
  have F_is_sized := fun_mk (st := top 3) l_is_sized c_is_sized k_is_sized
  have B_is_sized := F_is_sized.binds (ps := ["thing", "low", "high"]) fun _ _ _ _ _ _ us hl => match us, hl with | [_, _, _], _ => rfl
  have F_next_times := fun_mk (st := top 22) l_next_times c_next_times k_next_times
  have B_next_times := F_next_times.binds (ps := ["mixed", "k", "times"]) fun _ _ _ _ _ _ us hl => match us, hl with | [_, _, _], _ => rfl
  have F_pairs_ahead := fun_mk (st := top 25) l_pairs_ahead c_pairs_ahead k_pairs_ahead
  have B_pairs_ahead := F_pairs_ahead.binds (ps := ["times"]) fun _ _ _ _ _ _ us hl => match us, hl with | [_], _ => rfl
  have F__law_hand := fun_mk (st := top 29) l__law_hand c__law_hand k__law_hand
  have B__law_hand := F__law_hand.binds (ps := ["script"]) fun _ _ _ _ _ _ us hl => match us, hl with | [_], _ => rfl
  have F__law_draw := fun_mk (st := top 30) l__law_draw c__law_draw k__law_draw
  have B__law_draw := F__law_draw.binds (ps := ["hand", "many"]) fun _ _ _ _ _ _ us hl => match us, hl with | [_, _], _ => rfl
  have F__law_fits := fun_mk (st := top 35) l__law_fits c__law_fits k__law_fits
  have B__law_fits := F__law_fits.binds (ps := ["mixed", "row"]) fun _ _ _ _ _ _ us hl => match us, hl with | [_, _], _ => rfl
  have F__law_ring := fun_mk (st := top 37) l__law_ring c__law_ring k__law_ring
  have B__law_ring := F__law_ring.binds (ps := ["n", "steps"]) fun _ _ _ _ _ _ us hl => match us, hl with | [_, _], _ => rfl
  have F__law_word := fun_mk (st := top 39) l__law_word c__law_word k__law_word
  have B__law_word := F__law_word.binds (ps := ["call"]) fun _ _ _ _ _ _ us hl => match us, hl with | [_], _ => rfl
  have F__law_levels := fun_mk (st := top 40) l__law_levels c__law_levels k__law_levels
  have B__law_levels := F__law_levels.binds (ps := ["n", "steps"]) fun _ _ _ _ _ _ us hl => match us, hl with | [_, _], _ => rfl
  have F_is_within := fun_mk (st := top 2) l_is_within c_is_within k_is_within
  have B_is_within := F_is_within.binds (ps := ["thing", "low", "high"]) fun _ _ _ _ _ _ us hl => match us, hl with | [_, _, _], _ => rfl
  have F_all_times := fun_mk (st := top 23) l_all_times c_all_times k_all_times
  have B_all_times := F_all_times.binds (ps := ["mixed", "k", "most"]) fun _ _ _ _ _ _ us hl => match us, hl with | [_, _, _], _ => rfl
  have F__law_any := fun_mk (st := top 31) l__law_any c__law_any k__law_any
  have B__law_any := F__law_any.binds (ps := ["hand", "some"]) fun _ _ _ _ _ _ us hl => match us, hl with | [_, _], _ => rfl
  have F__law_web := fun_mk (st := top 32) l__law_web c__law_web k__law_web
  have B__law_web := F__law_web.binds (ps := ["hand", "most"]) fun _ _ _ _ _ _ us hl => match us, hl with | [_, _], _ => rfl
  have F__law_names := fun_mk (st := top 33) l__law_names c__law_names k__law_names
  have B__law_names := F__law_names.binds (ps := ["hand", "n"]) fun _ _ _ _ _ _ us hl => match us, hl with | [_, _], _ => rfl
  have F__law_times := fun_mk (st := top 36) l__law_times c__law_times k__law_times
  have B__law_times := F__law_times.binds (ps := ["mixed", "k"]) fun _ _ _ _ _ _ us hl => match us, hl with | [_, _], _ => rfl
  have F_is_lot := fun_mk (st := top 4) l_is_lot c_is_lot k_is_lot
  have B_is_lot := F_is_lot.binds (ps := ["thing", "many"]) fun _ _ _ _ _ _ us hl => match us, hl with | [_, _], _ => rfl
  have F__law_mixed := fun_mk (st := top 34) l__law_mixed c__law_mixed k__law_mixed
  have B__law_mixed := F__law_mixed.binds (ps := ["hand", "most"]) fun _ _ _ _ _ _ us hl => match us, hl with | [_, _], _ => rfl
  have F__law_no_mixed := fun_mk (st := top 38) l__law_no_mixed c__law_no_mixed k__law_no_mixed
  have B__law_no_mixed := F__law_no_mixed.binds (ps := ["hand"]) fun _ _ _ _ _ _ us hl => match us, hl with | [_], _ => rfl
  have F_are_ties := fun_mk (st := top 14) l_are_ties c_are_ties k_are_ties
  have B_are_ties := F_are_ties.binds (ps := ["n", "thing"]) fun _ _ _ _ _ _ us hl => match us, hl with | [_, _], _ => rfl
  have F_is_web := fun_mk (st := top 15) l_is_web c_is_web k_is_web
  have B_is_web := F_is_web.binds (ps := ["thing"]) fun _ _ _ _ _ _ us hl => match us, hl with | [_], _ => rfl
  have F_is_mixed := fun_mk (st := top 19) l_is_mixed c_is_mixed k_is_mixed
  have B_is_mixed := F_is_mixed.binds (ps := ["thing"]) fun _ _ _ _ _ _ us hl => match us, hl with | [_], _ => rfl
  have F_check_mixed := fun_mk (st := top 20) l_check_mixed c_check_mixed k_check_mixed
  have B_check_mixed := F_check_mixed.binds (ps := ["thing"]) fun _ _ _ _ _ _ us hl => match us, hl with | [_], _ => rfl
  have F_check_within := fun_mk (st := top 21) l_check_within c_check_within k_check_within
  have B_check_within := F_check_within.binds (ps := ["mixed", "k"]) fun _ _ _ _ _ _ us hl => match us, hl with | [_, _], _ => rfl
  have F_windows := fun_mk (st := top 24) l_windows c_windows k_windows
  have B_windows := F_windows.binds (ps := ["mixed", "k"]) fun _ _ _ _ _ _ us hl => match us, hl with | [_, _], _ => rfl
  have F_sure_ahead := fun_mk (st := top 26) l_sure_ahead c_sure_ahead k_sure_ahead
  have B_sure_ahead := F_sure_ahead.binds (ps := ["mixed", "k"]) fun _ _ _ _ _ _ us hl => match us, hl with | [_, _], _ => rfl
  have F_time_count := fun_mk (st := top 27) l_time_count c_time_count k_time_count
  have B_time_count := F_time_count.binds (ps := ["mixed", "k"]) fun _ _ _ _ _ _ us hl => match us, hl with | [_, _], _ => rfl
  have F_law := func_mk (st := top 41) l_law c_law k_law
  have B_law := F_law.fn.binds (ps := ["script"]) fun _ _ _ _ _ _ us hl => match us, hl with | [_], _ => rfl
  let T : Tx K mg := { A_is_integer := Ais_integer, D_is_integer := _, F_is_integer := F_is_integer, G_is_integer := PySem.W.mg_of X G a_is_integer, B_is_integer := B_is_integer, A_is_sized := Ais_sized, D_is_sized := _, F_is_sized := F_is_sized, G_is_sized := PySem.W.mg_of X G a_is_sized, B_is_sized := B_is_sized, A_next_times := Anext_times, D_next_times := _, F_next_times := F_next_times, G_next_times := PySem.W.mg_of X G a_next_times, B_next_times := B_next_times, A_pairs_ahead := Apairs_ahead, D_pairs_ahead := _, F_pairs_ahead := F_pairs_ahead, G_pairs_ahead := PySem.W.mg_of X G a_pairs_ahead, B_pairs_ahead := B_pairs_ahead, A__law_hand := A_law_hand, D__law_hand := _, F__law_hand := F__law_hand, G__law_hand := PySem.W.mg_of X G a__law_hand, B__law_hand := B__law_hand, A__law_draw := A_law_draw, D__law_draw := _, F__law_draw := F__law_draw, G__law_draw := PySem.W.mg_of X G a__law_draw, B__law_draw := B__law_draw, A__law_fits := A_law_fits, D__law_fits := _, F__law_fits := F__law_fits, G__law_fits := PySem.W.mg_of X G a__law_fits, B__law_fits := B__law_fits, A__law_ring := A_law_ring, D__law_ring := _, F__law_ring := F__law_ring, G__law_ring := PySem.W.mg_of X G a__law_ring, B__law_ring := B__law_ring, A__law_word := A_law_word, D__law_word := _, F__law_word := F__law_word, G__law_word := PySem.W.mg_of X G a__law_word, B__law_word := B__law_word, A__law_levels := A_law_levels, D__law_levels := _, F__law_levels := F__law_levels, G__law_levels := PySem.W.mg_of X G a__law_levels, B__law_levels := B__law_levels, A_is_within := Ais_within, D_is_within := _, F_is_within := F_is_within, G_is_within := PySem.W.mg_of X G a_is_within, B_is_within := B_is_within, A_all_times := Aall_times, D_all_times := _, F_all_times := F_all_times, G_all_times := PySem.W.mg_of X G a_all_times, B_all_times := B_all_times, A__law_any := A_law_any, D__law_any := _, F__law_any := F__law_any, G__law_any := PySem.W.mg_of X G a__law_any, B__law_any := B__law_any, A__law_web := A_law_web, D__law_web := _, F__law_web := F__law_web, G__law_web := PySem.W.mg_of X G a__law_web, B__law_web := B__law_web, A__law_names := A_law_names, D__law_names := _, F__law_names := F__law_names, G__law_names := PySem.W.mg_of X G a__law_names, B__law_names := B__law_names, A__law_times := A_law_times, D__law_times := _, F__law_times := F__law_times, G__law_times := PySem.W.mg_of X G a__law_times, B__law_times := B__law_times, A_is_lot := Ais_lot, D_is_lot := _, F_is_lot := F_is_lot, G_is_lot := PySem.W.mg_of X G a_is_lot, B_is_lot := B_is_lot, A__law_mixed := A_law_mixed, D__law_mixed := _, F__law_mixed := F__law_mixed, G__law_mixed := PySem.W.mg_of X G a__law_mixed, B__law_mixed := B__law_mixed, A__law_no_mixed := A_law_no_mixed, D__law_no_mixed := _, F__law_no_mixed := F__law_no_mixed, G__law_no_mixed := PySem.W.mg_of X G a__law_no_mixed, B__law_no_mixed := B__law_no_mixed, A_are_ties := Aare_ties, D_are_ties := _, F_are_ties := F_are_ties, G_are_ties := PySem.W.mg_of X G a_are_ties, B_are_ties := B_are_ties, A_is_web := Ais_web, D_is_web := _, F_is_web := F_is_web, G_is_web := PySem.W.mg_of X G a_is_web, B_is_web := B_is_web, A_is_mixed := Ais_mixed, D_is_mixed := _, F_is_mixed := F_is_mixed, G_is_mixed := PySem.W.mg_of X G a_is_mixed, B_is_mixed := B_is_mixed, A_check_mixed := Acheck_mixed, D_check_mixed := _, F_check_mixed := F_check_mixed, G_check_mixed := PySem.W.mg_of X G a_check_mixed, B_check_mixed := B_check_mixed, A_check_within := Acheck_within, D_check_within := _, F_check_within := F_check_within, G_check_within := PySem.W.mg_of X G a_check_within, B_check_within := B_check_within, A_windows := Awindows, D_windows := _, F_windows := F_windows, G_windows := PySem.W.mg_of X G a_windows, B_windows := B_windows, A_sure_ahead := Asure_ahead, D_sure_ahead := _, F_sure_ahead := F_sure_ahead, G_sure_ahead := PySem.W.mg_of X G a_sure_ahead, B_sure_ahead := B_sure_ahead, A_time_count := Atime_count, D_time_count := _, F_time_count := F_time_count, G_time_count := PySem.W.mg_of X G a_time_count, B_time_count := B_time_count, A_law := Alaw, D_law := _, cA_law := calaw, P_law := Plaw, F_law := F_law, G_law := PySem.W.mg_of X G a_law, B_law := B_law, C_ColourError := CColourError, g_ColourError := PySem.W.mg_of X G g_ColourError, C_NoCount := CNoCount, g_NoCount := PySem.W.mg_of X G g_NoCount, C_NoMixed := CNoMixed, g_NoMixed := PySem.W.mg_of X G g_NoMixed, C_NoTimes := CNoTimes, g_NoTimes := PySem.W.mg_of X G g_NoTimes, C_NoTurning := CNoTurning, g_NoTurning := PySem.W.mg_of X G g_NoTurning, C_TooMany := CTooMany, g_TooMany := PySem.W.mg_of X G g_TooMany, b_abs := PySem.W.mg_none_of X G b_abs, b_all := PySem.W.mg_none_of X G b_all, b_any := PySem.W.mg_none_of X G b_any, b_bool := PySem.W.mg_none_of X G b_bool, b_enumerate := PySem.W.mg_none_of X G b_enumerate, b_int := PySem.W.mg_none_of X G b_int, b_isinstance := PySem.W.mg_none_of X G b_isinstance, b_len := PySem.W.mg_none_of X G b_len, b_list := PySem.W.mg_none_of X G b_list, b_max := PySem.W.mg_none_of X G b_max, b_min := PySem.W.mg_none_of X G b_min, b_range := PySem.W.mg_none_of X G b_range, b_sorted := PySem.W.mg_none_of X G b_sorted, b_tuple := PySem.W.mg_none_of X G b_tuple, b_zip := PySem.W.mg_none_of X G b_zip, c_MOST_PLACES := ⟨_, PySem.W.mg_of X G c_MOST_PLACES⟩, c_MOST_MIXED := ⟨_, PySem.W.mg_of X G c_MOST_MIXED⟩, c_MOST_TIME := ⟨_, PySem.W.mg_of X G c_MOST_TIME⟩, nd := nd, xB := xB, q_NoCount := q_NoCount, q_NoMixed := q_NoMixed, kB_NoCount := kB_NoCount, kB_NoMixed := kB_NoMixed, kB_NoTimes := kB_NoTimes, kB_NoTurning := kB_NoTurning, eB_ColourError := eB_ColourError, eB_TooMany := eB_TooMany, nB_most := nB_most }
  have q : ∀ p ∈ T.cs, h.get? p.2 = some { cls := .none, data := .fields #[] } ∧ K.lookup p.2 = none ∧ PySem.W.CodeHd h p.1 p.2 := by
    intro p hp
    simp only [Tx.cs, List.mem_cons, List.not_mem_nil, or_false] at hp
    rcases hp with rfl
    · exact ⟨tt _ m_law, n_law, PySem.W.codeHd_of_K X h_law⟩
  refine ⟨_, T.cs, spLaw K (gW T.tabs []) 63, fun p hp => (q p hp).1, fun p hp => (q p hp).2.1, fun p hp => (q p hp).2.2, fun s u => .of_eq rfl, fun H a ns hl hb ht hs => ⟨a, ns, rfl, hl, hb, hs, fun p hp => ?_, fun _ => rfl⟩, fun base _ _ tb => ok_law T tb hp⟩
  simp only [Tx.tabs, List.mem_cons, List.not_mem_nil, or_false] at hp
  rcases hp with rfl
  · exact ht (calaw, Plaw) (by simp [Tx.cs, T])
end K92
open PySem PySem.W PyProof.Rows
set_option maxHeartbeats 0 in
theorem PySem.Challenge.cw_colourhouse_k92_whole_windows_of_times_holds : PySem.Challenge.rw_colourhouse_k92_whole_windows_of_times.Holds := by
  w_on; o_law; k_head; (case hw => w_witness2)
  k_fill
  refine LamX.walk_ofTs (l := PySem.Challenge.rw_colourhouse_k92_whole_windows_of_times) (n := 63) (k := 13) (x := "script") (CX := fun w => L2.CX PySem.Challenge.rw_colourhouse_k92_whole_windows_of_times.prog w) rfl (by decide) rfl ⟨rfl, by decide, by decide⟩ (fun w h Y => km_in_of Y) ?F ?CX
  case CX => exact fun w H s e s' h => by obtain ⟨_, _, _, _, _, _, _, _, _, _, _, _, z⟩ := h; exact z
  case F =>
    intro w mg fa h Y KX G hmg
    refine' K92.all_mk K92.pure_ok KX G hmg (km_tabs_of Y) ?a_is_integer ?l_is_integer ?c_is_integer ?k_is_integer ?a_is_sized ?l_is_sized ?c_is_sized ?k_is_sized ?a_next_times ?l_next_times ?c_next_times ?k_next_times ?a_pairs_ahead ?l_pairs_ahead ?c_pairs_ahead ?k_pairs_ahead ?a__law_hand ?l__law_hand ?c__law_hand ?k__law_hand ?a__law_draw ?l__law_draw ?c__law_draw ?k__law_draw ?a__law_fits ?l__law_fits ?c__law_fits ?k__law_fits ?a__law_ring ?l__law_ring ?c__law_ring ?k__law_ring ?a__law_word ?l__law_word ?c__law_word ?k__law_word ?a__law_levels ?l__law_levels ?c__law_levels ?k__law_levels ?a_is_within ?l_is_within ?c_is_within ?k_is_within ?a_all_times ?l_all_times ?c_all_times ?k_all_times ?a__law_any ?l__law_any ?c__law_any ?k__law_any ?a__law_web ?l__law_web ?c__law_web ?k__law_web ?a__law_names ?l__law_names ?c__law_names ?k__law_names ?a__law_times ?l__law_times ?c__law_times ?k__law_times ?a_is_lot ?l_is_lot ?c_is_lot ?k_is_lot ?a__law_mixed ?l__law_mixed ?c__law_mixed ?k__law_mixed ?a__law_no_mixed ?l__law_no_mixed ?c__law_no_mixed ?k__law_no_mixed ?a_are_ties ?l_are_ties ?c_are_ties ?k_are_ties ?a_is_web ?l_is_web ?c_is_web ?k_is_web ?a_is_mixed ?l_is_mixed ?c_is_mixed ?k_is_mixed ?a_check_mixed ?l_check_mixed ?c_check_mixed ?k_check_mixed ?a_check_within ?l_check_within ?c_check_within ?k_check_within ?a_windows ?l_windows ?c_windows ?k_windows ?a_sure_ahead ?l_sure_ahead ?c_sure_ahead ?k_sure_ahead ?a_time_count ?l_time_count ?c_time_count ?k_time_count ?a_law ?l_law ?c_law ?k_law ?v_law ?p_law ?h_law ?n_law ?m_law ?nd ?b_abs ?b_all ?b_any ?b_bool ?b_enumerate ?b_int ?b_isinstance ?b_len ?b_list ?b_max ?b_min ?b_range ?b_sorted ?b_tuple ?b_zip ?c_MOST_PLACES ?c_MOST_MIXED ?c_MOST_TIME ?g_ColourError ?g_NoCount ?g_NoMixed ?g_NoTimes ?g_NoTurning ?g_TooMany ?xB ?q_NoCount ?q_NoMixed ?kB_NoCount ?kB_NoMixed ?kB_NoTimes ?kB_NoTurning ?eB_ColourError ?eB_TooMany ?nB_most
    (case a_is_integer => first | k_is | kernel_rfl | rfl)
    (case l_is_integer => first | k_is | kernel_rfl | rfl)
    (case c_is_integer => first | k_is | kernel_rfl | rfl)
    (case k_is_integer => first | k_is | kernel_rfl | rfl)
    (case a_is_sized => first | k_is | kernel_rfl | rfl)
    (case l_is_sized => first | k_is | kernel_rfl | rfl)
    (case c_is_sized => first | k_is | kernel_rfl | rfl)
    (case k_is_sized => first | k_is | kernel_rfl | rfl)
    (case a_next_times => first | k_is | kernel_rfl | rfl)
    (case l_next_times => first | k_is | kernel_rfl | rfl)
    (case c_next_times => first | k_is | kernel_rfl | rfl)
    (case k_next_times => first | k_is | kernel_rfl | rfl)
    (case a_pairs_ahead => first | k_is | kernel_rfl | rfl)
    (case l_pairs_ahead => first | k_is | kernel_rfl | rfl)
    (case c_pairs_ahead => first | k_is | kernel_rfl | rfl)
    (case k_pairs_ahead => first | k_is | kernel_rfl | rfl)
    (case a__law_hand => first | k_is | kernel_rfl | rfl)
    (case l__law_hand => first | k_is | kernel_rfl | rfl)
    (case c__law_hand => first | k_is | kernel_rfl | rfl)
    (case k__law_hand => first | k_is | kernel_rfl | rfl)
    (case a__law_draw => first | k_is | kernel_rfl | rfl)
    (case l__law_draw => first | k_is | kernel_rfl | rfl)
    (case c__law_draw => first | k_is | kernel_rfl | rfl)
    (case k__law_draw => first | k_is | kernel_rfl | rfl)
    (case a__law_fits => first | k_is | kernel_rfl | rfl)
    (case l__law_fits => first | k_is | kernel_rfl | rfl)
    (case c__law_fits => first | k_is | kernel_rfl | rfl)
    (case k__law_fits => first | k_is | kernel_rfl | rfl)
    (case a__law_ring => first | k_is | kernel_rfl | rfl)
    (case l__law_ring => first | k_is | kernel_rfl | rfl)
    (case c__law_ring => first | k_is | kernel_rfl | rfl)
    (case k__law_ring => first | k_is | kernel_rfl | rfl)
    (case a__law_word => first | k_is | kernel_rfl | rfl)
    (case l__law_word => first | k_is | kernel_rfl | rfl)
    (case c__law_word => first | k_is | kernel_rfl | rfl)
    (case k__law_word => first | k_is | kernel_rfl | rfl)
    (case a__law_levels => first | k_is | kernel_rfl | rfl)
    (case l__law_levels => first | k_is | kernel_rfl | rfl)
    (case c__law_levels => first | k_is | kernel_rfl | rfl)
    (case k__law_levels => first | k_is | kernel_rfl | rfl)
    (case a_is_within => first | k_is | kernel_rfl | rfl)
    (case l_is_within => first | k_is | kernel_rfl | rfl)
    (case c_is_within => first | k_is | kernel_rfl | rfl)
    (case k_is_within => first | k_is | kernel_rfl | rfl)
    (case a_all_times => first | k_is | kernel_rfl | rfl)
    (case l_all_times => first | k_is | kernel_rfl | rfl)
    (case c_all_times => first | k_is | kernel_rfl | rfl)
    (case k_all_times => first | k_is | kernel_rfl | rfl)
    (case a__law_any => first | k_is | kernel_rfl | rfl)
    (case l__law_any => first | k_is | kernel_rfl | rfl)
    (case c__law_any => first | k_is | kernel_rfl | rfl)
    (case k__law_any => first | k_is | kernel_rfl | rfl)
    (case a__law_web => first | k_is | kernel_rfl | rfl)
    (case l__law_web => first | k_is | kernel_rfl | rfl)
    (case c__law_web => first | k_is | kernel_rfl | rfl)
    (case k__law_web => first | k_is | kernel_rfl | rfl)
    (case a__law_names => first | k_is | kernel_rfl | rfl)
    (case l__law_names => first | k_is | kernel_rfl | rfl)
    (case c__law_names => first | k_is | kernel_rfl | rfl)
    (case k__law_names => first | k_is | kernel_rfl | rfl)
    (case a__law_times => first | k_is | kernel_rfl | rfl)
    (case l__law_times => first | k_is | kernel_rfl | rfl)
    (case c__law_times => first | k_is | kernel_rfl | rfl)
    (case k__law_times => first | k_is | kernel_rfl | rfl)
    (case a_is_lot => first | k_is | kernel_rfl | rfl)
    (case l_is_lot => first | k_is | kernel_rfl | rfl)
    (case c_is_lot => first | k_is | kernel_rfl | rfl)
    (case k_is_lot => first | k_is | kernel_rfl | rfl)
    (case a__law_mixed => first | k_is | kernel_rfl | rfl)
    (case l__law_mixed => first | k_is | kernel_rfl | rfl)
    (case c__law_mixed => first | k_is | kernel_rfl | rfl)
    (case k__law_mixed => first | k_is | kernel_rfl | rfl)
    (case a__law_no_mixed => first | k_is | kernel_rfl | rfl)
    (case l__law_no_mixed => first | k_is | kernel_rfl | rfl)
    (case c__law_no_mixed => first | k_is | kernel_rfl | rfl)
    (case k__law_no_mixed => first | k_is | kernel_rfl | rfl)
    (case a_are_ties => first | k_is | kernel_rfl | rfl)
    (case l_are_ties => first | k_is | kernel_rfl | rfl)
    (case c_are_ties => first | k_is | kernel_rfl | rfl)
    (case k_are_ties => first | k_is | kernel_rfl | rfl)
    (case a_is_web => first | k_is | kernel_rfl | rfl)
    (case l_is_web => first | k_is | kernel_rfl | rfl)
    (case c_is_web => first | k_is | kernel_rfl | rfl)
    (case k_is_web => first | k_is | kernel_rfl | rfl)
    (case a_is_mixed => first | k_is | kernel_rfl | rfl)
    (case l_is_mixed => first | k_is | kernel_rfl | rfl)
    (case c_is_mixed => first | k_is | kernel_rfl | rfl)
    (case k_is_mixed => first | k_is | kernel_rfl | rfl)
    (case a_check_mixed => first | k_is | kernel_rfl | rfl)
    (case l_check_mixed => first | k_is | kernel_rfl | rfl)
    (case c_check_mixed => first | k_is | kernel_rfl | rfl)
    (case k_check_mixed => first | k_is | kernel_rfl | rfl)
    (case a_check_within => first | k_is | kernel_rfl | rfl)
    (case l_check_within => first | k_is | kernel_rfl | rfl)
    (case c_check_within => first | k_is | kernel_rfl | rfl)
    (case k_check_within => first | k_is | kernel_rfl | rfl)
    (case a_windows => first | k_is | kernel_rfl | rfl)
    (case l_windows => first | k_is | kernel_rfl | rfl)
    (case c_windows => first | k_is | kernel_rfl | rfl)
    (case k_windows => first | k_is | kernel_rfl | rfl)
    (case a_sure_ahead => first | k_is | kernel_rfl | rfl)
    (case l_sure_ahead => first | k_is | kernel_rfl | rfl)
    (case c_sure_ahead => first | k_is | kernel_rfl | rfl)
    (case k_sure_ahead => first | k_is | kernel_rfl | rfl)
    (case a_time_count => first | k_is | kernel_rfl | rfl)
    (case l_time_count => first | k_is | kernel_rfl | rfl)
    (case c_time_count => first | k_is | kernel_rfl | rfl)
    (case k_time_count => first | k_is | kernel_rfl | rfl)
    (case a_law => first | k_is | kernel_rfl | rfl)
    (case l_law => first | k_is | kernel_rfl | rfl)
    (case c_law => first | k_is | kernel_rfl | rfl)
    (case k_law => first | k_is | kernel_rfl | rfl)
    (case v_law => first | k_is | kernel_rfl | rfl)
    (case p_law => rfl)
    (case h_law => first | k_is | kernel_rfl | rfl)
    (case n_law => first | k_is | kernel_rfl | rfl)
    (case m_law => simp)
    (case nd => decide)
    (case b_abs => first | k_is | kernel_rfl | rfl)
    (case b_all => first | k_is | kernel_rfl | rfl)
    (case b_any => first | k_is | kernel_rfl | rfl)
    (case b_bool => first | k_is | kernel_rfl | rfl)
    (case b_enumerate => first | k_is | kernel_rfl | rfl)
    (case b_int => first | k_is | kernel_rfl | rfl)
    (case b_isinstance => first | k_is | kernel_rfl | rfl)
    (case b_len => first | k_is | kernel_rfl | rfl)
    (case b_list => first | k_is | kernel_rfl | rfl)
    (case b_max => first | k_is | kernel_rfl | rfl)
    (case b_min => first | k_is | kernel_rfl | rfl)
    (case b_range => first | k_is | kernel_rfl | rfl)
    (case b_sorted => first | k_is | kernel_rfl | rfl)
    (case b_tuple => first | k_is | kernel_rfl | rfl)
    (case b_zip => first | k_is | kernel_rfl | rfl)
    (case c_MOST_PLACES => first | k_is | kernel_rfl | rfl)
    (case c_MOST_MIXED => first | k_is | kernel_rfl | rfl)
    (case c_MOST_TIME => first | k_is | kernel_rfl | rfl)
    (case g_ColourError => first | k_is | kernel_rfl | rfl)
    (case g_NoCount => first | k_is | kernel_rfl | rfl)
    (case g_NoMixed => first | k_is | kernel_rfl | rfl)
    (case g_NoTimes => first | k_is | kernel_rfl | rfl)
    (case g_NoTurning => first | k_is | kernel_rfl | rfl)
    (case g_TooMany => first | k_is | kernel_rfl | rfl)
    (case xB => first | k_is | kernel_rfl | rfl)
    (case q_NoCount => first | k_is | kernel_rfl | rfl)
    (case q_NoMixed => first | k_is | kernel_rfl | rfl)
    (case kB_NoCount => first | k_is | kernel_rfl | rfl)
    (case kB_NoMixed => first | k_is | kernel_rfl | rfl)
    (case kB_NoTimes => first | k_is | kernel_rfl | rfl)
    (case kB_NoTurning => first | k_is | kernel_rfl | rfl)
    (case eB_ColourError => first | k_is | kernel_rfl | rfl)
    (case eB_TooMany => first | k_is | kernel_rfl | rfl)
    (case nB_most => first | k_is | kernel_rfl | rfl)
