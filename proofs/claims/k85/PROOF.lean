import PyProof.Rows.All
import HandS.ForMost
import HandS.Exc
import HandS.TryMany
import HandS.ExcOwn
import HandS.ExcField
import HandS.ExcIs
import HandS.ExcInit
import HandS.IsInst
import HandS.Lambda
import HandS.Style
import HandS.Conv
import HandS.Wide
import HandS.Deep
import HandS.WordsExc
import HandS.TupAny
import HandS.TupMul
import HandS.TupLe
import PyProof.TupleOfStr
import HandS.Zip
import KE.KExcIs
import HandS.EndTab
import HandS.StrMore
import KE.GoesEnum
import PyProof.EnumMake
import PyProof.StrOps2
import PyProof.SliceStr2
import HandS.SortInts
import KE.SortData
import HandS.Small
import HandS.DictComp
import KE.KNestM
import PySem.Challenge.RW_colourhouse_k85_whole_fillings_of_sheets
set_option Elab.async false
set_option linter.all false
set_option maxRecDepth 100000
set_option maxHeartbeats 4000000
/-! PDa: pure denotations over PyData: heaps seen through a ban list, representation of data, frames with static slot modes. -/
namespace PD
open PySem PySem.Spec PyProof.Rows L2
/-! ### results -/
structure Xc where
  cls : Str
  fs : List (Str × PyData)
abbrev Store := List (List PyData)
inductive R (α : Type) where
  | ok (a : α) (S : Store)
  | exc (x : Xc) (S : Store)
  | bad
def R.bind {α β : Type} (r : R α) (f : α → Store → R β) : R β :=
  match r with
  | .ok a S => f a S
  | .exc x S => .exc x S
  | .bad => .bad
/-- an exception is not let out here -/
def R.calm {α : Type} (r : R α) : R α :=
  match r with
  | .exc _ _ => .bad
  | r => r
@[simp] theorem R.bind_ok {α β : Type} (a : α) (S : Store) (f : α → Store → R β) : (R.ok a S).bind f = f a S := rfl
@[simp] theorem R.bind_exc {α β : Type} (x : Xc) (S : Store) (f : α → Store → R β) : (R.exc x S : R α).bind f = .exc x S := rfl
@[simp] theorem R.bind_bad {α β : Type} (f : α → Store → R β) : (R.bad : R α).bind f = .bad := rfl
@[simp] theorem R.calm_ok {α : Type} (a : α) (S : Store) : (R.ok a S).calm = .ok a S := rfl
@[simp] theorem R.calm_exc {α : Type} (x : Xc) (S : Store) : (R.exc x S : R α).calm = .bad := rfl
@[simp] theorem R.calm_bad {α : Type} : (R.bad : R α).calm = .bad := rfl
/-! ### heaps -/
def Ex (H H' : Hp) : Prop := ∀ a o, H a = some o → H' a = some o
theorem Ex.refl (H : Hp) : Ex H H := fun _ _ h => h
theorem Ex.trans {H H1 H2 : Hp} (a : Ex H H1) (b : Ex H1 H2) : Ex H H2 := fun x o h => b x o (a x o h)
theorem Ex.new {H : Hp} {p : Addr} {o : HO} (h : H p = none) : Ex H (upd H p o) := fun a u e => by
  rw [upd_ne (ne_of_none e h)]
  exact e
def Fz (B : List Addr) (H : Hp) : Hp := fun a => if a ∈ B then none else H a
theorem fz_some {B : List Addr} {H : Hp} {a : Addr} {o : HO} : Fz B H a = some o ↔ a ∉ B ∧ H a = some o := by
  unfold Fz
  by_cases h : a ∈ B <;> simp [h]
theorem fz_le {B : List Addr} {H : Hp} : Ex (Fz B H) H := fun _ _ h => (fz_some.mp h).2
theorem fz_anti {B B' : List Addr} {H : Hp} (h : ∀ a ∈ B', a ∈ B) : Ex (Fz B H) (Fz B' H) := fun a o e =>
  have q := fz_some.mp e
  fz_some.mpr ⟨fun z => q.1 (h a z), q.2⟩
def Evo (G : List Addr) (H H' : Hp) : Prop := ∀ a o, a ∉ G → H a = some o → H' a = some o
theorem Evo.refl (G : List Addr) (H : Hp) : Evo G H H := fun _ _ _ h => h
theorem Evo.trans {G : List Addr} {H H1 H2 : Hp} (a : Evo G H H1) (b : Evo G H1 H2) : Evo G H H2 := fun x o n h => b x o n (a x o n h)
theorem Ex.evo {G : List Addr} {H H' : Hp} (e : Ex H H') : Evo G H H' := fun a o _ h => e a o h
theorem Evo.fz {G B : List Addr} {H H' : Hp} (e : Evo G H H') (h : ∀ a ∈ G, a ∈ B) : Ex (Fz B H) (Fz B H') := fun a o q =>
  have q := fz_some.mp q
  fz_some.mpr ⟨q.1, e a o (fun z => q.1 (h a z)) q.2⟩
theorem Ex.fz {B : List Addr} {H H' : Hp} (e : Ex H H') : Ex (Fz B H) (Fz B H') := fun a o q =>
  have q := fz_some.mp q
  fz_some.mpr ⟨q.1, e a o q.2⟩
theorem Ex.rd {H H' : Hp} (e : Ex H H') {a : Addr} {u : HO} (h : Rd H a u) : Rd H' a u := by
  rcases h with h | ⟨o, h⟩
  · exact .inl (e a _ h)
  · exact .inr ⟨o, e a _ h⟩
theorem Ex.l {K : PySem.W.Frag} {H H' : Hp} (e : Ex H H') {a : Addr} {xs : List V} (h : SqL K H a xs) : SqL K H' a xs := by
  rcases h with h | h
  · exact .inl (e.rd h)
  · exact .inr h
theorem Ex.t {K : PySem.W.Frag} {H H' : Hp} (e : Ex H H') {a : Addr} {xs : List V} (h : SqT K H a xs) : SqT K H' a xs := by
  rcases h with h | h
  · exact .inl (e.rd h)
  · exact .inr h
theorem Ex.free {H H' : Hp} (e : Ex H H') {p : Addr} (h : H' p = none) : H p = none := by
  cases q : H p with
  | none => rfl
  | some o => rw [e p o q] at h; cases h
/-! ### data -/
def keyD : Key → PyData
  | .inl i => .int i
  | .inr x => .str x
def keyT (k : List Key) : PyData := .tuple (k.map keyD)
mutual
inductive Is (K : PySem.W.Frag) (H : Hp) : V → PyData → Prop
  | non : Is K H .non .none
  | bl (b : Bool) : Is K H (.bl b) (.bool b)
  | int (i : Int) : Is K H (.int i) (.int i)
  | str (x : Str) : Is K H (.str x) (.str x)
  | lst {a : Addr} {xs : List V} {ds : List PyData} : H a = some (.lst xs) → xs.length ≤ sizeLine → IsAll K H xs ds → Is K H (.ref a) (.list ds)
  | tup {a : Addr} {xs : List V} {ds : List PyData} : SqT K H a xs → xs.length ≤ sizeLine → IsAll K H xs ds → Is K H (.ref a) (.tuple ds)
  | dK {a : Addr} {kvs : List (Key × V)} {ds : List (PyData × PyData)} : H a = some (.dK kvs) → ds.map (·.1) = kvs.map (fun p => keyD p.1) → IsAll K H (kvs.map (·.2)) (ds.map (·.2)) → Is K H (.ref a) (.dict ds)
  | dT {a : Addr} {kvs : List (List Key × V)} {ds : List (PyData × PyData)} : H a = some (.dT kvs) → (ds.map (·.1) = kvs.map (fun p => keyT p.1) ∧ ds ≠ []) → IsAll K H (kvs.map (·.2)) (ds.map (·.2)) → Is K H (.ref a) (.dict ds)
inductive IsAll (K : PySem.W.Frag) (H : Hp) : List V → List PyData → Prop
  | nil : IsAll K H [] []
  | cons {v : V} {vs : List V} {d : PyData} {ds : List PyData} : Is K H v d → IsAll K H vs ds → IsAll K H (v :: vs) (d :: ds)
end
mutual
theorem Is.mono {K : PySem.W.Frag} {H H' : Hp} (e : Ex H H') : ∀ {v : V} {d : PyData}, Is K H v d → Is K H' v d
  | _, _, .non => .non
  | _, _, .bl b => .bl b
  | _, _, .int i => .int i
  | _, _, .str x => .str x
  | _, _, .lst h z r => .lst (e _ _ h) z (IsAll.mono e r)
  | _, _, .tup h z r => .tup (e.t h) z (IsAll.mono e r)
  | _, _, .dK h k r => .dK (e _ _ h) k (IsAll.mono e r)
  | _, _, .dT h k r => .dT (e _ _ h) k (IsAll.mono e r)
theorem IsAll.mono {K : PySem.W.Frag} {H H' : Hp} (e : Ex H H') : ∀ {vs : List V} {ds : List PyData}, IsAll K H vs ds → IsAll K H' vs ds
  | _, _, .nil => .nil
  | _, _, .cons h r => .cons (Is.mono e h) (IsAll.mono e r)
end
section
variable {K : PySem.W.Frag} {H H' : Hp}
theorem IsAll.length : ∀ {vs : List V} {ds : List PyData}, IsAll K H vs ds → vs.length = ds.length
  | _, _, .nil => rfl
  | _, _, .cons _ r => by simp [IsAll.length r]
theorem IsAll.get : ∀ {vs : List V} {ds : List PyData} {i : Nat} {d : PyData}, IsAll K H vs ds → ds[i]? = some d → ∃ v, vs[i]? = some v ∧ Is K H v d
  | _, _, _, _, .nil, e => by simp at e
  | _, _, 0, d, .cons h _, e => by simp at e; subst e; exact ⟨_, rfl, h⟩
  | _, _, i + 1, d, .cons _ r, e => by
    obtain ⟨v, a, b⟩ := IsAll.get (i := i) (d := d) r (by simpa using e)
    exact ⟨v, by simpa using a, b⟩
theorem IsAll.append : ∀ {vs ws : List V} {ds es : List PyData}, IsAll K H vs ds → IsAll K H ws es → IsAll K H (vs ++ ws) (ds ++ es)
  | _, _, _, _, .nil, s => s
  | _, _, _, _, .cons h r, s => .cons h (IsAll.append r s)
theorem IsAll.take : ∀ {vs : List V} {ds : List PyData} (n : Nat), IsAll K H vs ds → IsAll K H (vs.take n) (ds.take n)
  | _, _, 0, _ => by simpa using IsAll.nil
  | _, _, _ + 1, .nil => .nil
  | _, _, n + 1, .cons h r => .cons h (IsAll.take n r)
theorem IsAll.drop : ∀ {vs : List V} {ds : List PyData} (n : Nat), IsAll K H vs ds → IsAll K H (vs.drop n) (ds.drop n)
  | _, _, 0, r => r
  | _, _, _ + 1, .nil => .nil
  | _, _, n + 1, .cons _ r => IsAll.drop n r
theorem IsAll.reverse : ∀ {vs : List V} {ds : List PyData}, IsAll K H vs ds → IsAll K H vs.reverse ds.reverse
  | _, _, .nil => .nil
  | _, _, .cons h r => by
    rw [List.reverse_cons, List.reverse_cons]
    exact (IsAll.reverse r).append (.cons h .nil)
theorem IsAll.set : ∀ {vs : List V} {ds : List PyData} (i : Nat) {v : V} {d : PyData}, IsAll K H vs ds → Is K H v d → IsAll K H (vs.set i v) (ds.set i d)
  | _, _, _, _, _, .nil, _ => .nil
  | _, _, 0, _, _, .cons _ r, q => .cons q r
  | _, _, i + 1, _, _, .cons h r, q => .cons h (IsAll.set i r q)
theorem IsAll.dropLast {vs : List V} {ds : List PyData} (h : IsAll K H vs ds) : IsAll K H vs.dropLast ds.dropLast := by
  rw [List.dropLast_eq_take, List.dropLast_eq_take, h.length]
  exact h.take _
theorem IsAll.ints : ∀ {vs : List V} {ns : List Int}, IsAll K H vs (ns.map .int) → vs = ns.map V.int
  | _, [], .nil => rfl
  | _, n :: ns, .cons h r => by
    cases h
    rw [IsAll.ints (ns := ns) r]
    rfl
theorem IsAll.of_ints : ∀ {ns : List Int}, IsAll K H (ns.map V.int) (ns.map .int)
  | [] => .nil
  | n :: ns => .cons (.int n) IsAll.of_ints
theorem IsAll.strs : ∀ {vs : List V} {ns : List Str}, IsAll K H vs (ns.map .str) → vs = ns.map V.str
  | _, [], .nil => rfl
  | _, n :: ns, .cons h r => by
    cases h
    rw [IsAll.strs (ns := ns) r]
    rfl
theorem IsAll.of_strs : ∀ {ns : List Str}, IsAll K H (ns.map V.str) (ns.map .str)
  | [] => .nil
  | n :: ns => .cons (.str n) IsAll.of_strs
theorem IsAll.bools : ∀ {vs : List V} {ns : List Bool}, IsAll K H vs (ns.map .bool) → vs = ns.map V.bl
  | _, [], .nil => rfl
  | _, n :: ns, .cons h r => by
    cases h
    rw [IsAll.bools (ns := ns) r]
    rfl
theorem IsAll.two {vs : List V} {a b : PyData} (h : IsAll K H vs [a, b]) : ∃ v w, vs = [v, w] ∧ Is K H v a ∧ Is K H w b := by
  cases h with
  | cons h1 r => cases r with
    | cons h2 r => cases r; exact ⟨_, _, rfl, h1, h2⟩
end
/-! ### an object that its holder alone may change: its parts stand frozen -/
def Top (K : PySem.W.Frag) (B : List Addr) (H : Hp) (p : Addr) (d : PyData) : Prop :=
  (∃ ds vs, d = .list ds ∧ H p = some (.lst vs) ∧ vs.length ≤ sizeLine ∧ IsAll K (Fz B H) vs ds) ∨
  (∃ (ds : List (PyData × PyData)) (kvs : List (Key × V)), d = .dict ds ∧ H p = some (.dK kvs) ∧ ds.map (·.1) = kvs.map (fun p => keyD p.1) ∧ IsAll K (Fz B H) (kvs.map (·.2)) (ds.map (·.2))) ∨
  (∃ (ds : List (PyData × PyData)) (kvs : List (List Key × V)), d = .dict ds ∧ H p = some (.dT kvs) ∧ (ds.map (·.1) = kvs.map (fun p => keyT p.1) ∧ ds ≠ []) ∧ IsAll K (Fz B H) (kvs.map (·.2)) (ds.map (·.2)))
theorem Top.mono {K : PySem.W.Frag} {B B' : List Addr} {H H' : Hp} {p : Addr} {d : PyData} (t : Top K B H p d) (e : Ex (Fz B H) (Fz B' H')) (hp : ∀ o, H p = some o → H' p = some o) : Top K B' H' p d := by
  rcases t with ⟨ds, vs, rfl, a, z, b⟩ | ⟨ds, kvs, rfl, a, k, b⟩ | ⟨ds, kvs, rfl, a, k, b⟩
  · exact .inl ⟨ds, vs, rfl, hp _ a, z, b.mono e⟩
  · exact .inr (.inl ⟨ds, kvs, rfl, hp _ a, k, b.mono e⟩)
  · exact .inr (.inr ⟨ds, kvs, rfl, hp _ a, k, b.mono e⟩)
theorem Top.is {K : PySem.W.Frag} {B : List Addr} {H H' : Hp} {p : Addr} {d : PyData} (t : Top K B H p d) (e : Ex (Fz B H) H') (hp : ∀ o, H p = some o → H' p = some o) : Is K H' (.ref p) d := by
  rcases t with ⟨ds, vs, rfl, a, z, b⟩ | ⟨ds, kvs, rfl, a, k, b⟩ | ⟨ds, kvs, rfl, a, k, b⟩
  · exact .lst (hp _ a) z (b.mono e)
  · exact .dK (hp _ a) k (b.mono e)
  · exact .dT (hp _ a) k (b.mono e)
theorem Top.some {K : PySem.W.Frag} {B : List Addr} {H : Hp} {p : Addr} {d : PyData} (t : Top K B H p d) : H p ≠ none := by
  rcases t with ⟨ds, vs, rfl, a, _, b⟩ | ⟨ds, kvs, rfl, a, k, b⟩ | ⟨ds, kvs, rfl, a, k, b⟩ <;> rw [a] <;> intro z <;> cases z
/-! ### what all frames share: lists changed by reference, tables of code objects -/
/-- a function in hand: the object, its code, the ban list and the heap it was handed in at -/
structure Lm where
  f : Addr
  cc : Addr
  q : Str
  B : List Addr
  H : Hp
structure Gx where
  SA : List Addr
  T : List (Addr × Str)
  E : Option (Addr × Xc × Option Addr) := none
  L : Option Lm := none
def Gx.G (g : Gx) : List Addr := g.SA ++ g.T.map (·.1)
structure GI (K : PySem.W.Frag) (g : Gx) (B : List Addr) (H : Hp) (S : Store) : Prop where
  st : Paired (fun (p : Addr) (xs : List PyData) => ∃ vs, H p = some (.lst vs) ∧ vs.length ≤ sizeLine ∧ IsAll K (Fz B H) vs xs) g.SA S
  tabs : LamX.Tabs g.T H
  sub : ∀ a ∈ g.G, a ∈ B
  kn : ∀ a ∈ B, H a ≠ none
  nd : g.G.Nodup
  cd : ∀ l, g.L = some l → H l.cc = some (LamX.CodeO l.cc l.q) ∧ Ex (Fz l.B l.H) (Fz B H)
theorem Paired.imp {α β : Type} {F G : α → β → Prop} : ∀ {l₁ : List α} {l₂ : List β}, Paired F l₁ l₂ → (∀ a b, F a b → G a b) → Paired G l₁ l₂
  | _, _, .nil, _ => .nil
  | _, _, .cons r t, f => .cons (f _ _ r) (Paired.imp t f)
theorem GI.ex {K : PySem.W.Frag} {g : Gx} {B : List Addr} {H H' : Hp} {S : Store} (i : GI K g B H S) (e : Ex H H') : GI K g B H' S :=
  ⟨Paired.imp i.st fun p xs ⟨vs, a, z, b⟩ => ⟨vs, e _ _ a, z, b.mono e.fz⟩, i.tabs.ext e, i.sub, fun a ha z => i.kn a ha (e.free z), i.nd, fun l hl => ⟨e _ _ (i.cd l hl).1, (i.cd l hl).2.trans e.fz⟩⟩
/-- fewer addresses are banned -/
theorem GI.less {K : PySem.W.Frag} {g : Gx} {B B' : List Addr} {H : Hp} {S : Store} (i : GI K g B H S) (h : ∀ a ∈ B', a ∈ B) (hg : ∀ a ∈ g.G, a ∈ B') : GI K g B' H S :=
  ⟨Paired.imp i.st fun p xs ⟨vs, a, z, b⟩ => ⟨vs, a, z, b.mono (fz_anti h)⟩, i.tabs, hg, fun a ha => i.kn a (h a ha), i.nd, fun l hl => ⟨(i.cd l hl).1, (i.cd l hl).2.trans (fz_anti h)⟩⟩
/-- an exception's fields as they lie -/
def FsRep (K : PySem.W.Frag) (H : Hp) (x : Xc) (dd : Option Addr) : Prop :=
  (x.fs = [] ∧ dd = none) ∨ ∃ d fs, dd = some d ∧ H d = some (.xd fs) ∧ fs.map (·.1) = x.fs.map (·.1) ∧ IsAll K H (fs.map (·.2)) (x.fs.map (·.2))
theorem FsRep.mono {K : PySem.W.Frag} {H H' : Hp} {x : Xc} {dd : Option Addr} (h : FsRep K H x dd) (e : Ex H H') : FsRep K H' x dd := by
  rcases h with c | ⟨d, fs, c1, c2, c3, c4⟩
  · exact .inl c
  · exact .inr ⟨d, fs, c1, e _ _ c2, c3, c4.mono e⟩
/-! ### slots -/
inductive Md where
  | un | fz | own | own2 | st (k : Nat) | ea | lm | cs
  deriving DecidableEq
def Own (B0 B : List Addr) (ow : Addr → Nat) (i : Nat) (p : Addr) : Prop := p ∈ B ∧ p ∉ B0 ∧ ow p = i
abbrev Env := List (Option PyData)
def SlotOk (K : PySem.W.Frag) (g : Gx) (B0 B : List Addr) (ow : Addr → Nat) (H : Hp) (i : Nat) : Md → Option PyData → Option V → Prop
  | .un, _, _ => True
  | .fz, od, ov => ∀ d, od = some d → ∃ v, ov = some v ∧ Is K (Fz B H) v d
  | .own, od, ov => ∃ d p, od = some d ∧ ov = some (.ref p) ∧ Own B0 B ow i p ∧ Top K B H p d
  | .own2, od, ov => ∃ ds p qs, od = some (.list ds) ∧ ov = some (.ref p) ∧ (∀ q ∈ p :: qs, Own B0 B ow i q) ∧ ((p :: qs).Nodup ∧ qs.length ≤ sizeLine) ∧ H p = some (.lst (qs.map V.ref)) ∧ Paired (fun q d => Top K B H q d) qs ds
  | .st k, _, ov => ∃ p, g.SA[k]? = some p ∧ ov = some (.ref p)
  | .cs, od, ov => ∃ a vs ds, od = some (.list ds) ∧ ov = some (.ref a) ∧ SqL K (Fz B H) a vs ∧ vs.length ≤ sizeLine ∧ IsAll K (Fz B H) vs ds
  | .lm, _, ov => ∃ l, g.L = some l ∧ ov = some (.ref l.f)
  | .ea, _, ov => ∃ a x d, g.E = some (a, x, d) ∧ ov = some (.ref a) ∧ FsRep K (Fz B H) x d
structure Frame (K : PySem.W.Frag) (g : Gx) (B0 B : List Addr) (ow : Addr → Nat) (m : List Md) (ρ : Env) (σ : L2.St) (H : Hp) : Prop where
  lm : m.length = ρ.length
  ls : σ.length = ρ.length
  sub : ∀ a ∈ B0, a ∈ B
  gsub : ∀ a ∈ g.G, a ∈ B0
  slot : ∀ i md, m[i]? = some md → SlotOk K g B0 B ow H i md (ρ.getD i none) (σ.getD i none)
section
variable {K : PySem.W.Frag} {g : Gx} {B0 B B' : List Addr} {ow : Addr → Nat} {m : List Md} {ρ : Env} {σ : L2.St} {H H' : Hp} {i : Nat}
theorem SlotOk.step {md : Md} {od : Option PyData} {ov : Option V} (h : SlotOk K g B0 B ow H i md od ov) (e : Ex (Fz B H) (Fz B' H')) (hB : ∀ a, Own B0 B ow i a → a ∈ B') (ho : ∀ a o, Own B0 B ow i a → H a = some o → H' a = some o) : SlotOk K g B0 B' ow H' i md od ov := by
  have k : ∀ {a}, Own B0 B ow i a → Own B0 B' ow i a := fun {a} q => ⟨hB a q, q.2⟩
  cases md with
  | un => trivial
  | fz => exact fun d hd => let ⟨v, a, b⟩ := h d hd; ⟨v, a, b.mono e⟩
  | own =>
    obtain ⟨d, p, h1, h2, h3, h4⟩ := h
    exact ⟨d, p, h1, h2, k h3, h4.mono e fun o q => ho p o h3 q⟩
  | own2 =>
    obtain ⟨ds, p, qs, h1, h2, h3, h4, h5, h6⟩ := h
    refine ⟨ds, p, qs, h1, h2, fun q hq => k (h3 q hq), h4, ho p _ (h3 p (List.mem_cons_self ..)) h5, ?_⟩
    have h3' : ∀ q ∈ qs, Own B0 B ow i q := fun q hq => h3 q (List.mem_cons_of_mem _ hq)
    clear h1 h2 h3 h4 h5
    induction h6 with
    | nil => exact .nil
    | cons r t ih => exact .cons (r.mono e fun o q => ho _ o (h3' _ (List.mem_cons_self ..)) q) (ih fun q hq => h3' q (List.mem_cons_of_mem _ hq))
  | st k => exact h
  | ea => exact let ⟨a, x, d, h1, h2, h3⟩ := h; ⟨a, x, d, h1, h2, h3.mono e⟩
  | lm => exact h
  | cs => exact let ⟨a, vs, ds, h1, h2, h3, h4, h5⟩ := h; ⟨a, vs, ds, h1, h2, e.l h3, h4, h5.mono e⟩
theorem Frame.evo (f : Frame K g B0 B ow m ρ σ H) (e : Evo g.G H H') : Frame K g B0 B ow m ρ σ H' :=
  ⟨f.lm, f.ls, f.sub, f.gsub, fun i md h => (f.slot i md h).step (e.fz fun a ha => f.sub a (f.gsub a ha)) (fun a h => h.1) fun a o h q => e a o (fun z => h.2.1 (f.gsub a z)) q⟩
end
/-! ### expressions -/
/-- the weakest reading of an expression, a test, an argument list -/
structure WE (X : Cx) (e : Expr) (σ : L2.St) (H : Hp) (Q : VK) : Prop where
  go : ∀ (pins : List (Addr × Obj)) (s : Shared), Inv X pins σ H s → wpAny (model X.prog X.w) X.A (eval e X.env) (EP X pins σ Q) X.xe s
structure WT (X : Cx) (e : Expr) (σ : L2.St) (H : Hp) (Q : Bool → Hp → Prop) : Prop where
  go : ∀ (pins : List (Addr × Obj)) (s : Shared), Inv X pins σ H s → wpAny (model X.prog X.w) X.A (isTrue e X.env (eval e X.env)) (TP X pins σ Q) X.xe s
structure WA (X : Cx) (es : List Expr) (σ : L2.St) (H : Hp) (Q : List V → Hp → Prop) : Prop where
  go : ∀ (pos : Pos) (pins : List (Addr × Obj)) (s : Shared), Inv X pins σ H s → wpAny (model X.prog X.w) X.A (spliced (backTo pos (starEach es X.env))) (AP X pins σ Q) X.xe s
structure WS (X : Cx) (st : Stmt) (D : Ends) (σ : L2.St) (H : Hp) : Prop where
  go : ∀ (pins : List (Addr × Obj)) (s : Shared), Inv X pins σ H s → wpAny (model X.prog X.w) X.A (exec st X.env) (SP X pins D) X.xe s
structure WSs (X : Cx) (st : List Stmt) (D : Ends) (σ : L2.St) (H : Hp) : Prop where
  go : ∀ (pins : List (Addr × Obj)) (s : Shared), Inv X pins σ H s → wpAny (model X.prog X.w) X.A (execs st X.env) (SP X pins D) X.xe s
section
variable {X : Cx}
theorem we {e : Expr} : PE X e (WE X e) := ⟨fun pins s _ _ _ I h => h.go pins s I⟩
theorem wt {e : Expr} : PT X e (WT X e) := ⟨fun pins s _ _ _ I h => h.go pins s I⟩
theorem wa {e : List Expr} : PA X e (WA X e) := ⟨fun pos pins s _ _ _ I h => h.go pos pins s I⟩
theorem ws {e : Stmt} : PS X e (WS X e) := ⟨fun pins s _ _ _ I h => h.go pins s I⟩
theorem wss {e : List Stmt} : PSs X e (WSs X e) := ⟨fun pins s _ _ _ I h => h.go pins s I⟩
theorem WE.of {e : Expr} {t : TE} (h : PE X e t) {σ : L2.St} {H : Hp} {Q : VK} (q : t σ H Q) : WE X e σ H Q := ⟨fun pins s I => h.run pins s σ H Q I q⟩
theorem WT.of {e : Expr} {t : TT} (h : PT X e t) {σ : L2.St} {H : Hp} {Q : Bool → Hp → Prop} (q : t σ H Q) : WT X e σ H Q := ⟨fun pins s I => h.run pins s σ H Q I q⟩
theorem WA.of {e : List Expr} {t : TA} (h : PA X e t) {σ : L2.St} {H : Hp} {Q : List V → Hp → Prop} (q : t σ H Q) : WA X e σ H Q := ⟨fun pos pins s I => h.run pos pins s σ H Q I q⟩
theorem WS.of {e : Stmt} {t : TS} (h : PS X e t) {σ : L2.St} {H : Hp} {Q : Ends} (q : t Q σ H) : WS X e Q σ H := ⟨fun pins s I => h.run pins s σ H Q I q⟩
theorem WSs.of {e : List Stmt} {t : TS} (h : PSs X e t) {σ : L2.St} {H : Hp} {Q : Ends} (q : t Q σ H) : WSs X e Q σ H := ⟨fun pins s I => h.run pins s σ H Q I q⟩
end
/-- an exception as it lies -/
def XcRep (K : PySem.W.Frag) (mg : Str → Option Value) (H : Hp) (x : Xc) (cls : Value) (dd : Option Addr) : Prop :=
  ∃ C, mg x.cls = some (.ref C) ∧ cls = .ref C ∧ FsRep K H x dd
theorem XcRep.mono {K : PySem.W.Frag} {mg : Str → Option Value} {H H' : Hp} {x : Xc} {cls : Value} {dd : Option Addr} (h : XcRep K mg H x cls dd) (e : Ex H H') : XcRep K mg H' x cls dd :=
  let ⟨C, a, b, c⟩ := h; ⟨C, a, b, c.mono e⟩
/-- where one stands -/
structure Cc where
  g : Gx
  X : Cx
  W : WX
abbrev DE := Env → Store → R PyData
abbrev DT := Env → Store → R Bool
abbrev DA := Env → Store → R (List PyData)
/-- what an exception asks -/
def XOk (c : Cc) (B : List Addr) (H : Hp) (σ : L2.St) (x : Xc) (S' : Store) : Prop := ∀ cls dd H', Evo c.g.G H H' → GI c.X.K c.g B H' S' → XcRep c.X.K c.X.mg (Fz B H') x cls dd → c.W cls dd σ H'
/-- what a reading of an expression asks: Good is said of the value and the heap -/
def Goal {α β : Type} (c : Cc) (B : List Addr) (H : Hp) (σ : L2.St) (r : R α) (Good : Store → Hp → β → α → Prop) (Q : β → Hp → Prop) : Prop :=
  (∀ d S' v H', r = .ok d S' → Evo c.g.G H H' → GI c.X.K c.g B H' S' → Good S' H' v d → Q v H') ∧ (∀ x S', r = .exc x S' → XOk c B H σ x S') ∧ r ≠ .bad
/-- an expression with a frozen value -/
def EV (c : Cc) (m : List Md) (e : Expr) (den : DE) : Prop := ∀ σ H ρ S B0 B ow Q, Frame c.X.K c.g B0 B ow m ρ σ H → GI c.X.K c.g B H S →
  Goal c B H σ (den ρ S) (fun _ H' v d => Is c.X.K (Fz B H') v d) Q → WE c.X e σ H Q
/-- an expression with a value that may be read now, its parts frozen: a list of a slot's own -/
def EB (c : Cc) (m : List Md) (e : Expr) (den : DE) : Prop := ∀ σ H ρ S B0 B ow Q, Frame c.X.K c.g B0 B ow m ρ σ H → GI c.X.K c.g B H S →
  Goal c B H σ (den ρ S) (fun _ H' v d => Is c.X.K (Fz B H') v d ∨ ∃ p, v = .ref p ∧ p ∉ c.g.G ∧ Top c.X.K B H' p d) Q → WE c.X e σ H Q
/-- an expression with a new list, dict of its own -/
def EO (c : Cc) (m : List Md) (e : Expr) (den : DE) : Prop := ∀ σ H ρ S B0 B ow Q, Frame c.X.K c.g B0 B ow m ρ σ H → GI c.X.K c.g B H S →
  Goal c B H σ (den ρ S) (fun S' H' v d => ∃ p, v = .ref p ∧ H p = none ∧ Top c.X.K (p :: B) H' p d ∧ GI c.X.K c.g (p :: B) H' S') Q → WE c.X e σ H Q
def ET (c : Cc) (m : List Md) (e : Expr) (den : DT) : Prop := ∀ σ H ρ S B0 B ow Q, Frame c.X.K c.g B0 B ow m ρ σ H → GI c.X.K c.g B H S →
  Goal c B H σ (den ρ S) (fun _ H' v d => v = d) Q → WT c.X e σ H Q
def EA (c : Cc) (m : List Md) (e : List Expr) (den : DA) : Prop := ∀ σ H ρ S B0 B ow Q, Frame c.X.K c.g B0 B ow m ρ σ H → GI c.X.K c.g B H S →
  Goal c B H σ (den ρ S) (fun _ H' v d => IsAll c.X.K (Fz B H') v d) Q → WA c.X e σ H Q
section
variable {α β γ δ : Type} {c : Cc} {B : List Addr} {H : Hp} {σ : L2.St}
/-- what follows: the first part's reading asks the rest's -/
theorem Goal.bind {r : R α} {k : α → Store → R γ} {G2 : Store → Hp → δ → γ → Prop} {Q : δ → Hp → Prop} (h : Goal c B H σ (r.bind k) G2 Q) {G1 : Store → Hp → β → α → Prop} {Q1 : β → Hp → Prop}
    (step : ∀ d S' v H', r = .ok d S' → Evo c.g.G H H' → GI c.X.K c.g B H' S' → G1 S' H' v d → Goal c B H' σ (k d S') G2 Q → Q1 v H') : Goal c B H σ r G1 Q1 := by
  obtain ⟨h1, h2, h3⟩ := h
  refine ⟨fun d S' v H' e ev gi gd => step d S' v H' e ev gi gd ⟨fun d2 S2 v2 H2 e2 ev2 gi2 gd2 => h1 d2 S2 v2 H2 (by rw [e]; exact e2) (ev.trans ev2) gi2 gd2, fun x S2 e2 cls dd H2 ev2 gi2 xr => h2 x S2 (by rw [e]; exact e2) cls dd H2 (ev.trans ev2) gi2 xr, fun e2 => h3 (by rw [e]; exact e2)⟩, fun x S2 e => h2 x S2 (by rw [e]; rfl), fun e => h3 (by rw [e]; rfl)⟩
theorem Goal.ok {d : α} {S : Store} {G2 : Store → Hp → β → α → Prop} {Q : β → Hp → Prop} (h : Goal c B H σ (.ok d S) G2 Q) {v : β} {H' : Hp} (ev : Evo c.g.G H H') (gi : GI c.X.K c.g B H' S) (gd : G2 S H' v d) : Q v H' := h.1 d S v H' rfl ev gi gd
theorem Goal.ok0 {d : α} {S : Store} {G2 : Store → Hp → β → α → Prop} {Q : β → Hp → Prop} (h : Goal c B H σ (.ok d S) G2 Q) {v : β} (gi : GI c.X.K c.g B H S) (gd : G2 S H v d) : Q v H := h.ok (Evo.refl _ _) gi gd
theorem Goal.not_bad {r : R α} {G2 : Store → Hp → β → α → Prop} {Q : β → Hp → Prop} (h : Goal c B H σ r G2 Q) : r ≠ .bad := h.2.2
theorem Goal.imp {r : R α} {G1 : Store → Hp → β → α → Prop} {G2 : Store → Hp → γ → α → Prop} {Q : β → Hp → Prop} {Q' : γ → Hp → Prop} (h : Goal c B H σ r G1 Q) (f : ∀ H' v d S', Evo c.g.G H H' → GI c.X.K c.g B H' S' → G2 S' H' v d → (∀ v', G1 S' H' v' d → Q v' H') → Q' v H') : Goal c B H σ r G2 Q' :=
  ⟨fun d S' v H' e ev gi gd => f H' v d S' ev gi gd fun v' g1 => h.1 d S' v' H' e ev gi g1, h.2.1, h.2.2⟩
end
section
variable {c : Cc} {m : List Md} {e : Expr} {den : DE}
theorem EV.eb (h : EV c m e den) : EB c m e den := fun σ H ρ S B0 B ow Q fr gi g => h σ H ρ S B0 B ow Q fr gi (g.imp fun H' v d S' _ _ gd k => k v (.inl gd))
theorem EO.ev (h : EO c m e den) : EV c m e den := fun σ H ρ S B0 B ow Q fr gi g => h σ H ρ S B0 B ow Q fr gi (g.imp fun H' v d S' _ _ gd k => by
  obtain ⟨p, rfl, hp, t, _⟩ := gd
  have np : p ∉ B := fun z => gi.kn p z hp
  exact k _ (t.is (fz_anti fun a ha => List.mem_cons_of_mem _ ha) fun o q => fz_some.mpr ⟨np, q⟩))
theorem EO.eb (h : EO c m e den) : EB c m e den := h.ev.eb
end
end PD
/-! PDb: names, constants, displays, operators, comparisons, tests. -/
namespace PD
open PySem PySem.Spec PyProof.Rows L2
/-! ### readable values -/
def isNone : PyData → Bool | .none => true | _ => false
def Rb (K : PySem.W.Frag) (g : Gx) (B : List Addr) (H : Hp) (v : V) (d : PyData) : Prop := Is K (Fz B H) v d ∨ ∃ p, v = .ref p ∧ p ∉ g.G ∧ Top K B H p d
section
variable {K : PySem.W.Frag} {g : Gx} {B : List Addr} {H H' : Hp} {v : V} {d : PyData}
theorem Rb.evo (h : Rb K g B H v d) (hg : ∀ a ∈ g.G, a ∈ B) (e : Evo g.G H H') : Rb K g B H' v d := by
  rcases h with h | ⟨p, rfl, hp, t⟩
  · exact .inl (h.mono (e.fz hg))
  · exact .inr ⟨p, rfl, hp, t.mono (e.fz hg) fun o q => e p o hp q⟩
theorem fz_evo (hg : ∀ a ∈ g.G, a ∈ B) (e : Evo g.G H H') {a : Addr} {o : HO} (h : Fz B H a = some o) : H' a = some o :=
  have q := fz_some.mp h
  e a o (fun z => q.1 (hg a z)) q.2
theorem rd_evo (hg : ∀ a ∈ g.G, a ∈ B) (e : Evo g.G H H') {a : Addr} {o : HO} (h : Rd (Fz B H) a o) : Rd H' a o := by
  rcases h with h | ⟨u, h⟩
  · exact .inl (fz_evo hg e h)
  · exact .inr ⟨u, fz_evo hg e h⟩
theorem Rb.lst {ds : List PyData} (h : Rb K g B H v (.list ds)) (hg : ∀ a ∈ g.G, a ∈ B) : ∃ a vs, v = .ref a ∧ IsAll K (Fz B H) vs ds ∧ (∀ H', Evo g.G H H' → H' a = some (.lst vs)) ∧ vs.length ≤ sizeLine := by
  rcases h with h | ⟨p, rfl, hp, t⟩
  · cases h with
    | lst h z r => exact ⟨_, _, rfl, r, fun H' e => fz_evo hg e h, z⟩
  · rcases t with ⟨ds, vs, e, a, z, b⟩ | ⟨ds, kvs, e, _⟩ | ⟨ds, kvs, e, _⟩ <;> cases e
    exact ⟨p, vs, rfl, b, fun H' e => e p _ hp a, z⟩
theorem Rb.tup {ds : List PyData} (h : Rb K g B H v (.tuple ds)) (hg : ∀ a ∈ g.G, a ∈ B) : ∃ a vs, v = .ref a ∧ IsAll K (Fz B H) vs ds ∧ (∀ H', Evo g.G H H' → SqT K H' a vs) ∧ vs.length ≤ sizeLine := by
  rcases h with h | ⟨p, rfl, hp, t⟩
  · cases h with
    | tup h z r =>
      refine ⟨_, _, rfl, r, fun H' e => ?_, z⟩
      rcases h with h | h
      · exact .inl (rd_evo hg e h)
      · exact .inr h
  · rcases t with ⟨ds, vs, e, a, b⟩ | ⟨ds, kvs, e, _⟩ | ⟨ds, kvs, e, _⟩ <;> cases e
theorem Rb.int {i : Int} (h : Rb K g B H v (.int i)) : v = .int i := by
  rcases h with h | ⟨p, rfl, hp, ⟨ds, vs, e, _⟩ | ⟨ds, kvs, e, _⟩ | ⟨ds, kvs, e, _⟩⟩
  · cases h; rfl
  all_goals cases e
theorem Rb.str {i : Str} (h : Rb K g B H v (.str i)) : v = .str i := by
  rcases h with h | ⟨p, rfl, hp, ⟨ds, vs, e, _⟩ | ⟨ds, kvs, e, _⟩ | ⟨ds, kvs, e, _⟩⟩
  · cases h; rfl
  all_goals cases e
theorem Rb.bool {i : Bool} (h : Rb K g B H v (.bool i)) : v = .bl i := by
  rcases h with h | ⟨p, rfl, hp, ⟨ds, vs, e, _⟩ | ⟨ds, kvs, e, _⟩ | ⟨ds, kvs, e, _⟩⟩
  · cases h; rfl
  all_goals cases e
theorem Rb.non (h : Rb K g B H v .none) : v = .non := by
  rcases h with h | ⟨p, rfl, hp, ⟨ds, vs, e, _⟩ | ⟨ds, kvs, e, _⟩ | ⟨ds, kvs, e, _⟩⟩
  · cases h; rfl
  all_goals cases e
/-- it is None just where its data is -/
theorem Rb.non_iff (h : Rb K g B H v d) : decide (v = .non) = isNone d := by
  rcases h with h | ⟨p, rfl, hp, ⟨ds, vs, rfl, _⟩ | ⟨ds, kvs, rfl, _⟩ | ⟨ds, kvs, rfl, _⟩⟩
  · cases h <;> rfl
  all_goals rfl
mutual
theorem Is.dp : ∀ {v : V} {d : PyData}, Is K H v d → d.canLay0 = true → Dp K H v d
  | _, _, .non, _ => .non
  | _, _, .bl b, _ => .bl b
  | _, _, .int i, _ => .int i
  | _, _, .str x, _ => .str x
  | _, _, .lst h _ r, q => .lst (.inl (.inl h)) (IsAll.dp r (by simpa [PyData.canLay0] using q))
  | _, _, .tup h _ r, q => .tup h (IsAll.dp r (by simpa [PyData.canLay0] using q))
  | _, _, .dK _ _ _, q => by simp [PyData.canLay0] at q
  | _, _, .dT _ _ _, q => by simp [PyData.canLay0] at q
theorem IsAll.dp : ∀ {v : List V} {d : List PyData}, IsAll K H v d → PyData.canLayAll0 d = true → DpAll K H v d
  | _, _, .nil, _ => .nil
  | _, _, .cons h r, q => by
    have q := Bool.and_eq_true_iff.mp (show (PyData.canLay0 _ && PyData.canLayAll0 _) = true by rw [PyData.canLayAll0] at q; exact q)
    exact .cons (Is.dp h q.1) (IsAll.dp r q.2)
end
theorem Rb.dp (h : Rb K g B H v d) (q : d.canLay0 = true) : Dp K H v d := by
  rcases h with h | ⟨p, rfl, hp, t⟩
  · exact (h.mono fz_le).dp q
  · exact (t.is fz_le fun _ z => z).dp q
theorem new_notin {p : Addr} (hn : ∀ a ∈ B, H a ≠ none) (hp : H p = none) : p ∉ B := fun z => hn p z hp
theorem fz_new {p : Addr} {o : HO} (hn : ∀ a ∈ B, H a ≠ none) (hp : H p = none) : Fz B (upd H p o) p = some o := fz_some.mpr ⟨new_notin hn hp, upd_same⟩
theorem is_newT {p : Addr} {vs : List V} {ds : List PyData} (hn : ∀ a ∈ B, H a ≠ none) (hp : H p = none) (hz : vs.length ≤ sizeLine) (h : IsAll K (Fz B H) vs ds) : Is K (Fz B (upd H p (.tup vs))) (.ref p) (.tuple ds) :=
  .tup (.inl (.inl (fz_new hn hp))) hz (h.mono (Ex.new hp).fz)
theorem is_newL {p : Addr} {vs : List V} {ds : List PyData} (hn : ∀ a ∈ B, H a ≠ none) (hp : H p = none) (hz : vs.length ≤ sizeLine) (h : IsAll K (Fz B H) vs ds) : Is K (Fz B (upd H p (.lst vs))) (.ref p) (.list ds) :=
  .lst (fz_new hn hp) hz (h.mono (Ex.new hp).fz)
theorem top_newL {p : Addr} {vs : List V} {ds : List PyData} (hp : H p = none) (hz : vs.length ≤ sizeLine) (h : IsAll K (Fz B H) vs ds) : Top K (p :: B) (upd H p (.lst vs)) p (.list ds) :=
  .inl ⟨ds, vs, rfl, upd_same, hz, h.mono fun a o q => by
    have q := fz_some.mp q
    have ne : a ≠ p := ne_of_none q.2 hp
    exact fz_some.mpr ⟨fun z => (List.mem_cons.mp z).elim ne q.1, (Ex.new hp) a o q.2⟩⟩
end
theorem GI.fresh {K : PySem.W.Frag} {g : Gx} {B : List Addr} {H H' : Hp} {S : Store} {p : Addr} (i : GI K g B H S) (e : Ex H H') (hp : H p = none) (ht : H' p ≠ none) : GI K g (p :: B) H' S := by
  have ex : Ex (Fz B H) (Fz (p :: B) H') := fun a u q => by
    have q := fz_some.mp q
    have ne : a ≠ p := ne_of_none q.2 hp
    exact fz_some.mpr ⟨fun z => (List.mem_cons.mp z).elim ne q.1, e a u q.2⟩
  refine ⟨Paired.imp i.st fun p xs ⟨vs, a, z, b⟩ => ⟨vs, e _ _ a, z, b.mono ex⟩, i.tabs.ext e, fun a ha => List.mem_cons_of_mem _ (i.sub a ha), fun a ha => ?_, i.nd, fun l hl => ⟨e _ _ (i.cd l hl).1, (i.cd l hl).2.trans ex⟩⟩
  rcases List.mem_cons.mp ha with rfl | ha
  · exact ht
  · intro z
    exact i.kn a ha (e.free z)
def ofO {α : Type} (o : Option α) (S : Store) : R α := match o with | some a => .ok a S | none => .bad
@[simp] theorem ofO_some {α : Type} (a : α) (S : Store) : ofO (some a) S = .ok a S := rfl
@[simp] theorem ofO_none {α : Type} (S : Store) : ofO (none : Option α) S = .bad := rfl
/-! ### names and constants -/
def dVar (i : Nat) : DE := fun ρ S => ofO (ρ.getD i none) S
theorem ev_var {c : Cc} {m : List Md} {i : Nat} {x : Str} {pos : Pos} (hm : m[i]? = some .fz) (hp : PE c.X (.Name x pos) (tVar i)) : EV c m (.Name x pos) (dVar i) := by
  intro σ H ρ S B0 B ow Q fr gi g
  refine WE.of hp ?_
  have hs := fr.slot i _ hm
  unfold dVar at g
  cases e : ρ.getD i none with
  | none => rw [e] at g; exact absurd rfl g.not_bad
  | some d =>
    rw [e] at g hs
    obtain ⟨v, hv, q⟩ := hs d rfl
    refine ⟨v, ?_, g.ok0 gi q⟩
    rw [List.getD_eq_getElem?_getD] at hv
    cases h2 : σ[i]? with
    | none => rw [h2] at hv; cases hv
    | some o => rw [h2] at hv; rw [show o = some v from hv]
/-- a list, dict of the slot's own, read -/
theorem eb_own {c : Cc} {m : List Md} {i : Nat} {x : Str} {pos : Pos} (hm : m[i]? = some .own) (hp : PE c.X (.Name x pos) (tVar i)) : EB c m (.Name x pos) (dVar i) := by
  intro σ H ρ S B0 B ow Q fr gi g
  refine WE.of hp ?_
  obtain ⟨d, p, e, hv, hw, t⟩ := fr.slot i _ hm
  unfold dVar at g
  rw [e] at g
  refine ⟨.ref p, ?_, g.ok0 gi (.inr ⟨p, rfl, fun z => hw.2.1 (fr.gsub p z), t⟩)⟩
  rw [List.getD_eq_getElem?_getD] at hv
  cases h2 : σ[i]? with
  | none => rw [h2] at hv; cases hv
  | some o => rw [h2] at hv; rw [show o = some _ from hv]
def dC (d : PyData) : DE := fun _ S => .ok d S
section
variable {c : Cc} {m : List Md}
theorem ev_const {e : Expr} {v : V} {d : PyData} (hp : PE c.X e (tC v)) (h : ∀ H, Is c.X.K H v d) : EV c m e (dC d) := fun σ H ρ S B0 B ow Q fr gi g => WE.of hp (g.ok0 gi (h _))
theorem ev_int {i : Int} {j pos} : EV c m (.Constant (.int i) j pos) (dC (.int i)) := ev_const pe_int fun _ => .int i
theorem ev_bl {i : Bool} {j pos} : EV c m (.Constant (.bool i) j pos) (dC (.bool i)) := ev_const pe_bl fun _ => .bl i
theorem ev_str {i : Str} {j pos} : EV c m (.Constant (.str i) j pos) (dC (.str i)) := ev_const pe_str fun _ => .str i
theorem ev_non {j pos} : EV c m (.Constant .none j pos) (dC .none) := ev_const pe_non fun _ => .non
/-- a constant of the module -/
theorem ev_glob {x : Str} {v : V} {u : Value} {d : PyData} {pos : Pos} (hg : Gl c.X x) (hm : c.X.mg x = some u) (r : RelV v u) (h : ∀ H, Is c.X.K H v d) (hd : (x == ("__debug__" : Str)) = false := by decide) : EV c m (.Name x pos) (dC d) := ev_const (pe_glob hg hm r hd) h
/-! ### lists of arguments, displays -/
def dNil : DA := fun _ S => .ok [] S
def dCons (a : DE) (r : DA) : DA := fun ρ S => (a ρ S).bind fun x S1 => (r ρ S1).bind fun xs S2 => .ok (x :: xs) S2
theorem ea_nil : EA c m [] dNil := fun σ H ρ S B0 B ow Q fr gi g => WA.of pa_nil (g.ok0 gi .nil)
theorem ea_cons {e : Expr} {es : List Expr} {a : DE} {r : DA} (ha : EV c m e a) (hr : EA c m es r) (hs : starEach (e :: es) c.X.env = (false, eval e c.X.env) :: starEach es c.X.env := by rfl) : EA c m (e :: es) (dCons a r) := by
  intro σ H ρ S B0 B ow Q fr gi g
  refine WA.of (pa_cons we wa hs) (ha σ H ρ S B0 B ow _ fr gi (g.bind fun d S' v H' _ ev gi' gd g' => ?_))
  refine hr σ H' ρ S' B0 B ow _ (fr.evo ev) gi' (g'.bind fun ds S2 vs H2 _ ev2 gi2 gd2 g2 => ?_)
  exact g2.ok0 gi2 (.cons (gd.mono (ev2.fz gi2.sub)) gd2)
def sz (n : Nat) : Bool := decide (n ≤ sizeLine)
def dTup (a : DA) : DE := fun ρ S => (a ρ S).bind fun xs S1 => if sz xs.length then .ok (.tuple xs) S1 else .bad
def dLst (a : DA) : DE := fun ρ S => (a ρ S).bind fun xs S1 => if sz xs.length then .ok (.list xs) S1 else .bad
theorem ev_tup {es : List Expr} {a : DA} {x1 pos} (ha : EA c m es a) : EV c m (.Tuple es x1 pos) (dTup a) := by
  intro σ H ρ S B0 B ow Q fr gi g
  refine WE.of (pe_tup wa) (ha σ H ρ S B0 B ow _ fr gi (g.bind fun ds S' vs H' _ ev gi' gd g' => ?_))
  unfold sz at g'
  by_cases hz : ds.length ≤ sizeLine
  · simp only [hz, decide_true, if_true] at g'
    refine ⟨by rw [gd.length]; exact hz, fun p hp => g'.ok (Ex.new hp).evo (gi'.ex (Ex.new hp)) (is_newT gi'.kn hp (by rw [gd.length]; exact hz) gd)⟩
  · simp [hz] at g'
    exact absurd rfl g'.not_bad
theorem eo_lst {es : List Expr} {a : DA} {pos} (ha : EA c m es a) : EO c m (.List es pos) (dLst a) := by
  intro σ H ρ S B0 B ow Q fr gi g
  refine WE.of (pe_lst wa) (ha σ H ρ S B0 B ow _ fr gi (g.bind (G1 := fun _ H' v d => IsAll c.X.K (Fz B H') v d) fun ds S' vs H' _ ev gi' gd g' => ?_))
  unfold sz at g'
  by_cases hz : ds.length ≤ sizeLine
  · simp only [hz, decide_true, if_true] at g'
    refine ⟨by rw [gd.length]; exact hz, fun p hp => g'.ok (Ex.new hp).evo (gi'.ex (Ex.new hp)) ⟨p, rfl, ?_, top_newL hp (by rw [gd.length]; exact hz) gd, gi'.fresh (Ex.new hp) hp (by rw [upd_same]; intro z; cases z)⟩⟩
    cases q : H p with
    | none => rfl
    | some o =>
      exfalso
      by_cases hG : p ∈ c.g.G
      · exact gi'.kn p (gi'.sub p hG) hp
      · rw [ev p o hG q] at hp; cases hp
  · simp [hz] at g'
    exact absurd rfl g'.not_bad
end
/-- what was free is free ahead -/
theorem free_back {K : PySem.W.Frag} {g : Gx} {B : List Addr} {H H' : Hp} {S : Store} {p : Addr} (ev : Evo g.G H H') (gi : GI K g B H' S) (hp : H' p = none) : H p = none := by
  cases q : H p with
  | none => rfl
  | some o =>
    exfalso
    by_cases hG : p ∈ g.G
    · exact gi.kn p (gi.sub p hG) hp
    · rw [ev p o hG q] at hp; cases hp
/-! ### operators by values -/
/-- what an operator is worth on data: a value that is there, or one that is laid anew -/
def OpD (K : PySem.W.Frag) (g : Gx) (r : R2) (F : PyData → PyData → Option PyData) : Prop := ∀ (B : List Addr) (H : Hp) (x y : V) (dx dy d : PyData) (Q : VK), (∀ a ∈ B, H a ≠ none) → (∀ a ∈ g.G, a ∈ B) →
  Rb K g B H x dx → Rb K g B H y dy → F dx dy = some d → (∀ v H', Ex H H' → Is K (Fz B H') v d → Q v H') → r x y H Q
/-- .. always a new list -/
def OpO (K : PySem.W.Frag) (g : Gx) (r : R2) (F : PyData → PyData → Option PyData) : Prop := ∀ (B : List Addr) (H : Hp) (x y : V) (dx dy d : PyData) (Q : VK), (∀ a ∈ B, H a ≠ none) → (∀ a ∈ g.G, a ∈ B) →
  Rb K g B H x dx → Rb K g B H y dy → F dx dy = some d → (∀ p H', Ex H H' → H p = none → Top K (p :: B) H' p d → Q (.ref p) H') → r x y H Q
def d2 (F : PyData → PyData → Option PyData) (a b : DE) : DE := fun ρ S => (a ρ S).bind fun x S1 => (b ρ S1).bind fun y S2 => ofO (F x y) S2
section
variable {c : Cc} {m : List Md} {a b : Expr} {da db : DE} {r r1 r2 : R2} {F : PyData → PyData → Option PyData} {pos : Pos}
theorem OpR.or {f : Value → Value → Sem Value} (h1 : OpR c.X f r1) (h2 : OpR c.X f r2) : OpR c.X f (fun x y H Q => r1 x y H Q ∨ r2 x y H Q) := fun pins s σ H x y v u Q I rx ry h => by
  rcases h with h | h
  · exact h1 pins s σ H x y v u Q I rx ry h
  · exact h2 pins s σ H x y v u Q I rx ry h
theorem two_read (hd : OpD c.X.K c.g r F) (ha : EB c m a da) (hb : EB c m b db) {σ : L2.St} {H : Hp} {ρ : Env} {S : Store} {B0 B : List Addr} {ow : Addr → Nat} {Q : VK} (fr : Frame c.X.K c.g B0 B ow m ρ σ H) (gi : GI c.X.K c.g B H S)
    (g : Goal c B H σ (d2 F da db ρ S) (fun _ H' v d => Is c.X.K (Fz B H') v d) Q) : tOp r (WE c.X a) (WE c.X b) σ H Q := by
  refine ha σ H ρ S B0 B ow _ fr gi (g.bind fun d S' v H' _ ev gi' gd g' => ?_)
  refine hb σ H' ρ S' B0 B ow _ (fr.evo ev) gi' (g'.bind fun e S2 w H2 _ ev2 gi2 gd2 g2 => ?_)
  cases q : F d e with
  | none => rw [q] at g2; exact absurd rfl g2.not_bad
  | some z =>
    rw [q] at g2
    exact hd B H2 v w d e z Q gi2.kn gi2.sub (Rb.evo gd gi'.sub ev2) gd2 q fun u H3 x3 i3 => g2.ok x3.evo (gi2.ex x3) i3
theorem ev_op {op : Operator} (ho : OpR c.X (binaryOp op) r) (hd : OpD c.X.K c.g r F) (ha : EB c m a da) (hb : EB c m b db) : EV c m (.BinOp a op b pos) (d2 F da db) := fun σ H ρ S B0 B ow Q fr gi g =>
  WE.of (pe_op ho we we) (two_read hd ha hb fr gi g)
theorem ev_cmp {op : CmpOp} (ho : OpR c.X (compareOp op) r) (hd : OpD c.X.K c.g r F) (ha : EB c m a da) (hb : EB c m b db) (hm : behindInMarks op b = false) : EV c m (.Compare a [op] [b] pos) (d2 F da db) := fun σ H ρ S B0 B ow Q fr gi g =>
  WE.of (pe_cmpR ho we we hm) (two_read hd ha hb fr gi g)
theorem eo_op {op : Operator} (ho : OpR c.X (binaryOp op) r) (hd : OpO c.X.K c.g r F) (ha : EB c m a da) (hb : EB c m b db) : EO c m (.BinOp a op b pos) (d2 F da db) := by
  intro σ H ρ S B0 B ow Q fr gi g
  refine WE.of (pe_op ho we we) ?_
  refine ha σ H ρ S B0 B ow _ fr gi (g.bind fun d S' v H' _ ev gi' gd g' => ?_)
  refine hb σ H' ρ S' B0 B ow _ (fr.evo ev) gi' (g'.bind (G1 := fun _ H' v d => Is c.X.K (Fz B H') v d ∨ ∃ p, v = .ref p ∧ p ∉ c.g.G ∧ Top c.X.K B H' p d) fun e S2 w H2 _ ev2 gi2 gd2 g2 => ?_)
  cases q : F d e with
  | none => rw [q] at g2; exact absurd rfl g2.not_bad
  | some z =>
    rw [q] at g2
    refine hd B H2 v w d e z Q gi2.kn gi2.sub (Rb.evo gd gi'.sub ev2) gd2 q fun p H3 x3 hp i3 => g2.ok x3.evo (gi2.ex x3) ⟨p, rfl, ?_, i3, gi2.fresh x3 hp i3.some⟩
    exact free_back ev gi' (free_back ev2 gi2 hp)
end
/-! ### whole numbers -/
def fI (C : Int → Int → Bool) (f : Int → Int → Int) : PyData → PyData → Option PyData
  | .int i, .int j => if C i j then some (.int (f i j)) else none
  | _, _ => none
theorem opd_I {K : PySem.W.Frag} {g : Gx} {P : Int → Int → Prop} {C : Int → Int → Bool} {f : Int → Int → Int} (h : ∀ i j, C i j = true → P i j) : OpD K g (rI P fun i j => .int (f i j)) (fI C f) := by
  intro B H x y dx dy d Q _ _ hx hy e k
  unfold fI at e
  split at e
  · rename_i i j
    split at e
    · rename_i hc
      cases e
      obtain rfl := hx.int
      obtain rfl := hy.int
      exact ⟨i, j, rfl, rfl, h i j hc, k _ _ (Ex.refl _) (.int _)⟩
    · cases e
  · cases e
theorem opd_I0 {K : PySem.W.Frag} {g : Gx} {f : Int → Int → Int} : OpD K g (rI0 fun i j => .int (f i j)) (fI (fun _ _ => true) f) := by
  intro B H x y dx dy d Q _ _ hx hy e k
  unfold fI at e
  split at e
  · rename_i i j
    cases e
    obtain rfl := hx.int
    obtain rfl := hy.int
    exact ⟨i, j, rfl, rfl, k _ _ (Ex.refl _) (.int _)⟩
  · cases e
/-- a comparison of two whole numbers -/
def fB (f : Int → Int → Bool) : PyData → PyData → Option PyData
  | .int i, .int j => some (.bool (f i j))
  | _, _ => none
theorem opd_B {K : PySem.W.Frag} {g : Gx} {f : Int → Int → Bool} : OpD K g (rI0 fun i j => .bl (f i j)) (fB f) := by
  intro B H x y dx dy d Q _ _ hx hy e k
  unfold fB at e
  split at e
  · rename_i i j
    cases e
    obtain rfl := hx.int
    obtain rfl := hy.int
    exact ⟨i, j, rfl, rfl, k _ _ (Ex.refl _) (.bl _)⟩
  · cases e
/-- either of two -/
theorem OpD.or {K : PySem.W.Frag} {g : Gx} {r1 r2 : R2} {F1 F2 F : PyData → PyData → Option PyData} (h1 : OpD K g r1 F1) (h2 : OpD K g r2 F2) (h : ∀ x y d, F x y = some d → F1 x y = some d ∨ F2 x y = some d) : OpD K g (fun x y H Q => r1 x y H Q ∨ r2 x y H Q) F := fun B H x y dx dy d Q a b hx hy e k => by
  rcases h dx dy d e with e | e
  · exact .inl (h1 B H x y dx dy d Q a b hx hy e k)
  · exact .inr (h2 B H x y dx dy d Q a b hx hy e k)
/-- and if the first gives nothing the second -/
def orF (F1 F2 : PyData → PyData → Option PyData) : PyData → PyData → Option PyData := fun x y => match F1 x y with | some d => some d | none => F2 x y
theorem orF_or {F1 F2 : PyData → PyData → Option PyData} (x y d : PyData) (h : orF F1 F2 x y = some d) : F1 x y = some d ∨ F2 x y = some d := by
  unfold orF at h
  cases e : F1 x y with
  | some z => rw [e] at h; exact .inl h
  | none => rw [e] at h; exact .inr h
/-! ### +, -, *, //, %, ** -/
def fAddS : PyData → PyData → Option PyData
  | .str a, .str b => if sz (a.length + b.length) then some (.str (a ++ b)) else none
  | _, _ => none
def fAddT : PyData → PyData → Option PyData
  | .tuple a, .tuple b => if sz (a.length + b.length) then some (.tuple (a ++ b)) else none
  | _, _ => none
def fAddL : PyData → PyData → Option PyData
  | .list a, .list b => if sz (a.length + b.length) then some (.list (a ++ b)) else none
  | _, _ => none
def fAdd : PyData → PyData → Option PyData
  | .int i, .int j => some (.int (i + j))
  | .str a, .str b => if sz (a.length + b.length) then some (.str (a ++ b)) else none
  | .tuple a, .tuple b => if sz (a.length + b.length) then some (.tuple (a ++ b)) else none
  | .list a, .list b => if sz (a.length + b.length) then some (.list (a ++ b)) else none
  | _, _ => none
theorem sz_le {n : Nat} (h : sz n = true) : n ≤ sizeLine := of_decide_eq_true h
theorem opd_addS {K : PySem.W.Frag} {g : Gx} : OpD K g (fun x y H Q => ∃ i j, x = .str i ∧ y = .str j ∧ i.length + j.length ≤ sizeLine ∧ Q (.str (i ++ j)) H) fAddS := by
  intro B H x y dx dy d Q _ _ hx hy e k
  unfold fAddS at e
  split at e
  · rename_i a b
    split at e
    · rename_i hz
      cases e
      obtain rfl := hx.str
      obtain rfl := hy.str
      exact ⟨a, b, rfl, rfl, sz_le hz, k _ _ (Ex.refl _) (.str _)⟩
    · cases e
  · cases e
theorem opd_addT {K : PySem.W.Frag} {g : Gx} : OpD K g (rCatA K) fAddT := by
  intro B H x y dx dy d Q hn hg hx hy e k
  unfold fAddT at e
  split at e
  · rename_i a b
    split at e
    · rename_i hz
      cases e
      obtain ⟨p, vs, rfl, h1, s1, z1⟩ := hx.tup hg
      obtain ⟨q, ws, rfl, h2, s2, z2⟩ := hy.tup hg
      refine ⟨p, q, vs, ws, rfl, rfl, s1 H (Evo.refl _ _), s2 H (Evo.refl _ _), by rw [h1.length, h2.length]; exact sz_le hz, fun e => ?_, fun _ e => ?_, fun _ _ r hr => ?_⟩
      · subst e
        cases h1
        rcases hy with hy | ⟨r, _, _, ⟨_, _, z, _⟩ | ⟨_, _, z, _⟩ | ⟨_, _, z, _⟩⟩
        · exact k _ _ (Ex.refl _) hy
        all_goals cases z
      · subst e
        cases h2
        rcases hx with hx | ⟨r, _, _, ⟨_, _, z, _⟩ | ⟨_, _, z, _⟩ | ⟨_, _, z, _⟩⟩
        · exact k _ _ (Ex.refl _) (by rw [List.append_nil]; exact hx)
        all_goals cases z
      · exact k _ _ (Ex.new hr) (is_newT hn hr (by rw [List.length_append, h1.length, h2.length]; exact sz_le hz) (h1.append h2))
    · cases e
  · cases e
theorem opo_addL {K : PySem.W.Frag} {g : Gx} : OpO K g rCat fAddL := by
  intro B H x y dx dy d Q hn hg hx hy e k
  unfold fAddL at e
  split at e
  · rename_i a b
    split at e
    · rename_i hz
      cases e
      obtain ⟨p, vs, rfl, h1, s1, z1⟩ := hx.lst hg
      obtain ⟨q, ws, rfl, h2, s2, z2⟩ := hy.lst hg
      exact ⟨p, q, vs, ws, rfl, rfl, s1 H (Evo.refl _ _), s2 H (Evo.refl _ _), by rw [h1.length, h2.length]; exact sz_le hz, fun r hr => k _ _ (Ex.new hr) hr (top_newL hr (by rw [List.length_append, h1.length, h2.length]; exact sz_le hz) (h1.append h2))⟩
    · cases e
  · cases e
theorem OpO.d {K : PySem.W.Frag} {g : Gx} {r : R2} {F : PyData → PyData → Option PyData} (h : OpO K g r F) : OpD K g r F := fun B H x y dx dy d Q hn hg hx hy e k =>
  h B H x y dx dy d Q hn hg hx hy e fun p H' ex hp t => by
    have np : p ∉ B := new_notin hn hp
    exact k _ _ ex (t.is (fz_anti fun a ha => List.mem_cons_of_mem _ ha) fun o q => fz_some.mpr ⟨np, q⟩)
theorem fAdd_or (x y d : PyData) (h : fAdd x y = some d) : fI (fun _ _ => true) (fun i j => i + j) x y = some d ∨ orF fAddS (orF fAddT fAddL) x y = some d := by
  unfold fAdd at h
  split at h
  · exact .inl (by simpa [fI] using h)
  · right; simp only [orF, fAddS]; split at h <;> simp_all
  · right; simp only [orF, fAddS, fAddT]; split at h <;> simp_all
  · right; simp only [orF, fAddS, fAddT, fAddL]; split at h <;> simp_all
  · cases h
section
variable {c : Cc} {m : List Md} {a b : Expr} {da db : DE} {pos : Pos}
theorem ev_add (ha : EB c m a da) (hb : EB c m b db) : EV c m (.BinOp a .Add b pos) (d2 fAdd da db) :=
  ev_op (OpR.or op_add (OpR.or op_add_str (OpR.or op_catA op_cat))) (OpD.or opd_I0 (OpD.or opd_addS (OpD.or opd_addT opo_addL.d orF_or) orF_or) fAdd_or) ha hb
theorem eo_add (ha : EB c m a da) (hb : EB c m b db) : EO c m (.BinOp a .Add b pos) (d2 fAddL da db) := eo_op op_cat opo_addL ha hb
theorem ev_sub (ha : EB c m a da) (hb : EB c m b db) : EV c m (.BinOp a .Sub b pos) (d2 (fI (fun _ _ => true) fun i j => i - j) da db) := ev_op op_sub opd_I0 ha hb
end
end PD
/-! PDc: more operators, comparisons, subscripts, tests. -/
namespace PD
open PySem PySem.Spec PyProof.Rows L2
/-! ### *, //, %, **, shifts, masks -/
def cMul (i j : Int) : Bool := decide (-(2 ^ 64) < i ∧ i < 2 ^ 64) || decide (-(2 ^ 64) < j ∧ j < 2 ^ 64)
theorem cMul_ok (i j : Int) (h : cMul i j = true) : CMul i j := by
  unfold cMul at h
  simp only [Bool.or_eq_true, decide_eq_true_eq] at h
  exact h
def cPow (i j : Int) : Bool := decide (0 ≤ j ∧ j ≤ 1000000 ∧ i.natAbs < 2 ^ 64)
def cDiv (_ j : Int) : Bool := decide (0 < j ∧ j.natAbs.log2 < 9000)
theorem cDiv_ok (i j : Int) (h : cDiv i j = true) : CDivW i j := by
  exact of_decide_eq_true (p := 0 < j ∧ j.natAbs.log2 < 9000) h
theorem cPow_ok (i j : Int) (h : cPow i j = true) : CPow i j := by
  exact of_decide_eq_true (p := 0 ≤ j ∧ j ≤ 1000000 ∧ i.natAbs < 2 ^ 64) h
def cMod (_ j : Int) : Bool := decide (0 < j)
def cShr (_ j : Int) : Bool := decide (0 ≤ j)
/-- a tuple, a list, a text as often as told -/
def fRepT : PyData → PyData → Option PyData
  | .tuple a, .int k => if !a.isEmpty && decide (2 ≤ k ∧ k ≤ 1000 ∧ a.length ≤ 1000) then some (.tuple (List.replicate k.toNat a).flatten) else none
  | _, _ => none
def fRepL : PyData → PyData → Option PyData
  | .list a, .int k => if decide (-(2 ^ 63) ≤ k ∧ k < 2 ^ 63 ∧ a.length * k.toNat ≤ sizeLine) then some (.list (List.replicate k.toNat a).flatten) else none
  | _, _ => none
theorem IsAll.rep {K : PySem.W.Frag} {H : Hp} {vs : List V} {ds : List PyData} (h : IsAll K H vs ds) : ∀ n : Nat, IsAll K H (List.replicate n vs).flatten (List.replicate n ds).flatten
  | 0 => .nil
  | n + 1 => by
    rw [List.replicate_succ, List.replicate_succ, List.flatten_cons, List.flatten_cons]
    exact h.append (IsAll.rep h n)
theorem opd_repT {K : PySem.W.Frag} {g : Gx} : OpD K g (rRepT K) fRepT := by
  intro B H x y dx dy d Q hn hg hx hy e k
  unfold fRepT at e
  split at e
  · rename_i a j
    split at e
    · rename_i hc
      cases e
      rw [Bool.and_eq_true] at hc
      have hc2 := of_decide_eq_true hc.2
      obtain ⟨p, vs, rfl, h1, s1, z1⟩ := hx.tup hg
      obtain rfl := hy.int
      refine ⟨p, j, vs, rfl, rfl, s1 H (Evo.refl _ _), fun e => ?_, hc2.1, hc2.2.1, by rw [h1.length]; exact hc2.2.2, fun r hr => k _ _ (Ex.new hr) (is_newT hn hr (by rw [lm_len_rep_flat, h1.length, sizeLine_eq]; have a1 : j.toNat * a.length ≤ 1000 * 1000 := Nat.mul_le_mul (by omega) hc2.2.2; omega) (h1.rep _))⟩
      subst e
      cases h1
      exact absurd hc.1 (by decide)
    · cases e
  · cases e
theorem opo_repL {K : PySem.W.Frag} {g : Gx} : OpO K g rRep fRepL := by
  intro B H x y dx dy d Q hn hg hx hy e k
  unfold fRepL at e
  split at e
  · rename_i a j
    split at e
    · rename_i hc
      cases e
      have hc := of_decide_eq_true hc
      obtain ⟨p, vs, rfl, h1, s1, z1⟩ := hx.lst hg
      obtain rfl := hy.int
      exact ⟨p, j, vs, rfl, rfl, s1 H (Evo.refl _ _), hc.1, hc.2.1, by rw [h1.length]; exact hc.2.2, fun r hr => k _ _ (Ex.new hr) hr (top_newL hr (by rw [lm_len_rep_flat, h1.length, Nat.mul_comm]; exact hc.2.2) (h1.rep _))⟩
    · cases e
  · cases e
def fMul : PyData → PyData → Option PyData := orF (fI cMul fun i j => i * j) (orF fRepT fRepL)
section
variable {c : Cc} {m : List Md} {a b : Expr} {da db : DE} {pos : Pos}
theorem ev_mul (ha : EB c m a da) (hb : EB c m b db) : EV c m (.BinOp a .Mult b pos) (d2 fMul da db) :=
  ev_op (OpR.or op_mul (OpR.or op_repT op_rep)) (OpD.or (opd_I cMul_ok) (OpD.or opd_repT opo_repL.d orF_or) orF_or) ha hb
theorem eo_mul (ha : EB c m a da) (hb : EB c m b db) : EO c m (.BinOp a .Mult b pos) (d2 fRepL da db) := eo_op op_rep opo_repL ha hb
theorem ev_fdiv (ha : EB c m a da) (hb : EB c m b db) : EV c m (.BinOp a .FloorDiv b pos) (d2 (fI cDiv fun i j => i / j) da db) := ev_op op_fdivW (opd_I cDiv_ok) ha hb
theorem ev_mod (ha : EB c m a da) (hb : EB c m b db) : EV c m (.BinOp a .Mod b pos) (d2 (fI cMod fun i j => i % j) da db) := ev_op op_mod (opd_I fun i j h => of_decide_eq_true h) ha hb
theorem ev_pow (ha : EB c m a da) (hb : EB c m b db) : EV c m (.BinOp a .Pow b pos) (d2 (fI cPow fun i j => i ^ j.toNat) da db) := ev_op op_pow (opd_I cPow_ok) ha hb
theorem ev_shl (ha : EB c m a da) (hb : EB c m b db) : EV c m (.BinOp a .LShift b pos) (d2 (fI cPow fun i j => i * 2 ^ j.toNat) da db) := ev_op op_shl (opd_I cPow_ok) ha hb
theorem ev_shr (ha : EB c m a da) (hb : EB c m b db) : EV c m (.BinOp a .RShift b pos) (d2 (fI cShr fun i j => i / 2 ^ j.toNat) da db) := ev_op op_shr (opd_I fun i j h => of_decide_eq_true h) ha hb
theorem ev_and_ (ha : EB c m a da) (hb : EB c m b db) : EV c m (.BinOp a .BitAnd b pos) (d2 (fI (fun _ _ => true) Builtin.bitAnd) da db) := ev_op op_and opd_I0 ha hb
def d1 (F : PyData → Option PyData) (a : DE) : DE := fun ρ S => (a ρ S).bind fun x S1 => ofO (F x) S1
def fNeg : PyData → Option PyData | .int i => some (.int (-i)) | _ => none
theorem ev_neg (ha : EV c m a da) : EV c m (.UnaryOp .USub a pos) (d1 fNeg da) := by
  intro σ H ρ S B0 B ow Q fr gi g
  refine WE.of (pe_un un_neg we) (ha σ H ρ S B0 B ow _ fr gi (g.bind fun d S' v H' _ ev gi' gd g' => ?_))
  cases gd with
  | int i => exact ⟨i, rfl, g'.ok0 gi' (.int _)⟩
  | _ => exact absurd rfl g'.not_bad
/-! ### comparisons -/
def fEqD (x y : PyData) : Option PyData := if SeqAt.shaped x && SeqAt.shaped y then some (.bool (PyData.eqv x y)) else none
def fNeD (x y : PyData) : Option PyData := if SeqAt.shaped x && SeqAt.shaped y then some (.bool (!PyData.eqv x y)) else none
def fEqS : PyData → PyData → Option PyData | .str a, .str b => some (.bool (decide (a = b))) | _, _ => none
def fNeS : PyData → PyData → Option PyData | .str a, .str b => some (.bool (!decide (a = b))) | _, _ => none
def fEq : PyData → PyData → Option PyData := orF fEqS fEqD
def fNe : PyData → PyData → Option PyData := orF fNeS fNeD
variable {K : PySem.W.Frag} {gx : Gx}
theorem opd_eqD : OpD K gx (rEqD K) fEqD := by
  intro B H x y dx dy d Q hn hg hx hy e k
  unfold fEqD at e
  split at e
  · rename_i hc
    cases e
    have hc := Bool.and_eq_true_iff.mp hc
    exact ⟨dx, dy, hx.dp (SeqAt.canLay_of_shaped hc.1), hy.dp (SeqAt.canLay_of_shaped hc.2), hc.1, hc.2, k _ _ (Ex.refl _) (.bl _)⟩
  · cases e
theorem opd_neD : OpD K gx (rNeD K) fNeD := by
  intro B H x y dx dy d Q hn hg hx hy e k
  unfold fNeD at e
  split at e
  · rename_i hc
    cases e
    have hc := Bool.and_eq_true_iff.mp hc
    exact ⟨dx, dy, hx.dp (SeqAt.canLay_of_shaped hc.1), hy.dp (SeqAt.canLay_of_shaped hc.2), hc.1, hc.2, k _ _ (Ex.refl _) (.bl _)⟩
  · cases e
theorem vstr_inj {a b : Str} : (V.str a = V.str b) = (a = b) := propext ⟨fun h => V.str.inj h, fun h => by rw [h]⟩
theorem opd_eqS : OpD K gx rEq fEqS := by
  intro B H x y dx dy d Q hn hg hx hy e k
  unfold fEqS at e
  split at e
  · cases e
    obtain rfl := hx.str
    obtain rfl := hy.str
    exact ⟨rfl, by simp only [vstr_inj]; exact k _ _ (Ex.refl _) (.bl _)⟩
  · cases e
theorem opd_neS : OpD K gx rNe fNeS := by
  intro B H x y dx dy d Q hn hg hx hy e k
  unfold fNeS at e
  split at e
  · cases e
    obtain rfl := hx.str
    obtain rfl := hy.str
    exact ⟨rfl, by simp only [vstr_inj]; exact k _ _ (Ex.refl _) (.bl _)⟩
  · cases e
theorem ev_eq (hu : c.X.A.units + 64 < cLine) (ha : EB c m a da) (hb : EB c m b db) : EV c m (.Compare a [.Eq] [b] pos) (d2 fEq da db) :=
  ev_cmp (OpR.or op_eq (op_eqD hu)) (OpD.or opd_eqS opd_eqD orF_or) ha hb (nomark _)
theorem ev_ne (hu : c.X.A.units + 64 < cLine) (ha : EB c m a da) (hb : EB c m b db) : EV c m (.Compare a [.NotEq] [b] pos) (d2 fNe da db) :=
  ev_cmp (OpR.or op_ne (op_neD hu)) (OpD.or opd_neS opd_neD orF_or) ha hb (nomark _)
/-- the whole numbers of a tuple of them -/
def intsOf : List PyData → Option (List Int)
  | [] => some []
  | .int i :: r => (intsOf r).map (i :: ·)
  | _ :: _ => none
theorem intsOf_eq : ∀ {ds : List PyData} {ns : List Int}, intsOf ds = some ns → ds = ns.map .int
  | [], ns, h => by cases h; rfl
  | d :: r, ns, h => by
    cases d with
    | int i =>
      unfold intsOf at h
      cases e : intsOf r with
      | none => rw [e] at h; cases h
      | some ms => rw [e] at h; cases h; rw [intsOf_eq e]; rfl
    | _ => cases h
@[simp] theorem intsOf_ints : ∀ {ns : List Int}, intsOf (ns.map .int) = some ns
  | [] => rfl
  | n :: ns => by
    show (intsOf (ns.map .int)).map (n :: ·) = _
    rw [intsOf_ints]
    rfl
def fTT (f : List Int → List Int → Bool) : PyData → PyData → Option PyData
  | .tuple xs, .tuple ys => (intsOf xs).bind fun ns => (intsOf ys).bind fun ms => some (.bool (f ns ms))
  | _, _ => none
theorem opd_TT {r : R2} {f : List Int → List Int → Bool} (hr : ∀ x y H Q, r x y H Q = ∃ (a b : Addr) (ns ms : List Int), x = .ref a ∧ y = .ref b ∧ SqT K H a (ns.map V.int) ∧ SqT K H b (ms.map V.int) ∧ Q (.bl (f ns ms)) H) : OpD K gx r (fTT f) := by
  intro B H x y dx dy d Q hn hg hx hy e k
  rw [hr]
  unfold fTT at e
  split at e
  · rename_i xs ys
    cases e1 : intsOf xs with
    | none => rw [e1] at e; cases e
    | some ns =>
      cases e2 : intsOf ys with
      | none => rw [e1, e2] at e; cases e
      | some ms =>
        rw [e1, e2] at e
        cases e
        obtain rfl := intsOf_eq e1
        obtain rfl := intsOf_eq e2
        obtain ⟨p, vs, rfl, h1, s1, z1⟩ := hx.tup hg
        obtain ⟨q, ws, rfl, h2, s2, z2⟩ := hy.tup hg
        obtain rfl := h1.ints
        obtain rfl := h2.ints
        exact ⟨p, q, ns, ms, rfl, rfl, s1 H (Evo.refl _ _), s2 H (Evo.refl _ _), k _ _ (Ex.refl _) (.bl _)⟩
  · cases e
theorem lexLe_at (z : Bool) : ∀ (k i : Nat) (ns ms : List Int), min (ns.length - i) (ms.length - i) = k → i ≤ ns.length → i ≤ ms.length → z = decide (ns.length ≤ ms.length) →
    Ob.lexAt (fun j => decide (ns.getD j 0 = ms.getD j 0)) (fun j => decide (ns.getD j 0 ≤ ms.getD j 0)) z i k = lexLeI (ns.drop i) (ms.drop i)
  | 0, i, ns, ms, h, l1, l2, hz => by
    rw [Ob.lexAt_zero, hz]
    by_cases h1 : ns.length ≤ i
    · rw [List.drop_of_length_le h1]
      simp only [lexLeI]
      exact decide_eq_true (by omega)
    · have h2 : ms.length ≤ i := by omega
      rw [List.drop_of_length_le h2]
      cases e : ns.drop i with
      | nil => rw [List.drop_eq_nil_iff] at e; omega
      | cons x r => simp only [lexLeI]; exact decide_eq_false (by omega)
  | k + 1, i, ns, ms, h, l1, l2, hz => by
    have h1 : i < ns.length := by omega
    have h2 : i < ms.length := by omega
    rw [Ob.lexAt_succ, lexLe_at z k (i + 1) ns ms (by omega) (by omega) (by omega) hz, List.drop_eq_getElem_cons h1, List.drop_eq_getElem_cons h2]
    have e1 : ns.getD i 0 = ns[i] := by simp [List.getD, h1]
    have e2 : ms.getD i 0 = ms[i] := by simp [List.getD, h2]
    simp only [lexLeI, e1, e2, decide_eq_true_eq]
theorem lexLe_eq (ns ms : List Int) : Ob.lexAt (fun j => decide (ns.getD j 0 = ms.getD j 0)) (fun j => decide (ns.getD j 0 ≤ ms.getD j 0)) (decide (ns.length ≤ ms.length)) 0 (min ns.length ms.length) = lexLeI ns ms := by
  have h := lexLe_at (decide (ns.length ≤ ms.length)) (min ns.length ms.length) 0 ns ms (by simp) (Nat.zero_le _) (Nat.zero_le _) rfl
  simpa using h
def fLt : PyData → PyData → Option PyData := orF (fB fun i j => decide (i < j)) (fTT HT.lexLt)
def fLe : PyData → PyData → Option PyData := orF (fB fun i j => decide (i ≤ j)) (fTT lexLeI)
theorem ev_lt (hu : c.X.A.units < cLine) (ha : EB c m a da) (hb : EB c m b db) : EV c m (.Compare a [.Lt] [b] pos) (d2 fLt da db) :=
  ev_cmp (OpR.or op_lt (op_ltT hu)) (OpD.or opd_B (opd_TT fun _ _ _ _ => rfl) orF_or) ha hb (nomark _)
theorem ev_le (hu : c.X.A.units < cLine) (ha : EB c m a da) (hb : EB c m b db) : EV c m (.Compare a [.LtE] [b] pos) (d2 fLe da db) :=
  ev_cmp (OpR.or op_le (op_leT hu)) (OpD.or opd_B (opd_TT (f := lexLeI) fun x y H Q => by simp only [rLeT, lexLe_eq]) orF_or) ha hb (nomark _)
theorem ev_gt (ha : EB c m a da) (hb : EB c m b db) : EV c m (.Compare a [.Gt] [b] pos) (d2 (fB fun i j => decide (j < i)) da db) := ev_cmp op_gt opd_B ha hb (nomark _)
theorem ev_ge (ha : EB c m a da) (hb : EB c m b db) : EV c m (.Compare a [.GtE] [b] pos) (d2 (fB fun i j => decide (j ≤ i)) da db) := ev_cmp op_ge opd_B ha hb (nomark _)
/-- in, not in -/
def flatD : PyData → Bool | .none => true | .bool _ => true | .int _ => true | .str _ => true | _ => false
def inOk (x : PyData) (ds : List PyData) : Bool := (flatD x && ds.all flatD) || (SeqAt.shaped x && SeqAt.shaped (.list ds))
def inD (x : PyData) (ds : List PyData) : Bool := ds.any fun z => PyData.eqv z x
def fIn (neg : Bool) (x : PyData) : PyData → Option PyData
  | .str z => match x with
    | .str s => match s.cps.toList with
      | [c] => some (.bool (if neg then !decide (c ∈ z.cps.toList) else decide (c ∈ z.cps.toList)))
      | _ => none
    | _ => none
  | .list ds => if inOk x ds then some (.bool (if neg then !inD x ds else inD x ds)) else none
  | .tuple ds => if inOk x ds then some (.bool (if neg then !inD x ds else inD x ds)) else none
  | _ => none
theorem flat_v {H : Hp} {v : V} {d : PyData} (h : Is K H v d) (f : flatD d = true) : flatV v = true := by
  cases h <;> first | rfl | cases f
theorem flat_vs {H : Hp} : ∀ {vs : List V} {ds : List PyData}, IsAll K H vs ds → ds.all flatD = true → vs.all flatV = true
  | _, _, .nil, _ => rfl
  | _, _, .cons h r, f => by
    rw [List.all_cons, Bool.and_eq_true] at f
    rw [List.all_cons, flat_v h f.1, flat_vs r f.2]
    rfl
theorem eqv_flat {H : Hp} {v w : V} {d e : PyData} (h : Is K H v d) (h2 : Is K H w e) (f : flatD d = true) (f2 : flatD e = true) : eqV v w = PyData.eqv d e := by
  cases h <;> first | (cases f; done) | (cases h2 <;> first | (cases f2; done) | (simp only [eqV, PyData.eqv]))
theorem inV_flat {H : Hp} {x : V} {d : PyData} (hx : Is K H x d) (f : flatD d = true) : ∀ {vs : List V} {ds : List PyData}, IsAll K H vs ds → ds.all flatD = true → inV x vs = inD d ds
  | _, _, .nil, _ => rfl
  | _, _, .cons h r, g => by
    rw [List.all_cons, Bool.and_eq_true] at g
    have ih := inV_flat hx f r g.2
    unfold inV inD at ih ⊢
    rw [List.any_cons, List.any_cons, ih, eqv_flat h hx g.1 f]
/-- in, over data of any depth -/
def rInS (K : PySem.W.Frag) (neg : Bool) : R2 := fun x y H Q => ∃ d ds, Dp K H x d ∧ (Dp K H y (.list ds) ∨ Dp K H y (.tuple ds)) ∧ SeqAt.shaped d = true ∧ SeqAt.shaped (.list ds) = true ∧ Q (.bl (if neg then !(ds.any fun z => PyData.eqv z d) else ds.any fun z => PyData.eqv z d)) H
theorem op_inS (hu : c.X.A.units + 65 < cLine) : OpR c.X (compareOp .In) (rInS c.X.K false) := by
  intro pins s σ H x y v u Q I rx ry h
  obtain ⟨d, ds, hd, he, sd, se, q⟩ := h
  obtain ⟨as, r1⟩ := Dp.reads I d x v hd rx
  rcases he with he | he
  · obtain ⟨bs, r2⟩ := Dp.reads I (.list ds) y u he ry
    exact SeqAt.in_list_reads r2 r1 (SeqAt.canLay_of_shaped se) (SeqAt.canLay_of_shaped sd) (room_in_shaped sd hu) ⟨.bl _, H, I, rfl, q⟩
  · obtain ⟨bs, r2⟩ := Dp.reads I (.tuple ds) y u he ry
    exact SeqAt.in_tuple_reads r2 r1 (SeqAt.canLay_of_shaped se) (SeqAt.canLay_of_shaped sd) (room_in_shaped sd hu) ⟨.bl _, H, I, rfl, q⟩
theorem op_notInS (hu : c.X.A.units + 65 < cLine) : OpR c.X (compareOp .NotIn) (rInS c.X.K true) := by
  intro pins s σ H x y v u Q I rx ry h
  obtain ⟨d, ds, hd, he, sd, se, q⟩ := h
  obtain ⟨as, r1⟩ := Dp.reads I d x v hd rx
  rcases he with he | he
  · obtain ⟨bs, r2⟩ := Dp.reads I (.list ds) y u he ry
    exact SeqAt.notIn_list_reads r2 r1 (SeqAt.canLay_of_shaped se) (SeqAt.canLay_of_shaped sd) (room_in_shaped sd hu) ⟨.bl _, H, I, rfl, q⟩
  · obtain ⟨bs, r2⟩ := Dp.reads I (.tuple ds) y u he ry
    exact SeqAt.notIn_tuple_reads r2 r1 (SeqAt.canLay_of_shaped se) (SeqAt.canLay_of_shaped sd) (room_in_shaped sd hu) ⟨.bl _, H, I, rfl, q⟩
def rInSign (neg : Bool) : R2 := fun x y H Q => ∃ (c : Nat) (z : Str), x = .str ⟨#[c]⟩ ∧ y = .str z ∧ Q (.bl (if neg then !decide (c ∈ z.cps.toList) else decide (c ∈ z.cps.toList))) H
theorem Rb.flat {H : Hp} {B : List Addr} {v : V} {d : PyData} (h : Rb K gx B H v d) (f : flatD d = true) : Is K (Fz B H) v d := by
  rcases h with h | ⟨p, rfl, hp, ⟨ds, vs, rfl, _⟩ | ⟨ds, kvs, rfl, _⟩ | ⟨ds, kvs, rfl, _⟩⟩
  · exact h
  all_goals cases f
theorem opd_in (neg : Bool) : OpD K gx (fun x y H Q => rIn K neg x y H Q ∨ rInS K neg x y H Q ∨ rInSign neg x y H Q) (fIn neg) := by
  intro B H x y dx dy d Q hn hg hx hy e k
  have key : ∀ (a : Addr) (vs : List V) (ds : List PyData), y = .ref a → (SqL K H a vs ∨ SqT K H a vs) → (Dp K H y (.list ds) ∨ Dp K H y (.tuple ds) ∨ PyData.canLayAll0 ds = false) → IsAll K (Fz B H) vs ds → (if inOk dx ds then some (PyData.bool (if neg then !inD dx ds else inD dx ds)) else none) = some d →
      rIn K neg x y H Q ∨ rInS K neg x y H Q ∨ rInSign neg x y H Q := by
    intro a vs ds ey sq hdp h2 e
    subst ey
    split at e
    · rename_i hc
      cases e
      unfold inOk at hc
      rw [Bool.or_eq_true, Bool.and_eq_true, Bool.and_eq_true] at hc
      rcases hc with ⟨f1, f2⟩ | ⟨f1, f2⟩
      · have hx' := hx.flat f1
        exact .inl ⟨a, vs, rfl, sq, flat_v hx' f1, flat_vs h2 f2, by rw [inV_flat hx' f1 h2 f2]; exact k _ _ (Ex.refl _) (.bl _)⟩
      · have f3 := SeqAt.canLay_of_shaped f2
        refine .inr (.inl ⟨dx, ds, hx.dp (SeqAt.canLay_of_shaped f1), ?_, f1, f2, k _ _ (Ex.refl _) (.bl _)⟩)
        rcases hdp with h | h | h
        · exact .inl h
        · exact .inr h
        · rw [PyData.canLay0] at f3; rw [f3] at h; cases h
    · cases e
  cases dy with
  | str z =>
    cases dx with
    | str s =>
      simp only [fIn] at e
      split at e
      · rename_i cc hc
        cases e
        obtain rfl := hx.str
        obtain rfl := hy.str
        refine .inr (.inr ⟨cc, z, ?_, rfl, k _ _ (Ex.refl _) (.bl _)⟩)
        have : s = ⟨#[cc]⟩ := by
          cases s with
          | mk arr =>
            have : arr = #[cc] := by
              apply Array.ext'
              simpa using hc
            rw [this]
        rw [this]
      · cases e
    | _ => simp [fIn] at e
  | list ds =>
    obtain ⟨a, vs, ey, h2, s2, z2⟩ := hy.lst hg
    refine key a vs ds ey (.inl (.inl (.inl (s2 H (Evo.refl _ _))))) ?_ h2 e
    cases q : PyData.canLayAll0 ds with
    | false => exact .inr (.inr rfl)
    | true => exact .inl (hy.dp (by rw [PyData.canLay0]; exact q))
  | tuple ds =>
    obtain ⟨a, vs, ey, h2, s2, z2⟩ := hy.tup hg
    refine key a vs ds ey (.inr (s2 H (Evo.refl _ _))) ?_ h2 e
    cases q : PyData.canLayAll0 ds with
    | false => exact .inr (.inr rfl)
    | true => exact .inr (.inl (hy.dp (by rw [PyData.canLay0]; exact q)))
  | _ => simp [fIn] at e
theorem ev_in (hu : c.X.A.units + 65 < cLine) (ha : EB c m a da) (hb : EB c m b db) (hm : behindInMarks .In b = false) : EV c m (.Compare a [.In] [b] pos) (d2 (fIn false) da db) :=
  ev_cmp (OpR.or op_in_seq (OpR.or (op_inS hu) op_in_sign)) (opd_in false) ha hb hm
theorem ev_notIn (hu : c.X.A.units + 65 < cLine) (ha : EB c m a da) (hb : EB c m b db) (hm : behindInMarks .NotIn b = false) : EV c m (.Compare a [.NotIn] [b] pos) (d2 (fIn true) da db) :=
  ev_cmp (OpR.or op_notIn_seq (OpR.or (op_notInS hu) op_notIn_sign)) (opd_in true) ha hb hm
/-- is None, is True .. -/
def fIsN (neg : Bool) : PyData → PyData → Option PyData
  | x, .none => some (.bool (if neg then !isNone x else isNone x))
  | .bool p, .bool q => some (.bool (if neg then !decide (p = q) else decide (p = q)))
  | _, _ => none
theorem opd_is (neg : Bool) : OpD K gx (fun x y H Q => (y = .non ∧ Q (.bl (if neg then !decide (x = .non) else decide (x = .non))) H) ∨ (∃ a b : Bool, x = .bl a ∧ y = .bl b ∧ Q (.bl (if neg then !decide (a = b) else decide (a = b))) H)) (fIsN neg) := by
  intro B H x y dx dy d Q hn hg hx hy e k
  unfold fIsN at e
  split at e
  · cases e
    obtain rfl := hy.non
    refine .inl ⟨rfl, ?_⟩
    have q := hx.non_iff
    rw [q]
    exact k _ _ (Ex.refl _) (.bl _)
  · cases e
    obtain rfl := hx.bool
    obtain rfl := hy.bool
    exact .inr ⟨_, _, rfl, rfl, k _ _ (Ex.refl _) (.bl _)⟩
  · cases e
theorem ev_is (ha : EB c m a da) (hb : EB c m b db) : EV c m (.Compare a [.Is] [b] pos) (d2 (fIsN false) da db) := ev_cmp (OpR.or op_isN op_isBl) (opd_is false) ha hb (nomark _)
theorem ev_isNot (ha : EB c m a da) (hb : EB c m b db) : EV c m (.Compare a [.IsNot] [b] pos) (d2 (fIsN true) da db) := ev_cmp (OpR.or op_notN op_notBl) (opd_is true) ha hb (nomark _)
end
end PD
/-! PDe: subscripts, tests, choices, calls of built-ins and of defs. -/
namespace PD
open PySem PySem.Spec PyProof.Rows L2
/-! ### subscripts -/
theorem IsAll.atI {K : PySem.W.Frag} {H : Hp} {vs : List V} {ds : List PyData} {i : Int} {d : PyData} (h : IsAll K H vs ds) (e : L2.atI ds i = some d) : ∃ v, L2.atI vs i = some v ∧ Is K H v d := by
  unfold L2.atI at e ⊢
  rw [h.length]
  cases q : ixN ds.length i with
  | none => rw [q] at e; cases e
  | some j =>
    rw [q] at e
    exact h.get e
def fIx : PyData → PyData → Option PyData
  | .list xs, .int i => L2.atI xs i
  | .tuple xs, .int i => L2.atI xs i
  | .str z, .int i => if sz z.length then (L2.atI z.cps.toList i).map fun c => .str ⟨#[c]⟩ else none
  | _, _ => none
theorem opd_ix {K : PySem.W.Frag} {g : Gx} : OpD K g (rIx K) fIx := by
  intro B H x y dx dy d Q hn hg hx hy e k
  unfold fIx at e
  split at e
  · obtain ⟨p, vs, rfl, h1, s1, z1⟩ := hx.lst hg
    obtain rfl := hy.int
    obtain ⟨v, e2, i2⟩ := h1.atI e
    exact .inl ⟨p, vs, _, v, rfl, rfl, .inl (.inl (s1 H (Evo.refl _ _))), e2, k _ _ (Ex.refl _) i2⟩
  · obtain ⟨p, vs, rfl, h1, s1, z1⟩ := hx.tup hg
    obtain rfl := hy.int
    obtain ⟨v, e2, i2⟩ := h1.atI e
    exact .inr (.inl ⟨p, vs, _, v, rfl, rfl, s1 H (Evo.refl _ _), e2, k _ _ (Ex.refl _) i2⟩)
  · split at e
    · rename_i z i hz
      obtain rfl := hx.str
      obtain rfl := hy.int
      cases q : L2.atI z.cps.toList i with
      | none => rw [q] at e; cases e
      | some cc =>
        rw [q] at e
        cases e
        exact .inr (.inr ⟨z, i, cc, rfl, rfl, sz_le hz, q, k _ _ (Ex.refl _) (.str _)⟩)
    · cases e
  · cases e
section
variable {c : Cc} {m : List Md} {a b : Expr} {da db : DE} {pos : Pos}
theorem ev_ix (ha : EB c m a da) (hb : EB c m b db) (hs : PlainIx b) : EV c m (.Subscript a b pos) (d2 fIx da db) := fun σ H ρ S B0 B ow Q fr gi g =>
  WE.of (pe_ix ix_seq we we hs) (two_read opd_ix ha hb fr gi g)
end
/-! a slice's parts -/
structure WO (X : Cx) (e : Option Expr) (σ : L2.St) (H : Hp) (Q : Option Int → Hp → Prop) : Prop where
  go : ∀ (pins : List (Addr × Obj)) (s : Shared), Inv X pins σ H s → wpAny (model X.prog X.w) X.A (evalPart e X.env) (fun u s' => ∃ o H', Inv X pins σ H' s' ∧ IsPart u o ∧ Q o H') X.xe s
theorem wo {X : Cx} {e : Option Expr} : PO X e (WO X e) := ⟨fun pins s _ _ _ I h => h.go pins s I⟩
theorem WO.of {X : Cx} {e : Option Expr} {t : TO} (h : PO X e t) {σ : L2.St} {H : Hp} {Q : Option Int → Hp → Prop} (q : t σ H Q) : WO X e σ H Q := ⟨fun pins s I => h.run pins s σ H Q I q⟩
abbrev DP := Env → Store → R (Option Int)
def pNo : DP := fun _ S => .ok none S
def pSm (d : DE) : DP := fun ρ S => (d ρ S).bind fun x S1 => match x with | .int i => .ok (some i) S1 | _ => .bad
def EP_ (c : Cc) (m : List Md) (e : Option Expr) (den : DP) : Prop := ∀ σ H ρ S B0 B ow Q, Frame c.X.K c.g B0 B ow m ρ σ H → GI c.X.K c.g B H S →
  Goal c B H σ (den ρ S) (fun _ H' v d => v = d) Q → WO c.X e σ H Q
section
variable {c : Cc} {m : List Md} {a b : Expr} {da db : DE} {pos p2 : Pos} {lo hi : Option Expr} {dl dh : DP}
theorem ep_no : EP_ c m none pNo := fun σ H ρ S B0 B ow Q fr gi g => WO.of po_none (g.ok0 gi rfl)
theorem ep_sm (ha : EV c m a da) : EP_ c m (some a) (pSm da) := by
  intro σ H ρ S B0 B ow Q fr gi g
  refine WO.of (po_some we) (ha σ H ρ S B0 B ow _ fr gi (g.bind fun d S' v H' _ ev gi' gd g' => ?_))
  cases gd with
  | int i => exact ⟨i, rfl, g'.ok0 gi' rfl⟩
  | _ => exact absurd rfl g'.not_bad
def cutA {α : Type} (xs : List α) (lo hi : Option Int) : List α := (xs.drop (HT.sIx xs.length 0 lo)).take (HT.sIx xs.length xs.length hi - HT.sIx xs.length 0 lo)
theorem IsAll.cut {K : PySem.W.Frag} {H : Hp} {vs : List V} {ds : List PyData} (h : IsAll K H vs ds) (lo hi : Option Int) : IsAll K H (cutV vs lo hi) (cutA ds lo hi) := by
  unfold cutV cutA
  rw [h.length]
  exact (h.drop _).take _
def fSl (x : PyData) (lo hi : Option Int) : Option PyData := match x with
  | .list xs => some (.list (cutA xs lo hi))
  | .tuple xs => some (.tuple (cutA xs lo hi))
  | .str z => if sz z.length then some (.str (cutS z lo hi)) else none
  | _ => none
def fSlL (x : PyData) (lo hi : Option Int) : Option PyData := match x with
  | .list xs => some (.list (cutA xs lo hi))
  | _ => none
def dSl (F : PyData → Option Int → Option Int → Option PyData) (da : DE) (dl dh : DP) : DE := fun ρ S => (da ρ S).bind fun x S1 => (dl ρ S1).bind fun l S2 => (dh ρ S2).bind fun h S3 => ofO (F x l h) S3
theorem cutA_whole {α : Type} {xs : List α} {lo hi : Option Int} (h : HT.sIx xs.length 0 lo = 0 ∧ HT.sIx xs.length xs.length hi = xs.length) : cutA xs lo hi = xs := by
  unfold cutA
  rw [h.1, h.2]
  simp
theorem ev_sl (ha : EB c m a da) (hl : EP_ c m lo dl) (hh : EP_ c m hi dh) : EV c m (.Subscript a (.Slice lo hi none p2) pos) (dSl fSl da dl dh) := by
  intro σ H ρ S B0 B ow Q fr gi g
  refine WE.of (pe_slice (SlR.or sl_list (SlR.or sl_tupA sl_str)) we wo wo) ?_
  refine ha σ H ρ S B0 B ow _ fr gi (g.bind fun d S1 v H1 _ ev1 gi1 gd1 g1 => ?_)
  refine hl σ H1 ρ S1 B0 B ow _ (fr.evo ev1) gi1 (g1.bind fun l S2 l' H2 _ ev2 gi2 gd2 g2 => ?_)
  cases gd2
  refine hh σ H2 ρ S2 B0 B ow _ ((fr.evo ev1).evo ev2) gi2 (g2.bind fun h S3 h' H3 _ ev3 gi3 gd3 g3 => ?_)
  cases gd3
  have hx : Rb c.X.K c.g B H3 v d := Rb.evo (Rb.evo gd1 gi1.sub ev2) gi2.sub ev3
  unfold fSl at g3
  split at g3
  · rename_i xs
    obtain ⟨p, vs, rfl, h1, s1, z1⟩ := hx.lst gi3.sub
    exact .inl ⟨p, vs, rfl, .inl (.inl (s1 H3 (Evo.refl _ _))), fun q hq => g3.ok (Ex.new hq).evo (gi3.ex (Ex.new hq)) (is_newL gi3.kn hq (Nat.le_trans (cutV_length _ _ _) z1) (h1.cut l h))⟩
  · rename_i xs
    obtain ⟨p, vs, e, h1, s1, z1⟩ := hx.tup gi3.sub
    subst e
    refine .inr (.inl ⟨p, vs, rfl, s1 H3 (Evo.refl _ _), fun hw => ?_, fun hw q hq => g3.ok (Ex.new hq).evo (gi3.ex (Ex.new hq)) (is_newT gi3.kn hq (Nat.le_trans (cutV_length _ _ _) z1) (h1.cut l h))⟩)
    rw [h1.length] at hw
    rw [cutA_whole hw] at g3
    rcases hx with hx | ⟨r, _, _, ⟨_, _, z, _⟩ | ⟨_, _, z, _⟩ | ⟨_, _, z, _⟩⟩
    · exact g3.ok0 gi3 hx
    all_goals cases z
  · split at g3
    · rename_i hz
      obtain rfl := hx.str
      exact .inr (.inr ⟨_, rfl, sz_le hz, g3.ok0 gi3 (.str _)⟩)
    · exact absurd rfl g3.not_bad
  · exact absurd rfl g3.not_bad
theorem eo_slL (ha : EB c m a da) (hl : EP_ c m lo dl) (hh : EP_ c m hi dh) : EO c m (.Subscript a (.Slice lo hi none p2) pos) (dSl fSlL da dl dh) := by
  intro σ H ρ S B0 B ow Q fr gi g
  refine WE.of (pe_slice sl_list we wo wo) ?_
  refine ha σ H ρ S B0 B ow _ fr gi (g.bind fun d S1 v H1 _ ev1 gi1 gd1 g1 => ?_)
  refine hl σ H1 ρ S1 B0 B ow _ (fr.evo ev1) gi1 (g1.bind fun l S2 l' H2 _ ev2 gi2 gd2 g2 => ?_)
  cases gd2
  refine hh σ H2 ρ S2 B0 B ow _ ((fr.evo ev1).evo ev2) gi2 (g2.bind fun h S3 h' H3 _ ev3 gi3 gd3 g3 => ?_)
  cases gd3
  have hx : Rb c.X.K c.g B H3 v d := Rb.evo (Rb.evo gd1 gi1.sub ev2) gi2.sub ev3
  unfold fSlL at g3
  split at g3
  · rename_i xs
    obtain ⟨p, vs, rfl, h1, s1, z1⟩ := hx.lst gi3.sub
    exact ⟨p, vs, rfl, .inl (.inl (s1 H3 (Evo.refl _ _))), fun q hq => g3.ok (Ex.new hq).evo (gi3.ex (Ex.new hq)) ⟨q, rfl, free_back ev1 gi1 (free_back ev2 gi2 (free_back ev3 gi3 hq)), top_newL hq (Nat.le_trans (cutV_length _ _ _) z1) (h1.cut l h), gi3.fresh (Ex.new hq) hq (by rw [upd_same]; intro z; cases z)⟩⟩
  · exact absurd rfl g3.not_bad
/-- xs[::-1] -/
def fRev : PyData → Option PyData | .list xs => some (.list xs.reverse) | _ => none
theorem eo_revL {k : Nat} {p1 p2 p3 pos : Pos} (ha : EB c m a da) : EO c m (.Subscript a (.Slice none none (some (.UnaryOp .USub (.Constant (.int 1) k p1) p2)) p3) pos) (d1 fRev da) := by
  intro σ H ρ S B0 B ow Q fr gi g
  refine WE.of (pe_revL we) (ha σ H ρ S B0 B ow _ fr gi (g.bind fun d S1 v H1 _ ev1 gi1 gd1 g1 => ?_))
  unfold fRev at g1
  split at g1
  · obtain ⟨p, vs, rfl, h1, s1, z1⟩ := Rb.lst gd1 gi1.sub
    exact ⟨p, vs, rfl, .inl (.inl (s1 H1 (Evo.refl _ _))), fun q hq => g1.ok (Ex.new hq).evo (gi1.ex (Ex.new hq)) ⟨q, rfl, free_back ev1 gi1 hq, top_newL hq (by rw [List.length_reverse]; exact z1) h1.reverse, gi1.fresh (Ex.new hq) hq (by rw [upd_same]; intro z; cases z)⟩⟩
  · exact absurd rfl g1.not_bad
/-! ### chains, tests -/
def dTest (d : DE) : DT := fun ρ S => (d ρ S).bind fun x S1 => match x with | .bool b => .ok b S1 | _ => .bad
theorem et_val {e : Expr} {den : DE} (h : EV c m e den) (he : ∀ whole, isTrue e c.X.env whole = (do let v ← whole; standAt e.pos; holding [v] (truthy v)) := by intro _; rfl) : ET c m e (dTest den) := by
  intro σ H ρ S B0 B ow Q fr gi g
  refine WT.of (pt_val we he) (h σ H ρ S B0 B ow _ fr gi (g.bind fun d S1 v H1 _ ev1 gi1 gd1 g1 => ?_))
  cases gd1 with
  | bl b => exact ⟨b, rfl, g1.ok0 gi1 rfl⟩
  | _ => exact absurd rfl g1.not_bad
theorem et_cmp {op : CmpOp} {r : R2} {F : PyData → PyData → Option PyData} (ho : OpR c.X (compareOp op) r) (hd : OpD c.X.K c.g r F) (ha : EB c m a da) (hb : EB c m b db) (hm : behindInMarks op b = false) : ET c m (.Compare a [op] [b] pos) (dTest (d2 F da db)) := by
  intro σ H ρ S B0 B ow Q fr gi g
  refine WT.of (pt_cmpR ho we we hm) ?_
  show tOp r (WE c.X a) (WE c.X b) σ H _
  refine two_read hd ha hb fr gi (g.bind fun d S1 v H1 _ ev1 gi1 gd1 g1 => ?_)
  cases gd1 with
  | bl b => exact ⟨b, rfl, g1.ok0 gi1 rfl⟩
  | _ => exact absurd rfl g1.not_bad
theorem et_eq (hu : c.X.A.units + 64 < cLine) (ha : EB c m a da) (hb : EB c m b db) : ET c m (.Compare a [.Eq] [b] pos) (dTest (d2 fEq da db)) :=
  et_cmp (OpR.or op_eq (op_eqD hu)) (OpD.or opd_eqS opd_eqD orF_or) ha hb (nomark _)
theorem et_ne (hu : c.X.A.units + 64 < cLine) (ha : EB c m a da) (hb : EB c m b db) : ET c m (.Compare a [.NotEq] [b] pos) (dTest (d2 fNe da db)) :=
  et_cmp (OpR.or op_ne (op_neD hu)) (OpD.or opd_neS opd_neD orF_or) ha hb (nomark _)
theorem et_lt (hu : c.X.A.units < cLine) (ha : EB c m a da) (hb : EB c m b db) : ET c m (.Compare a [.Lt] [b] pos) (dTest (d2 fLt da db)) :=
  et_cmp (OpR.or op_lt (op_ltT hu)) (OpD.or opd_B (opd_TT fun _ _ _ _ => rfl) orF_or) ha hb (nomark _)
theorem et_le (hu : c.X.A.units < cLine) (ha : EB c m a da) (hb : EB c m b db) : ET c m (.Compare a [.LtE] [b] pos) (dTest (d2 fLe da db)) :=
  et_cmp (OpR.or op_le (op_leT hu)) (OpD.or opd_B (opd_TT (f := lexLeI) fun x y H Q => by simp only [rLeT, lexLe_eq]) orF_or) ha hb (nomark _)
theorem et_gt (ha : EB c m a da) (hb : EB c m b db) : ET c m (.Compare a [.Gt] [b] pos) (dTest (d2 (fB fun i j => decide (j < i)) da db)) := et_cmp op_gt opd_B ha hb (nomark _)
theorem et_ge (ha : EB c m a da) (hb : EB c m b db) : ET c m (.Compare a [.GtE] [b] pos) (dTest (d2 (fB fun i j => decide (j ≤ i)) da db)) := et_cmp op_ge opd_B ha hb (nomark _)
theorem et_in (hu : c.X.A.units + 65 < cLine) (ha : EB c m a da) (hb : EB c m b db) (hm : behindInMarks .In b = false) : ET c m (.Compare a [.In] [b] pos) (dTest (d2 (fIn false) da db)) :=
  et_cmp (OpR.or op_in_seq (OpR.or (op_inS hu) op_in_sign)) (opd_in false) ha hb hm
theorem et_notIn (hu : c.X.A.units + 65 < cLine) (ha : EB c m a da) (hb : EB c m b db) (hm : behindInMarks .NotIn b = false) : ET c m (.Compare a [.NotIn] [b] pos) (dTest (d2 (fIn true) da db)) :=
  et_cmp (OpR.or op_notIn_seq (OpR.or (op_notInS hu) op_notIn_sign)) (opd_in true) ha hb hm
theorem et_is (ha : EB c m a da) (hb : EB c m b db) : ET c m (.Compare a [.Is] [b] pos) (dTest (d2 (fIsN false) da db)) := et_cmp (OpR.or op_isN op_isBl) (opd_is false) ha hb (nomark _)
theorem et_isNot (ha : EB c m a da) (hb : EB c m b db) : ET c m (.Compare a [.IsNot] [b] pos) (dTest (d2 (fIsN true) da db)) := et_cmp (OpR.or op_notN op_notBl) (opd_is true) ha hb (nomark _)
/-- two comparisons, the middle asked once -/
def dChain (F F' : PyData → PyData → Option PyData) (da db dc : DE) : DE := fun ρ S => (da ρ S).bind fun x S1 => (db ρ S1).bind fun y S2 => match F x y with
  | some (.bool true) => (dc ρ S2).bind fun z S3 => ofO (F' y z) S3
  | some (.bool false) => .ok (.bool false) S2
  | _ => .bad
theorem chain_read {e : Expr} {de : DE} {r r' : R2} {F F' : PyData → PyData → Option PyData} (hd : OpD c.X.K c.g r F) (hd' : OpD c.X.K c.g r' F') (ha : EB c m a da) (hb : EB c m b db) (hc : EB c m e de) {σ : L2.St} {H : Hp} {ρ : Env} {S : Store} {B0 B : List Addr} {ow : Addr → Nat} {Q : VK} (fr : Frame c.X.K c.g B0 B ow m ρ σ H) (gi : GI c.X.K c.g B H S)
    (g : Goal c B H σ (dChain F F' da db de ρ S) (fun _ H' v d => Is c.X.K (Fz B H') v d) Q) : tChain r r' (WE c.X a) (WE c.X b) (WE c.X e) σ H Q := by
  refine ha σ H ρ S B0 B ow _ fr gi (g.bind fun d S1 v H1 _ ev1 gi1 gd1 g1 => ?_)
  refine hb σ H1 ρ S1 B0 B ow _ (fr.evo ev1) gi1 (g1.bind fun e S2 w H2 _ ev2 gi2 gd2 g2 => ?_)
  split at g2
  · rename_i q
    refine hd B H2 v w d e _ _ gi2.kn gi2.sub (Rb.evo gd1 gi1.sub ev2) gd2 q fun u H3 x3 i3 => ?_
    cases i3
    have gi3 := gi2.ex x3
    refine ⟨true, rfl, ?_⟩
    rw [if_pos rfl]
    have g3 : Goal c B H3 σ ((de ρ S2).bind fun z S3 => ofO (F' e z) S3) (fun _ H' v d => Is c.X.K (Fz B H') v d) Q :=
      ⟨fun d S' v H' e1 ev gi' gd => g2.1 d S' v H' e1 (x3.evo.trans ev) gi' gd, fun x S' e1 cls dd H' ev gi' xr => g2.2.1 x S' e1 cls dd H' (x3.evo.trans ev) gi' xr, g2.2.2⟩
    refine hc σ H3 ρ S2 B0 B ow _ (((fr.evo ev1).evo ev2).evo x3.evo) gi3 (g3.bind fun f S4 w4 H4 _ ev4 gi4 gd4 g4 => ?_)
    cases q' : F' e f with
    | none => rw [q'] at g4; exact absurd rfl g4.not_bad
    | some z =>
      rw [q'] at g4
      exact hd' B H4 w w4 e f z Q gi4.kn gi4.sub (Rb.evo (Rb.evo gd2 gi2.sub x3.evo) gi3.sub ev4) gd4 q' fun u H5 x5 i5 => g4.ok x5.evo (gi4.ex x5) i5
  · rename_i q
    refine hd B H2 v w d e _ _ gi2.kn gi2.sub (Rb.evo gd1 gi1.sub ev2) gd2 q fun u H3 x3 i3 => ?_
    cases i3
    refine ⟨false, rfl, ?_⟩
    rw [if_neg (by simp)]
    exact g2.ok x3.evo (gi2.ex x3) (.bl false)
  · exact absurd rfl g2.not_bad
theorem ev_chain {e : Expr} {de : DE} {r r' : R2} {F F' : PyData → PyData → Option PyData} {op op' : CmpOp} (ho : OpR c.X (compareOp op) r) (ho' : OpR c.X (compareOp op') r') (hd : OpD c.X.K c.g r F) (hd' : OpD c.X.K c.g r' F') (ha : EB c m a da) (hb : EB c m b db) (hc : EB c m e de)
    (hm : lastMarks [op, op'] [b, e] = false := by with_unfolding_all rfl) : EV c m (.Compare a [op, op'] [b, e] pos) (dChain F F' da db de) := fun σ H ρ S B0 B ow Q fr gi g =>
  WE.of (pe_chain ho ho' we we we hm) (chain_read hd hd' ha hb hc fr gi g)
theorem et_chain {e : Expr} {de : DE} {r r' : R2} {F F' : PyData → PyData → Option PyData} {op op' : CmpOp} (ho : OpR c.X (compareOp op) r) (ho' : OpR c.X (compareOp op') r') (hd : OpD c.X.K c.g r F) (hd' : OpD c.X.K c.g r' F') (ha : EB c m a da) (hb : EB c m b db) (hc : EB c m e de)
    (hm : lastMarks [op, op'] [b, e] = false := by with_unfolding_all rfl) : ET c m (.Compare a [op, op'] [b, e] pos) (dTest (dChain F F' da db de)) := fun σ H ρ S B0 B ow Q fr gi g =>
  WT.of (pt_chain ho ho' we we we hm) (show tTest (tChain r r' (WE c.X a) (WE c.X b) (WE c.X e)) σ H Q from chain_read hd hd' ha hb hc fr gi (g.bind fun d S1 v H1 _ ev1 gi1 gd1 g1 => by
    cases gd1 with
    | bl b => exact ⟨b, rfl, g1.ok0 gi1 rfl⟩
    | _ => exact absurd rfl g1.not_bad))
/-! and, or, not -/
structure WW (X : Cx) (e : Expr) (σ : L2.St) (H : Hp) (Q : Bool → Hp → Prop) : Prop where
  go : ∀ (whole : Sem Value) (pins : List (Addr × Obj)) (s : Shared), Inv X pins σ H s → wpAny (model X.prog X.w) X.A (isTrue e X.env whole) (TP X pins σ Q) X.xe s
theorem ww {X : Cx} {e : Expr} : PW X e (WW X e) := ⟨fun wh pins s _ _ _ I h => h.go wh pins s I⟩
theorem WW.of {X : Cx} {e : Expr} {t : TT} (h : PW X e t) {σ : L2.St} {H : Hp} {Q : Bool → Hp → Prop} (q : t σ H Q) : WW X e σ H Q := ⟨fun wh pins s I => h.run wh pins s σ H Q I q⟩
def EW (c : Cc) (m : List Md) (e : Expr) (den : DT) : Prop := ∀ σ H ρ S B0 B ow Q, Frame c.X.K c.g B0 B ow m ρ σ H → GI c.X.K c.g B H S →
  Goal c B H σ (den ρ S) (fun _ H' v d => v = d) Q → WW c.X e σ H Q
variable {ta tb : DT} {rest : List Expr}
def dAnd (a b : DT) : DT := fun ρ S => (a ρ S).bind fun x S1 => if x = true then b ρ S1 else .ok false S1
def dOr (a b : DT) : DT := fun ρ S => (a ρ S).bind fun x S1 => if x = true then .ok true S1 else b ρ S1
def dNot (a : DT) : DT := fun ρ S => (a ρ S).bind fun x S1 => .ok (!x) S1
theorem ew_and1 (ha : ET c m a ta) : EW c m (.BoolOp .And [a] pos) ta := fun σ H ρ S B0 B ow Q fr gi g => WW.of (pw_and1 wt) (ha σ H ρ S B0 B ow Q fr gi g)
theorem ew_or1 (ha : ET c m a ta) : EW c m (.BoolOp .Or [a] pos) ta := fun σ H ρ S B0 B ow Q fr gi g => WW.of (pw_or1 wt) (ha σ H ρ S B0 B ow Q fr gi g)
theorem ew_and (ha : ET c m a ta) (hb : EW c m (.BoolOp .And (b :: rest) pos) tb) : EW c m (.BoolOp .And (a :: b :: rest) pos) (dAnd ta tb) := by
  intro σ H ρ S B0 B ow Q fr gi g
  refine WW.of (pw_and wt ww) (ha σ H ρ S B0 B ow _ fr gi (g.bind fun d S1 v H1 _ ev1 gi1 gd1 g1 => ?_))
  cases gd1
  cases d with
  | true => rw [if_pos rfl] at g1 ⊢; exact hb σ H1 ρ S1 B0 B ow Q (fr.evo ev1) gi1 g1
  | false => rw [if_neg (by simp)] at g1 ⊢; exact g1.ok0 gi1 rfl
theorem ew_or (ha : ET c m a ta) (hb : EW c m (.BoolOp .Or (b :: rest) pos) tb) : EW c m (.BoolOp .Or (a :: b :: rest) pos) (dOr ta tb) := by
  intro σ H ρ S B0 B ow Q fr gi g
  refine WW.of (pw_or wt ww) (ha σ H ρ S B0 B ow _ fr gi (g.bind fun d S1 v H1 _ ev1 gi1 gd1 g1 => ?_))
  cases gd1
  cases d with
  | true => rw [if_pos rfl] at g1 ⊢; exact g1.ok0 gi1 rfl
  | false => rw [if_neg (by simp)] at g1 ⊢; exact hb σ H1 ρ S1 B0 B ow Q (fr.evo ev1) gi1 g1
theorem et_w {e : Expr} (h : EW c m e ta) : ET c m e ta := fun σ H ρ S B0 B ow Q fr gi g => WT.of (PW.pt ww) (h σ H ρ S B0 B ow Q fr gi g)
theorem et_not (ha : ET c m a ta) : ET c m (.UnaryOp .Not a pos) (dNot ta) := by
  intro σ H ρ S B0 B ow Q fr gi g
  refine WT.of (pt_not wt) (ha σ H ρ S B0 B ow _ fr gi (g.bind fun d S1 v H1 _ ev1 gi1 gd1 g1 => ?_))
  cases gd1
  exact g1.ok0 gi1 rfl
/-- .. as values: all but the last True or False -/
def asB (x : PyData) (t : Store → R PyData) (f : Store → R PyData) (S : Store) : R PyData := match x with | .bool true => t S | .bool false => f S | _ => .bad
def dAndV (a b : DE) : DE := fun ρ S => (a ρ S).bind fun x S1 => asB x (b ρ) (.ok (.bool false)) S1
def dOrV (a b : DE) : DE := fun ρ S => (a ρ S).bind fun x S1 => asB x (.ok (.bool true)) (b ρ) S1
def dNotV (a : DE) : DE := fun ρ S => (a ρ S).bind fun x S1 => asB x (.ok (.bool false)) (.ok (.bool true)) S1
theorem ev_one {op} (h : EV c m a da) : EV c m (.BoolOp op [a] pos) da := fun σ H ρ S B0 B ow Q fr gi g => WE.of (pe_one we) (h σ H ρ S B0 B ow Q fr gi g)
theorem ev_andV (ha : EV c m a da) (hb : EV c m (.BoolOp .And (b :: rest) pos) db) : EV c m (.BoolOp .And (a :: b :: rest) pos) (dAndV da db) := by
  intro σ H ρ S B0 B ow Q fr gi g
  refine WE.of (pe_and we we) (ha σ H ρ S B0 B ow _ fr gi (g.bind fun d S1 v H1 _ ev1 gi1 gd1 g1 => ?_))
  cases gd1 with
  | bl q =>
    refine ⟨q, rfl, ?_⟩
    cases q with
    | true => rw [if_pos rfl]; exact hb σ H1 ρ S1 B0 B ow Q (fr.evo ev1) gi1 g1
    | false => rw [if_neg (by simp)]; exact g1.ok0 gi1 (.bl _)
  | _ => exact absurd rfl g1.not_bad
theorem ev_orV (ha : EV c m a da) (hb : EV c m (.BoolOp .Or (b :: rest) pos) db) : EV c m (.BoolOp .Or (a :: b :: rest) pos) (dOrV da db) := by
  intro σ H ρ S B0 B ow Q fr gi g
  refine WE.of (pe_or we we) (ha σ H ρ S B0 B ow _ fr gi (g.bind fun d S1 v H1 _ ev1 gi1 gd1 g1 => ?_))
  cases gd1 with
  | bl q =>
    refine ⟨q, rfl, ?_⟩
    cases q with
    | true => rw [if_pos rfl]; exact g1.ok0 gi1 (.bl _)
    | false => rw [if_neg (by simp)]; exact hb σ H1 ρ S1 B0 B ow Q (fr.evo ev1) gi1 g1
  | _ => exact absurd rfl g1.not_bad
theorem ev_notV (ha : EV c m a da) : EV c m (.UnaryOp .Not a pos) (dNotV da) := by
  intro σ H ρ S B0 B ow Q fr gi g
  refine WE.of (pe_not we) (ha σ H ρ S B0 B ow _ fr gi (g.bind fun d S1 v H1 _ ev1 gi1 gd1 g1 => ?_))
  cases gd1 with
  | bl q =>
    refine ⟨q, rfl, ?_⟩
    cases q <;> exact g1.ok0 gi1 (.bl _)
  | _ => exact absurd rfl g1.not_bad
/-! a if t else b -/
def dIfE (t : DT) (a b : DE) : DE := fun ρ S => (t ρ S).bind fun x S1 => if x = true then a ρ S1 else b ρ S1
variable {q : Expr} {tq : DT}
theorem ev_if (hq : ET c m q tq) (ha : EV c m a da) (hb : EV c m b db) : EV c m (.IfExp q a b pos) (dIfE tq da db) := by
  intro σ H ρ S B0 B ow Q fr gi g
  refine WE.of (pe_ifExp wt we we) (hq σ H ρ S B0 B ow _ fr gi (g.bind fun d S1 v H1 _ ev1 gi1 gd1 g1 => ?_))
  cases gd1
  cases d with
  | true => rw [if_pos rfl] at g1 ⊢; exact ha σ H1 ρ S1 B0 B ow Q (fr.evo ev1) gi1 g1
  | false => rw [if_neg (by simp)] at g1 ⊢; exact hb σ H1 ρ S1 B0 B ow Q (fr.evo ev1) gi1 g1
theorem eb_if (hq : ET c m q tq) (ha : EB c m a da) (hb : EB c m b db) : EB c m (.IfExp q a b pos) (dIfE tq da db) := by
  intro σ H ρ S B0 B ow Q fr gi g
  refine WE.of (pe_ifExp wt we we) (hq σ H ρ S B0 B ow _ fr gi (g.bind (G1 := fun _ H' v d => v = d) fun d S1 v H1 _ ev1 gi1 gd1 g1 => ?_))
  cases gd1
  cases d with
  | true => rw [if_pos rfl] at g1 ⊢; exact ha σ H1 ρ S1 B0 B ow Q (fr.evo ev1) gi1 g1
  | false => rw [if_neg (by simp)] at g1 ⊢; exact hb σ H1 ρ S1 B0 B ow Q (fr.evo ev1) gi1 g1
theorem eo_if (hq : ET c m q tq) (ha : EO c m a da) (hb : EO c m b db) : EO c m (.IfExp q a b pos) (dIfE tq da db) := by
  intro σ H ρ S B0 B ow Q fr gi g
  refine WE.of (pe_ifExp wt we we) (hq σ H ρ S B0 B ow _ fr gi (g.bind (G1 := fun _ H' v d => v = d) fun d S1 v H1 _ ev1 gi1 gd1 g1 => ?_))
  cases gd1
  cases d with
  | true =>
    rw [if_pos rfl] at g1 ⊢
    exact ha σ H1 ρ S1 B0 B ow Q (fr.evo ev1) gi1 (g1.imp fun H' v d S' _ _ ⟨p, e1, e2, e3⟩ k => k v ⟨p, e1, free_back ev1 gi1 e2, e3⟩)
  | false =>
    rw [if_neg (by simp)] at g1 ⊢
    exact hb σ H1 ρ S1 B0 B ow Q (fr.evo ev1) gi1 (g1.imp fun H' v d S' _ _ ⟨p, e1, e2, e3⟩ k => k v ⟨p, e1, free_back ev1 gi1 e2, e3⟩)
end
end PD
/-! PDf: calls of built-ins, of methods of texts, of defs. -/
namespace PD
open PySem PySem.Spec PyProof.Rows L2
/-- no star -/
def Pl (e : Expr) : Prop := ∀ (env : PySem.Env) (es : List Expr), starEach (e :: es) env = (false, eval e env) :: starEach es env
/-! ### a built-in of one argument -/
def CalD (K : PySem.W.Frag) (g : Gx) (r : List V → Hp → VK → Prop) (F : PyData → Option PyData) : Prop := ∀ (B : List Addr) (H : Hp) (x : V) (dx d : PyData) (Q : VK), (∀ a ∈ B, H a ≠ none) → (∀ a ∈ g.G, a ∈ B) →
  Rb K g B H x dx → F dx = some d → (∀ v H', Ex H H' → Is K (Fz B H') v d → Q v H') → r [x] H Q
def CalO (K : PySem.W.Frag) (g : Gx) (r : List V → Hp → VK → Prop) (F : PyData → Option PyData) : Prop := ∀ (B : List Addr) (H : Hp) (x : V) (dx d : PyData) (Q : VK), (∀ a ∈ B, H a ≠ none) → (∀ a ∈ g.G, a ∈ B) →
  Rb K g B H x dx → F dx = some d → (∀ p H', Ex H H' → H p = none → Top K (p :: B) H' p d → Q (.ref p) H') → r [x] H Q
theorem CalO.d {K : PySem.W.Frag} {g : Gx} {r : List V → Hp → VK → Prop} {F : PyData → Option PyData} (h : CalO K g r F) : CalD K g r F := fun B H x dx d Q hn hg hx e k =>
  h B H x dx d Q hn hg hx e fun p H' ex hp t => k _ _ ex (t.is (fz_anti fun a ha => List.mem_cons_of_mem _ ha) fun o q => fz_some.mpr ⟨new_notin hn hp, q⟩)
section
variable {c : Cc} {m : List Md} {a : Expr} {da : DE} {r r1 r2 : List V → Hp → VK → Prop} {F F1 F2 : PyData → Option PyData} {x : Str} {p pos : Pos} {id T : String}
theorem CallR.or {f : Value} (h1 : CallR c.X f r1) (h2 : CallR c.X f r2) : CallR c.X f (fun xs H Q => r1 xs H Q ∨ r2 xs H Q) := fun pins s σ H xs us Q I rx h => by
  rcases h with h | h
  · exact h1 pins s σ H xs us Q I rx h
  · exact h2 pins s σ H xs us Q I rx h
theorem one_read (hd : CalD c.X.K c.g r F) (ha : EB c m a da) {σ : L2.St} {H : Hp} {ρ : Env} {S : Store} {B0 B : List Addr} {ow : Addr → Nat} {Q : VK} (fr : Frame c.X.K c.g B0 B ow m ρ σ H) (gi : GI c.X.K c.g B H S)
    (g : Goal c B H σ (d1 F da ρ S) (fun _ H' v d => Is c.X.K (Fz B H') v d) Q) : tCB r (tCons (WE c.X a) tNil) σ H Q := by
  refine ha σ H ρ S B0 B ow _ fr gi (g.bind fun d S1 v H1 _ ev1 gi1 gd1 g1 => ?_)
  cases q : F d with
  | none => rw [q] at g1; exact absurd rfl g1.not_bad
  | some z =>
    rw [q] at g1
    exact hd B H1 v d z Q gi1.kn gi1.sub gd1 q fun u H2 x2 i2 => g1.ok x2.evo (gi1.ex x2) i2
theorem one_readO (hd : CalO c.X.K c.g r F) (ha : EB c m a da) {σ : L2.St} {H : Hp} {ρ : Env} {S : Store} {B0 B : List Addr} {ow : Addr → Nat} {Q : VK} (fr : Frame c.X.K c.g B0 B ow m ρ σ H) (gi : GI c.X.K c.g B H S)
    (g : Goal c B H σ (d1 F da ρ S) (fun S' H' v d => ∃ p, v = .ref p ∧ H p = none ∧ Top c.X.K (p :: B) H' p d ∧ GI c.X.K c.g (p :: B) H' S') Q) : tCB r (tCons (WE c.X a) tNil) σ H Q := by
  refine ha σ H ρ S B0 B ow _ fr gi (g.bind (G1 := fun _ H' v d => Is c.X.K (Fz B H') v d ∨ ∃ p, v = .ref p ∧ p ∉ c.g.G ∧ Top c.X.K B H' p d) fun d S1 v H1 _ ev1 gi1 gd1 g1 => ?_)
  cases q : F d with
  | none => rw [q] at g1; exact absurd rfl g1.not_bad
  | some z =>
    rw [q] at g1
    exact hd B H1 v d z Q gi1.kn gi1.sub gd1 q fun p H2 x2 hp i2 => g1.ok x2.evo (gi1.ex x2) ⟨p, rfl, free_back ev1 gi1 hp, i2, gi1.fresh x2 hp i2.some⟩
theorem ev_callB (hc : CallR c.X (.builtin id) r) (hd : CalD c.X.K c.g r F) (hg : Gl c.X x) (hm : c.X.mg x = none) (hv : bootBuiltins x = some (.builtin id)) (ha : EB c m a da) (hs : Pl a := by intro _ _; rfl) (hn : x ≠ "__name__" := by decide) (hdb : (x == ("__debug__" : Str)) = false := by decide) :
    EV c m (.Call (.Name x p) [a] [] pos) (d1 F da) := fun σ H ρ S B0 B ow Q fr gi g => WE.of (pe_callB hc hg hm hv (pa_cons we pa_nil (hs _ _)) hn hdb (hs _ _)) (one_read hd ha fr gi g)
theorem ev_callT (hc : CallR c.X (.type T) r) (hd : CalD c.X.K c.g r F) (hg : Gl c.X x) (hm : c.X.mg x = none) (hv : bootBuiltins x = some (.type T)) (ha : EB c m a da) (hs : Pl a := by intro _ _; rfl) (hn : x ≠ "__name__" := by decide) (hdb : (x == ("__debug__" : Str)) = false := by decide) :
    EV c m (.Call (.Name x p) [a] [] pos) (d1 F da) := fun σ H ρ S B0 B ow Q fr gi g => WE.of (pe_callTy hc hg hm hv (pa_cons we pa_nil (hs _ _)) hn hdb (hs _ _)) (one_read hd ha fr gi g)
theorem eo_callB (hc : CallR c.X (.builtin id) r) (hd : CalO c.X.K c.g r F) (hg : Gl c.X x) (hm : c.X.mg x = none) (hv : bootBuiltins x = some (.builtin id)) (ha : EB c m a da) (hs : Pl a := by intro _ _; rfl) (hn : x ≠ "__name__" := by decide) (hdb : (x == ("__debug__" : Str)) = false := by decide) :
    EO c m (.Call (.Name x p) [a] [] pos) (d1 F da) := fun σ H ρ S B0 B ow Q fr gi g => WE.of (pe_callB hc hg hm hv (pa_cons we pa_nil (hs _ _)) hn hdb (hs _ _)) (one_readO hd ha fr gi g)
theorem eo_callT (hc : CallR c.X (.type T) r) (hd : CalO c.X.K c.g r F) (hg : Gl c.X x) (hm : c.X.mg x = none) (hv : bootBuiltins x = some (.type T)) (ha : EB c m a da) (hs : Pl a := by intro _ _; rfl) (hn : x ≠ "__name__" := by decide) (hdb : (x == ("__debug__" : Str)) = false := by decide) :
    EO c m (.Call (.Name x p) [a] [] pos) (d1 F da) := fun σ H ρ S B0 B ow Q fr gi g => WE.of (pe_callTy hc hg hm hv (pa_cons we pa_nil (hs _ _)) hn hdb (hs _ _)) (one_readO hd ha fr gi g)
/-! len -/
def fLen : PyData → Option PyData
  | .list xs => some (.int xs.length)
  | .tuple xs => some (.int xs.length)
  | .str z => if sz z.length then some (.int z.length) else none
  | _ => none
theorem cal_len {K : PySem.W.Frag} {g : Gx} : CalD K g (fun xs H Q => (∃ p ys, xs = [.ref p] ∧ (SqL K H p ys ∨ SqT K H p ys) ∧ Q (.int ys.length) H) ∨ (∃ z, xs = [.str z] ∧ z.length ≤ sizeLine ∧ Q (.int z.length) H)) fLen := by
  intro B H x dx d Q hn hg hx e k
  unfold fLen at e
  split at e
  · cases e
    obtain ⟨p, vs, rfl, h1, s1, z1⟩ := hx.lst hg
    exact .inl ⟨p, vs, rfl, .inl (.inl (.inl (s1 H (Evo.refl _ _)))), by rw [h1.length]; exact k _ _ (Ex.refl _) (.int _)⟩
  · cases e
    obtain ⟨p, vs, rfl, h1, s1, z1⟩ := hx.tup hg
    exact .inl ⟨p, vs, rfl, .inr (s1 H (Evo.refl _ _)), by rw [h1.length]; exact k _ _ (Ex.refl _) (.int _)⟩
  · split at e
    · rename_i hz
      cases e
      obtain rfl := hx.str
      exact .inr ⟨_, rfl, sz_le hz, k _ _ (Ex.refl _) (.int _)⟩
    · cases e
  · cases e
theorem ev_len (hg : Gl c.X "len") (hm : c.X.mg "len" = none) (ha : EB c m a da) (hs : Pl a := by intro _ _; rfl) : EV c m (.Call (.Name "len" p) [a] [] pos) (d1 fLen da) := ev_callB (CallR.or call_len_seq call_len_str) cal_len hg hm PySem.boot_len ha hs
/-! abs, int, str -/
def fAbs : PyData → Option PyData | .int i => some (.int (if i < 0 then -i else i)) | _ => none
theorem cal_abs {K : PySem.W.Frag} {g : Gx} : CalD K g (fun xs H Q => ∃ i, xs = [.int i] ∧ Q (.int (if i < 0 then -i else i)) H) fAbs := by
  intro B H x dx d Q hn hg hx e k
  unfold fAbs at e
  split at e
  · cases e
    obtain rfl := hx.int
    exact ⟨_, rfl, k _ _ (Ex.refl _) (.int _)⟩
  · cases e
theorem ev_abs (hg : Gl c.X "abs") (hm : c.X.mg "abs" = none) (ha : EB c m a da) (hs : Pl a := by intro _ _; rfl) : EV c m (.Call (.Name "abs" p) [a] [] pos) (d1 fAbs da) := ev_callB call_abs cal_abs hg hm PyProof.Rows.boot_abs ha hs
def fInt : PyData → Option PyData
  | .int i => some (.int i)
  | .bool b => some (.int (if b then 1 else 0))
  | .str z => if decide (z.length ≤ 640) then (PySem.intText? z).map .int else none
  | _ => none
theorem cal_int {K : PySem.W.Frag} {g : Gx} : CalD K g (fun xs H Q => ((∃ i, xs = [.int i] ∧ Q (.int i) H) ∨ ∃ k, xs = [.bl k] ∧ Q (.int (if k then 1 else 0)) H) ∨ (∃ a n, xs = [.str a] ∧ PySem.intText? a = some n ∧ a.length ≤ 640 ∧ Q (.int n) H)) fInt := by
  intro B H x dx d Q hn hg hx e k
  unfold fInt at e
  split at e
  · cases e
    obtain rfl := hx.int
    exact .inl (.inl ⟨_, rfl, k _ _ (Ex.refl _) (.int _)⟩)
  · cases e
    obtain rfl := hx.bool
    exact .inl (.inr ⟨_, rfl, k _ _ (Ex.refl _) (.int _)⟩)
  · split at e
    · rename_i z hz
      obtain rfl := hx.str
      cases q : PySem.intText? z with
      | none => rw [q] at e; cases e
      | some n =>
        rw [q] at e
        cases e
        exact .inr ⟨z, n, rfl, q, of_decide_eq_true hz, k _ _ (Ex.refl _) (.int _)⟩
    · cases e
  · cases e
theorem ev_int_ (hg : Gl c.X "int") (hm : c.X.mg "int" = none) (ha : EB c m a da) (hs : Pl a := by intro _ _; rfl) : EV c m (.Call (.Name "int" p) [a] [] pos) (d1 fInt da) := ev_callT (CallR.or call_int1 call_int_str) cal_int hg hm PyProof.Rows.boot_int ha hs
def fStr : PyData → Option PyData | .int i => if decide (i.natAbs.log2 < 1920) then some (.str (Str.ofString (toString i))) else none | _ => none
theorem cal_str {K : PySem.W.Frag} {g : Gx} : CalD K g (fun xs H Q => ∃ i : Int, xs = [.int i] ∧ i.natAbs.log2 < 1920 ∧ Q (.str (Str.ofString (toString i))) H) fStr := by
  intro B H x dx d Q hn hg hx e k
  unfold fStr at e
  split at e
  · split at e
    · rename_i hz
      cases e
      obtain rfl := hx.int
      exact ⟨_, rfl, of_decide_eq_true hz, k _ _ (Ex.refl _) (.str _)⟩
    · cases e
  · cases e
theorem ev_str_ (hg : Gl c.X "str") (hm : c.X.mg "str" = none) (ha : EB c m a da) (hs : Pl a := by intro _ _; rfl) : EV c m (.Call (.Name "str" p) [a] [] pos) (d1 fStr da) := ev_callT call_str_int cal_str hg hm PyProof.Rows.boot_str ha hs
/-! tuple(..) of a list, a tuple, a text; list(..) -/
def signs (z : Str) : List V := z.cps.toList.map fun c => V.str ⟨#[c]⟩
def signsD (z : Str) : List PyData := z.cps.toList.map fun c => .str ⟨#[c]⟩
def fTuple : PyData → Option PyData
  | .list xs => some (.tuple xs)
  | .tuple xs => some (.tuple xs)
  | .str z => if sz z.length then some (.tuple (signsD z)) else none
  | _ => none
theorem signs_is {K : PySem.W.Frag} {H : Hp} : ∀ l : List Nat, IsAll K H (l.map fun c => V.str ⟨#[c]⟩) (l.map fun c => PyData.str ⟨#[c]⟩)
  | [] => .nil
  | c :: l => .cons (.str _) (signs_is l)
theorem signs_vals {acc : Array Value} {z : Str} (h : ItemsOf (SignAt z) acc z.cps.size) : Vals (signs z) acc.toList := by
  refine vals_of_at (by unfold signs; rw [List.length_map, Array.length_toList, Array.length_toList, h.1]) fun j x u e1 e2 => ?_
  rw [Array.getElem?_toList] at e2
  obtain ⟨c, t, e3, e4⟩ := h.2 j u e2
  unfold signs at e1
  rw [List.getElem?_map, Array.getElem?_toList, e3] at e1
  cases e1
  exact ⟨t, e4⟩
theorem call_tupS (hc : c.X.calm = true) : CallR c.X (.type "tuple") (fun xs H Q => ∃ z, xs = [.str z] ∧ z.length ≤ sizeLine ∧ ∀ l, H l = none → Q (.ref l) (upd H l (.tup (signs z)))) := by
  intro pins s σ H xs us Q I r h
  obtain ⟨z, rfl, hz, q⟩ := h
  obtain ⟨u, rfl, t, rfl⟩ := vals1 r
  refine call_tuple_str (I.ok.hd hc) z t (fun h' tk acc kp hacc => ?_) hz
  have I1 : Inv c.X pins σ H { s with heap := h' } := I.kept (t' := s.toks) kp
  have hv := signs_vals hacc
  have I2 : Inv c.X pins σ (upd H h'.objs.size (.tup (signs z))) { s with heap := h'.push { cls := .type "tuple", data := .seq acc }, toks := tk } :=
    I1.laid (t' := tk) (fun b o e => Heap.get?_push_of_some _ e) (Nat.le_refl _) (show ObjOk c.X.prog c.X.w _ _ _ (.tup (signs z)) from ⟨by unfold signs; rw [List.length_map, Array.length_toList]; exact hz, acc.toList, hv, by simpa using IsTup.new _ _⟩)
  exact ⟨.ref h'.objs.size, _, I2, rfl, q _ (I1.hok.fresh (Nat.le_refl _))⟩
theorem cal_tuple {K : PySem.W.Frag} {g : Gx} : CalD K g (fun xs H Q => (∃ p ys, xs = [.ref p] ∧ ((SqL K H p ys ∧ ∀ l, H l = none → Q (.ref l) (upd H l (.tup ys))) ∨ (SqT K H p ys ∧ Q (.ref p) H))) ∨ (∃ z, xs = [.str z] ∧ z.length ≤ sizeLine ∧ ∀ l, H l = none → Q (.ref l) (upd H l (.tup (signs z))))) fTuple := by
  intro B H x dx d Q hn hg hx e k
  unfold fTuple at e
  split at e
  · cases e
    obtain ⟨p, vs, rfl, h1, s1, z1⟩ := hx.lst hg
    exact .inl ⟨p, vs, rfl, .inl ⟨.inl (.inl (s1 H (Evo.refl _ _))), fun l hl => k _ _ (Ex.new hl) (is_newT hn hl z1 h1)⟩⟩
  · cases e
    obtain ⟨p, vs, e2, h1, s1, z1⟩ := hx.tup hg
    subst e2
    refine .inl ⟨p, vs, rfl, .inr ⟨s1 H (Evo.refl _ _), ?_⟩⟩
    rcases hx with hx | ⟨r, _, _, ⟨_, _, z, _⟩ | ⟨_, _, z, _⟩ | ⟨_, _, z, _⟩⟩
    · exact k _ _ (Ex.refl _) hx
    all_goals cases z
  · split at e
    · rename_i z hz
      cases e
      obtain rfl := hx.str
      exact .inr ⟨z, rfl, sz_le hz, fun l hl => k _ _ (Ex.new hl) (is_newT hn hl (by unfold signs; rw [List.length_map, Array.length_toList]; exact sz_le hz) (signs_is _))⟩
    · cases e
  · cases e
theorem ev_tuple (hc : c.X.calm = true) (hg : Gl c.X "tuple") (hm : c.X.mg "tuple" = none) (ha : EB c m a da) (hs : Pl a := by intro _ _; rfl) : EV c m (.Call (.Name "tuple" p) [a] [] pos) (d1 fTuple da) := ev_callT (CallR.or call_tuple_of (call_tupS hc)) cal_tuple hg hm PyProof.Rows.boot_tuple ha hs
def fList : PyData → Option PyData
  | .list xs => some (.list xs)
  | .tuple xs => some (.list xs)
  | _ => none
theorem cal_list {K : PySem.W.Frag} {g : Gx} : CalO K g (fun xs H Q => ∃ p ys, xs = [.ref p] ∧ (SqL K H p ys ∨ SqT K H p ys) ∧ ∀ l, H l = none → Q (.ref l) (upd H l (.lst ys))) fList := by
  intro B H x dx d Q hn hg hx e k
  unfold fList at e
  split at e
  · cases e
    obtain ⟨p, vs, rfl, h1, s1, z1⟩ := hx.lst hg
    exact ⟨p, vs, rfl, .inl (.inl (.inl (s1 H (Evo.refl _ _)))), fun l hl => k _ _ (Ex.new hl) hl (top_newL hl z1 h1)⟩
  · cases e
    obtain ⟨p, vs, rfl, h1, s1, z1⟩ := hx.tup hg
    exact ⟨p, vs, rfl, .inr (s1 H (Evo.refl _ _)), fun l hl => k _ _ (Ex.new hl) hl (top_newL hl z1 h1)⟩
  · cases e
theorem eo_list (hg : Gl c.X "list") (hm : c.X.mg "list" = none) (ha : EB c m a da) (hs : Pl a := by intro _ _; rfl) : EO c m (.Call (.Name "list" p) [a] [] pos) (d1 fList da) := eo_callT call_list_of cal_list hg hm PyProof.Rows.boot_list ha hs
/-! all, any of a list of truth values -/
def boolsOf : List PyData → Option (List Bool)
  | [] => some []
  | .bool i :: r => (boolsOf r).map (i :: ·)
  | _ :: _ => none
theorem boolsOf_eq : ∀ {ds : List PyData} {ns : List Bool}, boolsOf ds = some ns → ds = ns.map .bool
  | [], ns, h => by cases h; rfl
  | d :: r, ns, h => by
    cases d with
    | bool i =>
      unfold boolsOf at h
      cases e : boolsOf r with
      | none => rw [e] at h; cases h
      | some ms => rw [e] at h; cases h; rw [boolsOf_eq e]; rfl
    | _ => cases h
@[simp] theorem boolsOf_bools : ∀ {ns : List Bool}, boolsOf (ns.map .bool) = some ns
  | [] => rfl
  | n :: ns => by
    show (boolsOf (ns.map .bool)).map (n :: ·) = _
    rw [boolsOf_bools]
    rfl
def fBs (f : List Bool → Bool) : PyData → Option PyData | .list xs => (boolsOf xs).map fun bs => .bool (f bs) | _ => none
theorem cal_bs {K : PySem.W.Frag} {g : Gx} (f : List Bool → Bool) : CalD K g (fun vs H Q => ∃ (a : Addr) (bs : List Bool), vs = [V.ref a] ∧ SqL K H a (bs.map V.bl) ∧ Q (.bl (f bs)) H) (fBs f) := by
  intro B H x dx d Q hn hg hx e k
  unfold fBs at e
  split at e
  · rename_i xs
    cases q : boolsOf xs with
    | none => rw [q] at e; cases e
    | some bs =>
      rw [q] at e
      cases e
      obtain rfl := boolsOf_eq q
      obtain ⟨p, vs, rfl, h1, s1, z1⟩ := hx.lst hg
      obtain rfl := h1.bools
      exact ⟨p, bs, rfl, .inl (.inl (s1 H (Evo.refl _ _))), k _ _ (Ex.refl _) (.bl _)⟩
  · cases e
theorem ev_all (hc : c.X.calm = true) (hg : Gl c.X "all") (hm : c.X.mg "all" = none) (ha : EB c m a da) (hs : Pl a := by intro _ _; rfl) : EV c m (.Call (.Name "all" p) [a] [] pos) (d1 (fBs fun bs => bs.all _root_.id) da) := ev_callB (cr_all hc) (cal_bs _) hg hm PyProof.Rows.boot_all ha hs
theorem ev_any (hc : c.X.calm = true) (hg : Gl c.X "any") (hm : c.X.mg "any" = none) (ha : EB c m a da) (hs : Pl a := by intro _ _; rfl) : EV c m (.Call (.Name "any" p) [a] [] pos) (d1 (fBs fun bs => bs.any _root_.id) da) := ev_callB (cr_any hc) (cal_bs _) hg hm PyProof.Rows.boot_any ha hs
/-! isinstance of a built-in class -/
def tyD : PyData → String | .none => "NoneType" | .bool _ => "bool" | .int _ => "int" | .str _ => "str" | .list _ => "list" | .tuple _ => "tuple" | .dict _ => "dict"
theorem ty_of {K : PySem.W.Frag} {g : Gx} {B : List Addr} {H : Hp} {v : V} {d : PyData} (h : Rb K g B H v d) : TyX K H v (.type (tyD d)) := by
  have lst : ∀ {a xs}, H a = some (.lst xs) → TyX K H (.ref a) (.type "list") := fun e => .base (.lst e)
  rcases h with h | ⟨p, rfl, hp, ⟨ds, vs, rfl, e, _⟩ | ⟨ds, kvs, rfl, e, _⟩ | ⟨ds, kvs, rfl, e, _⟩⟩
  · cases h with
    | non => exact .base .non
    | bl b => exact .base (.bl b)
    | int i => exact .base (.int i)
    | str x => exact .base (.str x)
    | lst e _ _ => exact .base (.lst (fz_le _ _ e))
    | tup e _ _ =>
      rcases e with (e | ⟨o, e⟩) | ⟨o, its, n, e, h2, _⟩
      · exact .base (.tup (fz_le _ _ e))
      · exact .fTuple (fz_le _ _ e)
      · exact .kTuple e h2
    | dK e _ _ => exact .base (.dK (fz_le _ _ e))
    | dT e _ _ => exact .base (.dT (fz_le _ _ e))
  · exact .base (.lst e)
  · exact .base (.dK e)
  · exact .base (.dT e)
def isT (T : String) (d : PyData) : Bool := match d with
  | .bool _ => T == "bool" || T == "int"
  | d => T == tyD d
/-- isinstance is answered as isT says -/
def IsTOk (T : String) : Prop := ∀ t ∈ ["NoneType", "bool", "int", "str", "list", "tuple", "dict"], kitB t T = some (t == T || (t == "bool" && T == "int"))
theorem isT_eq (T : String) (d : PyData) : (tyD d == T || (tyD d == "bool" && T == "int")) = isT T d := by
  cases d <;> simp [isT, tyD, Bool.beq_comm, BEq.comm]
theorem ev_isi {T : Str} {p2 : Pos} (hT : IsTOk T') (hb : bootBuiltins T = some (.type T')) (hg : Gl c.X "isinstance") (hm : c.X.mg "isinstance" = none) (gT : Gl c.X T) (mT : c.X.mg T = none) (ha : EV c m a da) (hs : Pl a := by intro _ _; rfl) (n1 : T ≠ "__name__" := by decide) (n2 : (T == ("__debug__" : Str)) = false := by decide) :
    EV c m (.Call (.Name "isinstance" p) [a, .Name T p2] [] pos) (d1 (fun d => some (.bool (isT T' d))) da) := by
  intro σ H ρ S B0 B ow Q fr gi g
  refine WE.of (pe_callB call_isi hg hm PyProof.Rows.boot_isinstance (pa_cons we (pa_cons (pe_bltn (v := .ty T') gT mT hb rfl n1 n2) pa_nil) (hs _ _)) (he := hs _ _)) ?_
  refine ha σ H ρ S B0 B ow _ fr gi (g.bind fun d S1 v H1 _ ev1 gi1 gd1 g1 => ?_)
  refine ⟨v, .ty T', .type (tyD d), .type T', isT T' d, rfl, .ty T', ty_of (g := c.g) (.inl gd1), ?_, g1.ok0 gi1 (.bl _)⟩
  rw [← isT_eq]
  refine kit_ty (hT _ ?_)
  cases d <;> simp [tyD]
end
end PD
/-! PDg: what is walked; list comprehensions; calls of defs. -/
namespace PD
open PySem PySem.Spec PyProof.Rows L2
/-! ### calls of defs -/
/-- an argument: frozen data, or the list at place k that all share -/
def ArgOk (K : PySem.W.Frag) (g : Gx) (B : List Addr) (H : Hp) : Md → V → PyData → Prop
  | .st k, v, d => d = .none ∧ ∃ p, g.SA[k]? = some p ∧ v = .ref p
  | .cs, v, d => ∃ a vs ds, d = .list ds ∧ v = .ref a ∧ SqL K (Fz B H) a vs ∧ vs.length ≤ sizeLine ∧ IsAll K (Fz B H) vs ds
  | _, v, d => Is K (Fz B H) v d
inductive ArgsOk (K : PySem.W.Frag) (g : Gx) (B : List Addr) (H : Hp) : List Md → List V → List PyData → Prop
  | nil : ArgsOk K g B H [] [] []
  | cons {k : Md} {ks : List Md} {v : V} {vs : List V} {d : PyData} {ds : List PyData} : ArgOk K g B H k v d → ArgsOk K g B H ks vs ds → ArgsOk K g B H (k :: ks) (v :: vs) (d :: ds)
theorem ArgOk.evo {K : PySem.W.Frag} {g : Gx} {B : List Addr} {H H' : Hp} {k : Md} {v : V} {d : PyData} (h : ArgOk K g B H k v d) (e : Ex (Fz B H) (Fz B H')) : ArgOk K g B H' k v d := by
  cases k with
  | st k => exact h
  | cs => exact let ⟨a, vs, ds, h1, h2, h3, h4, h5⟩ := h; ⟨a, vs, ds, h1, h2, e.l h3, h4, h5.mono e⟩
  | _ => exact Is.mono e h
theorem ArgsOk.length {K : PySem.W.Frag} {g : Gx} {B : List Addr} {H : Hp} : ∀ {ks : List Md} {vs : List V} {ds : List PyData}, ArgsOk K g B H ks vs ds → vs.length = ks.length
  | _, _, _, .nil => rfl
  | _, _, _, .cons _ r => by simp [ArgsOk.length r]
def EM (c : Cc) (m : List Md) (ks : List Md) (e : List Expr) (den : DA) : Prop := ∀ σ H ρ S B0 B ow Q, Frame c.X.K c.g B0 B ow m ρ σ H → GI c.X.K c.g B H S →
  Goal c B H σ (den ρ S) (fun _ H' v d => ArgsOk c.X.K c.g B H' ks v d) Q → WA c.X e σ H Q
def dSt : DE := fun _ S => .ok .none S
section
variable {c : Cc} {m : List Md} {ks : List Md} {e : Expr} {es : List Expr} {a : DE} {r : DA}
theorem em_nil : EM c m [] [] dNil := fun σ H ρ S B0 B ow Q fr gi g => WA.of pa_nil (g.ok0 gi .nil)
theorem em_val (ha : EV c m e a) (hr : EM c m ks es r) (hs : Pl e := by intro _ _; rfl) : EM c m (.fz :: ks) (e :: es) (dCons a r) := by
  intro σ H ρ S B0 B ow Q fr gi g
  refine WA.of (pa_cons we wa (hs _ _)) (ha σ H ρ S B0 B ow _ fr gi (g.bind fun d S' v H' _ ev gi' gd g' => ?_))
  refine hr σ H' ρ S' B0 B ow _ (fr.evo ev) gi' (g'.bind fun ds S2 vs H2 _ ev2 gi2 gd2 g2 => ?_)
  exact g2.ok0 gi2 (.cons (show Is _ _ _ _ from gd.mono (ev2.fz gi2.sub)) gd2)
theorem em_st {k i : Nat} {x : Str} {pos : Pos} (hm : m[i]? = some (.st k)) (hp : PE c.X (.Name x pos) (tVar i)) (hr : EM c m ks es r) : EM c m (.st k :: ks) (.Name x pos :: es) (dCons dSt r) := by
  intro σ H ρ S B0 B ow Q fr gi g
  refine WA.of (pa_cons hp wa rfl) ?_
  obtain ⟨p, hk, hv⟩ := fr.slot i _ hm
  refine ⟨.ref p, ?_, ?_⟩
  · rw [List.getD_eq_getElem?_getD] at hv
    cases h2 : σ[i]? with
    | none => rw [h2] at hv; cases hv
    | some o => rw [h2] at hv; rw [show o = some _ from hv]
  · refine hr σ H ρ S B0 B ow _ fr gi (Goal.bind (r := r ρ S) (k := fun xs S2 => R.ok (PyData.none :: xs) S2) g fun ds S2 vs H2 _ ev2 gi2 gd2 g2 => ?_)
    exact g2.ok0 gi2 (.cons ⟨rfl, p, hk, rfl⟩ gd2)
end
/-- what a result is: frozen, or a new list of its own -/
def ResOk (K : PySem.W.Frag) (g : Gx) (fr : Bool) (B : List Addr) (H H' : Hp) (S' : Store) (v : V) (d : PyData) : Prop :=
  if fr = true then ∃ p, v = .ref p ∧ H p = none ∧ Top K (p :: B) H' p d ∧ GI K g (p :: B) H' S' else Is K (Fz B H') v d
/-- a def's promise: its denotation -/
def spD (K : PySem.W.Frag) (mg : Str → Option Value) (g : Gx) (ks : List Md) (fr : Bool) (den : List PyData → Store → R PyData) : Sp := fun vs H Q E =>
  ∃ ds S B, ArgsOk K g B H ks vs ds ∧ GI K g B H S ∧
    (∀ d S' v H', den ds S = .ok d S' → Evo g.G H H' → GI K g B H' S' → ResOk K g fr B H H' S' v d → Q v H') ∧
    (∀ x S' cls dd H', den ds S = .exc x S' → Evo g.G H H' → GI K g B H' S' → XcRep K mg (Fz B H') x cls dd → E cls dd H') ∧ den ds S ≠ .bad
def dCall (f : List PyData → Store → R PyData) (as : DA) : DE := fun ρ S => (as ρ S).bind fun ds S1 => f ds S1
section
variable {c : Cc} {m : List Md} {ks : List Md} {e : Expr} {es : List Expr} {as : DA} {k : Nat} {f : Addr} {fd : FuncData} {ps : List Str} {den : List PyData → Store → R PyData} {x : Str} {p pos : Pos}
theorem call_read {fr0 : Bool} (ha : EM c m ks es as) {σ : L2.St} {H : Hp} {ρ : Env} {S : Store} {B0 B : List Addr} {ow : Addr → Nat} {Q : VK} (fr : Frame c.X.K c.g B0 B ow m ρ σ H) (gi : GI c.X.K c.g B H S)
    (g : Goal c B H σ (dCall den as ρ S) (fun S' H' v d => ResOk c.X.K c.g fr0 B H H' S' v d) Q) : tCallS (spD c.X.K c.X.mg c.g ks fr0 den) (L2.WE c.W) (WA c.X es) σ H Q := by
  refine ha σ H ρ S B0 B ow _ fr gi (g.bind (G1 := fun _ H' v d => ArgsOk c.X.K c.g B H' ks v d) fun ds S1 vs H1 _ ev1 gi1 gd1 g1 => ?_)
  refine ⟨ds, S1, B, gd1, gi1, fun d S' v H' e1 ev gi' rs => g1.1 d S' v H' e1 ev gi' ?_, fun x S' cls dd H' e1 ev gi' xr => g1.2.1 x S' e1 cls dd H' ev gi' xr, g1.2.2⟩
  unfold ResOk at rs ⊢
  split at rs
  · rename_i q
    rw [if_pos q]
    obtain ⟨p, e2, e3, e4⟩ := rs
    exact ⟨p, e2, free_back ev1 gi1 e3, e4⟩
  · rename_i q
    rw [if_neg q]
    exact rs
/-- a def of the denotation den at level k -/
def FnD (c : Cc) (k : Nat) (f : Addr) (fd : FuncData) (ps : List Str) (ks : List Md) (fr : Bool) (den : List PyData → Store → R PyData) : Prop :=
  FnOk c.X.prog c.X.w c.X.K c.X.mg c.X.base (L2.CX c.X.prog c.X.w) k f fd ps (spD c.X.K c.X.mg c.g ks fr den)
/-- where a def that is called stands -/
structure At (X : Cx) (x : Str) (f : Addr) (fd : FuncData) (ps : List Str) : Prop where
  g : X.mg x = some (.ref f)
  k : PySem.W.keepIn X.K (.ref f) = true
  b : Binds X.K fd ps []
theorem ev_call (F : FnD c k f fd ps ks false den) (hr : Room k c.X.A) (hg : Gl c.X x) (T : At c.X x f fd ps) (tk : Takes c.X c.W) (ha : EM c m ks (e :: es) as) (hdb : (x == ("__debug__" : Str)) = false := by decide)
    (he : starEach (e :: es) c.X.env = (false, eval e c.X.env) :: starEach es c.X.env := by rfl) (hpl : (backTo pos (starEach es c.X.env)).any (·.1) = false := by rfl) : EV c m (.Call (.Name x p) (e :: es) [] pos) (dCall den as) := fun σ H ρ S B0 B ow Q fr gi g =>
  PD.WE.of (pe_callS F hr hg T.g T.k T.b (fun σ => passAt tk σ) wa hdb he hpl) (call_read (fr0 := false) ha fr gi g)
theorem eo_call (F : FnD c k f fd ps ks true den) (hr : Room k c.X.A) (hg : Gl c.X x) (T : At c.X x f fd ps) (tk : Takes c.X c.W) (ha : EM c m ks (e :: es) as) (hdb : (x == ("__debug__" : Str)) = false := by decide)
    (he : starEach (e :: es) c.X.env = (false, eval e c.X.env) :: starEach es c.X.env := by rfl) (hpl : (backTo pos (starEach es c.X.env)).any (·.1) = false := by rfl) : EO c m (.Call (.Name x p) (e :: es) [] pos) (dCall den as) := fun σ H ρ S B0 B ow Q fr gi g =>
  PD.WE.of (pe_callS F hr hg T.g T.k T.b (fun σ => passAt tk σ) wa hdb he hpl) (call_read (fr0 := true) ha fr gi g)
end
/-! ### what is walked -/
structure WI (X : Cx) (tg iter : Expr) (σ : L2.St) (H : Hp) (R : It → Hp → Prop) : Prop where
  go : ∀ (pins : List (Addr × Obj)) (s : Shared), Inv X pins σ H s → wpAny (model X.prog X.w) X.A (eval iter X.env) (fun v s1 => wpAny (model X.prog X.w) X.A (pyIter v) (PIE X pins σ tg R) X.xe s1) X.xe s
theorem wi {X : Cx} {tg iter : Expr} : PI X tg iter (WI X tg iter) := ⟨fun pins s _ _ _ I h => h.go pins s I⟩
theorem WI.of {X : Cx} {tg iter : Expr} {t : TI} (h : PI X tg iter t) {σ : L2.St} {H : Hp} {R : It → Hp → Prop} (q : t σ H R) : WI X tg iter σ H R := ⟨fun pins s I => h.run pins s σ H R I q⟩
/-- a walk through the items ds, wherever what is frozen stays -/
def ItF (K : PySem.W.Frag) (B : List Addr) (H0 : Hp) (J : It) (ds : List PyData) : Prop := ds.length ≤ sizeLine ∧ ∀ B' H, Ex (Fz B H0) (Fz B' H) → (∀ a ∈ B', H a ≠ none) →
  (∀ (i : Nat) d, ds[i]? = some d → J.go i H ∧ ∀ x H', J.yld i H x H' → Ex H H' ∧ Is K (Fz B' H') x d) ∧ ∀ (i : Nat), ds.length ≤ i → J.stop i H
/-- .. wherever all but the shared lists and tables stays -/
def ItC (K : PySem.W.Frag) (G B : List Addr) (H0 : Hp) (J : It) (ds : List PyData) : Prop := ds.length ≤ sizeLine ∧ ∀ B' H, Evo G H0 H → Ex (Fz B H0) (Fz B' H) → (∀ a ∈ B', H a ≠ none) →
  (∀ (i : Nat) d, ds[i]? = some d → J.go i H ∧ ∀ x H', J.yld i H x H' → Ex H H' ∧ Is K (Fz B' H') x d) ∧ ∀ (i : Nat), ds.length ≤ i → J.stop i H
abbrev DI := Env → Store → R (List PyData)
def IFo (c : Cc) (m : List Md) (tg iter : Expr) (den : DI) : Prop := ∀ σ H ρ S B0 B ow (Q : It → Hp → Prop), Frame c.X.K c.g B0 B ow m ρ σ H → GI c.X.K c.g B H S →
  Goal c B H σ (den ρ S) (fun _ H' J ds => ItF c.X.K B H' J ds) Q → WI c.X tg iter σ H Q
def ICo (c : Cc) (m : List Md) (tg iter : Expr) (den : DI) : Prop := ∀ σ H ρ S B0 B ow (Q : It → Hp → Prop), Frame c.X.K c.g B0 B ow m ρ σ H → GI c.X.K c.g B H S →
  Goal c B H σ (den ρ S) (fun _ H' J ds => ItC c.X.K c.g.G B H' J ds) Q → WI c.X tg iter σ H Q
theorem ItF.c {K : PySem.W.Frag} {g : Gx} {B : List Addr} {H0 : Hp} {J : It} {ds : List PyData} (h : ItF K B H0 J ds) (hg : ∀ a ∈ g.G, a ∈ B) : ItC K g.G B H0 J ds := ⟨h.1, fun B' H _ e kn => h.2 B' H e kn⟩
theorem IFo.c {c : Cc} {m : List Md} {tg iter : Expr} {den : DI} (h : IFo c m tg iter den) : ICo c m tg iter den := fun σ H ρ S B0 B ow Q fr gi g => h σ H ρ S B0 B ow Q fr gi (g.imp fun H' J ds S' _ gi' gd k => k J (gd.c gi'.sub))
def seqD : PyData → Option (List PyData) | .list xs => some xs | .tuple xs => some xs | .str z => if sz z.length then some (signsD z) else none | _ => none
def dIter (a : DE) : DI := fun ρ S => (a ρ S).bind fun x S1 => ofO (seqD x) S1
/-- a list, a tuple, a text by its kind -/
def lstD : PyData → Option (List PyData) | .list xs => some xs | _ => none
def tupD : PyData → Option (List PyData) | .tuple xs => some xs | _ => none
def strD : PyData → Option (List PyData) | .str z => if sz z.length then some (signsD z) else none | _ => none
def dIt (F : PyData → Option (List PyData)) (a : DE) : DI := fun ρ S => (a ρ S).bind fun x S1 => ofO (F x) S1
section
variable {c : Cc} {m : List Md} {a b : Expr} {da db : DE} {tg : Expr} {p pos : Pos}
theorem itF_list {K : PySem.W.Frag} {B : List Addr} {H : Hp} {v : V} {ds : List PyData} (h : Is K (Fz B H) v (.list ds)) : ∃ a, v = .ref a ∧ (∃ xs, SqL K H a xs) ∧ ItF K B H (Itl K a) ds := by
  cases h with
  | lst h z r =>
    rename_i a vs
    refine ⟨a, rfl, ⟨vs, .inl (.inl (fz_le _ _ h))⟩, by rw [← r.length]; exact z, fun B' H' e kn => ⟨fun i d hd => ?_, fun i hi => ⟨vs, .inl (.inl (fz_le _ _ (e _ _ h))), by rw [r.length]; exact hi⟩⟩⟩
    obtain ⟨w, hw, iw⟩ := r.get hd
    have sq : SqL K H' a vs := .inl (.inl (fz_le _ _ (e _ _ h)))
    refine ⟨⟨vs, w, sq, hw⟩, fun x H2 ⟨e2, k⟩ => ?_⟩
    subst e2
    have := k vs sq
    rw [hw] at this
    cases this
    exact ⟨Ex.refl _, iw.mono e⟩
theorem itF_tup {K : PySem.W.Frag} {B : List Addr} {H : Hp} {v : V} {ds : List PyData} (h : Is K (Fz B H) v (.tuple ds)) : ∃ a, v = .ref a ∧ (∃ xs, SqT K H a xs) ∧ ItF K B H (Itt K a) ds := by
  cases h with
  | tup h z r =>
    rename_i a vs
    refine ⟨a, rfl, ⟨vs, (fz_le (H := H)).t h⟩, by rw [← r.length]; exact z, fun B' H' e kn => ⟨fun i d hd => ?_, fun i hi => ⟨vs, (fz_le).t (e.t h), by rw [r.length]; exact hi⟩⟩⟩
    obtain ⟨w, hw, iw⟩ := r.get hd
    have sq : SqT K H' a vs := (fz_le).t (e.t h)
    refine ⟨⟨vs, w, sq, hw⟩, fun x H2 ⟨e2, k⟩ => ?_⟩
    subst e2
    have := k vs sq
    rw [hw] at this
    cases this
    exact ⟨Ex.refl _, iw.mono e⟩
theorem if_list (ha : EV c m a da) : IFo c m tg a (dIt lstD da) := by
  intro σ H ρ S B0 B ow Q fr gi g
  refine WI.of (pi_list we) (ha σ H ρ S B0 B ow _ fr gi (g.bind fun d S1 v H1 _ ev1 gi1 gd1 g1 => ?_))
  unfold lstD at g1
  split at g1
  · obtain ⟨a, rfl, ex, it⟩ := itF_list gd1
    exact ⟨a, rfl, ex, g1.ok0 gi1 it⟩
  · exact absurd rfl g1.not_bad
theorem if_tup (ha : EV c m a da) : IFo c m tg a (dIt tupD da) := by
  intro σ H ρ S B0 B ow Q fr gi g
  refine WI.of (pi_tup we) (ha σ H ρ S B0 B ow _ fr gi (g.bind fun d S1 v H1 _ ev1 gi1 gd1 g1 => ?_))
  unfold tupD at g1
  split at g1
  · obtain ⟨a, rfl, ex, it⟩ := itF_tup gd1
    exact ⟨a, rfl, ex, g1.ok0 gi1 it⟩
  · exact absurd rfl g1.not_bad
/-- a list or a tuple, whichever comes -/
def sqD : PyData → Option (List PyData) | .list xs => some xs | .tuple xs => some xs | _ => none
theorem pi_or {tg e : Expr} {X : Cx} {t1 t2 : TE → TI} (h1 : ∀ {te}, PE X e te → PI X tg e (t1 te)) (h2 : ∀ {te}, PE X e te → PI X tg e (t2 te)) {te : TE} (he : PE X e te) : PI X tg e (fun σ H R => t1 te σ H R ∨ t2 te σ H R) :=
  ⟨fun pins s σ H R I h => h.elim (fun h => (h1 he).run pins s σ H R I h) fun h => (h2 he).run pins s σ H R I h⟩
theorem if_seq (ha : EV c m a da) : IFo c m tg a (dIt sqD da) := by
  intro σ H ρ S B0 B ow Q fr gi g
  have gc : ∀ x S1, da ρ S = .ok x S1 → (∃ xs, x = .list xs) ∨ ∃ xs, x = .tuple xs := fun x S1 e => by
    have nb := g.2.2
    unfold dIt at nb
    rw [e] at nb
    cases x with
    | list xs => exact .inl ⟨xs, rfl⟩
    | tuple xs => exact .inr ⟨xs, rfl⟩
    | _ => exact absurd rfl nb
  cases e : da ρ S with
  | bad => exact absurd (by unfold dIt; rw [e]; rfl) g.2.2
  | exc x S1 =>
    refine WI.of (pi_list we) (ha σ H ρ S B0 B ow _ fr gi (g.bind fun d S1 v H1 q ev1 gi1 gd1 g1 => ?_))
    rw [e] at q; cases q
  | ok x S1 =>
    rcases gc x S1 e with ⟨xs, rfl⟩ | ⟨xs, rfl⟩
    · refine WI.of (pi_list we) (ha σ H ρ S B0 B ow _ fr gi (g.bind fun d S1 v H1 q ev1 gi1 gd1 g1 => ?_))
      rw [e] at q
      cases q
      obtain ⟨a, rfl, ex, it⟩ := itF_list gd1
      exact ⟨a, rfl, ex, g1.ok0 gi1 it⟩
    · refine WI.of (pi_tup we) (ha σ H ρ S B0 B ow _ fr gi (g.bind fun d S1 v H1 q ev1 gi1 gd1 g1 => ?_))
      rw [e] at q
      cases q
      obtain ⟨a, rfl, ex, it⟩ := itF_tup gd1
      exact ⟨a, rfl, ex, g1.ok0 gi1 it⟩
/-- a list of a slot's own, in a comprehension -/
theorem ic_list (ha : EB c m a da) : ICo c m tg a (dIt lstD da) := by
  intro σ H ρ S B0 B ow Q fr gi g
  refine WI.of (pi_list we) (ha σ H ρ S B0 B ow _ fr gi (g.bind (G1 := fun _ H' v d => Is c.X.K (Fz B H') v d ∨ ∃ p, v = .ref p ∧ p ∉ c.g.G ∧ Top c.X.K B H' p d) fun d S1 v H1 _ ev1 gi1 gd1 g1 => ?_))
  unfold lstD at g1
  split at g1
  · obtain ⟨a, vs, rfl, r, st, z⟩ := Rb.lst gd1 gi1.sub
    refine ⟨a, rfl, ⟨vs, .inl (.inl (st H1 (Evo.refl _ _)))⟩, g1.ok0 gi1 ⟨by rw [← r.length]; exact z, fun B' H' e e' kn => ⟨fun i d hd => ?_, fun i hi => ⟨vs, .inl (.inl (st H' e)), by rw [r.length]; exact hi⟩⟩⟩⟩
    obtain ⟨w, hw, iw⟩ := r.get hd
    have sq : SqL c.X.K H' a vs := .inl (.inl (st H' e))
    refine ⟨⟨vs, w, sq, hw⟩, fun x H2 ⟨e2, k⟩ => ?_⟩
    subst e2
    have := k vs sq
    rw [hw] at this
    cases this
    exact ⟨Ex.refl _, iw.mono e'⟩
  · exact absurd rfl g1.not_bad
/-! range -/
def rngD (lo : Int) (n : Nat) : List PyData := (List.range n).map fun i => .int (lo + (i : Nat))
def cR (i : Int) : Bool := decide (-(2 ^ 62) ≤ i ∧ i < 2 ^ 62)
def dRng1 (a : DE) : DI := fun ρ S => (a ρ S).bind fun x S1 => match x with | .int j => if cR j && sz j.toNat then .ok (rngD 0 j.toNat) S1 else .bad | _ => .bad
def dRng2 (a b : DE) : DI := fun ρ S => (a ρ S).bind fun x S1 => (b ρ S1).bind fun y S2 => match x, y with | .int i, .int j => if cR i && cR j && sz (j - i).toNat then .ok (rngD i (j - i).toNat) S2 else .bad | _, _ => .bad
theorem itF_rng {K : PySem.W.Frag} {B : List Addr} {H : Hp} {lo : Int} {n : Nat} (hz : n ≤ sizeLine) : ItF K B H (Itr lo n) (rngD lo n) := by
  have el : (rngD lo n).length = n := by unfold rngD; rw [List.length_map, List.length_range]
  refine ⟨by rw [el]; exact hz, fun B' H' e kn => ⟨fun i d hd => ?_, fun i hi => by rw [el] at hi; exact hi⟩⟩
  have hi : i < n := by rw [← el]; exact (List.getElem?_eq_some_iff.mp hd).1
  refine ⟨hi, fun x H2 ⟨e2, k⟩ => ?_⟩
  subst e2 k
  unfold rngD at hd
  rw [List.getElem?_map, List.getElem?_range hi] at hd
  cases hd
  exact ⟨Ex.refl _, .int _⟩
theorem if_rng1 (hg : Gl c.X "range") (hm : c.X.mg "range" = none) (ha : EV c m a da) (hs : Pl a := by intro _ _; rfl) : IFo c m tg (.Call (.Name "range" p) [a] [] pos) (dRng1 da) := by
  intro σ H ρ S B0 B ow Q fr gi g
  refine WI.of (pi_range1 hg hm (pa_cons we pa_nil (hs _ _)) (hs _ _)) (ha σ H ρ S B0 B ow _ fr gi (g.bind fun d S1 v H1 _ ev1 gi1 gd1 g1 => ?_))
  cases gd1 with
  | int j =>
    simp only at g1
    split at g1
    · rename_i hc
      rw [Bool.and_eq_true] at hc
      have h1 := of_decide_eq_true hc.1
      exact ⟨j, rfl, h1.1, h1.2, g1.ok0 gi1 (itF_rng (sz_le hc.2))⟩
    · exact absurd rfl g1.not_bad
  | _ => exact absurd rfl g1.not_bad
theorem if_rng2 (hg : Gl c.X "range") (hm : c.X.mg "range" = none) (ha : EV c m a da) (hb : EV c m b db) (hs : Pl a := by intro _ _; rfl) (hs2 : Pl b := by intro _ _; rfl) : IFo c m tg (.Call (.Name "range" p) [a, b] [] pos) (dRng2 da db) := by
  intro σ H ρ S B0 B ow Q fr gi g
  refine WI.of (pi_range2 hg hm (pa_cons we (pa_cons we pa_nil (hs2 _ _)) (hs _ _)) (by rw [hs _ _, hs2 _ _]; rfl) (by rw [hs2 _ _]; rfl)) (ha σ H ρ S B0 B ow _ fr gi (g.bind fun d S1 v H1 _ ev1 gi1 gd1 g1 => ?_))
  refine hb σ H1 ρ S1 B0 B ow _ (fr.evo ev1) gi1 (g1.bind fun d2 S2 v2 H2 _ ev2 gi2 gd2 g2 => ?_)
  cases gd1 with
  | int i =>
    cases gd2 with
    | int j =>
      simp only at g2
      split at g2
      · rename_i hc
        rw [Bool.and_eq_true, Bool.and_eq_true] at hc
        have h1 := of_decide_eq_true hc.1.1
        have h2 := of_decide_eq_true hc.1.2
        exact ⟨i, j, rfl, ⟨h1.1, h1.2, h2.1, h2.2⟩, g2.ok0 gi2 (itF_rng (sz_le hc.2))⟩
      · exact absurd rfl g2.not_bad
    | _ => exact absurd rfl g2.not_bad
  | _ => exact absurd rfl g2.not_bad
end
end PD
/-! PDh: zip, enumerate, texts walked; list comprehensions. -/
namespace PD
open PySem PySem.Spec PyProof.Rows L2
section
variable {c : Cc} {m : List Md} {a b : Expr} {da db : DE} {tg : Expr} {p pos tpos : Pos} {elts : List Expr} {kk : Nat}
def zipD : List PyData → List PyData → List PyData
  | x :: xs, y :: ys => .tuple [x, y] :: zipD xs ys
  | _, _ => []
theorem zipD_len : ∀ xs ys : List PyData, (zipD xs ys).length = min xs.length ys.length
  | [], ys => by simp [zipD]
  | x :: xs, [] => by simp [zipD]
  | x :: xs, y :: ys => by simp [zipD, zipD_len xs ys]
theorem zipD_get : ∀ (xs ys : List PyData) (i : Nat) (d : PyData), (zipD xs ys)[i]? = some d → ∃ x y, xs[i]? = some x ∧ ys[i]? = some y ∧ d = .tuple [x, y]
  | [], ys, i, d, h => by simp [zipD] at h
  | x :: xs, [], i, d, h => by simp [zipD] at h
  | x :: xs, y :: ys, 0, d, h => by simp [zipD] at h; exact ⟨x, y, rfl, rfl, h.symm⟩
  | x :: xs, y :: ys, i + 1, d, h => by
    simp only [zipD, List.getElem?_cons_succ] at h
    obtain ⟨u, w, h1, h2, h3⟩ := zipD_get xs ys i d h
    exact ⟨u, w, by simpa using h1, by simpa using h2, h3⟩
def fZip : PyData → PyData → Option (List PyData)
  | .list xs, .list ys => some (zipD xs ys)
  | .tuple xs, .tuple ys => some (zipD xs ys)
  | _, _ => none
def dIt2 (F : PyData → PyData → Option (List PyData)) (a b : DE) : DI := fun ρ S => (a ρ S).bind fun x S1 => (b ρ S1).bind fun y S2 => ofO (F x y) S2
theorem pair_is {K : PySem.W.Frag} {B : List Addr} {H : Hp} {T : Addr} {v w : V} {x y : PyData} (kn : ∀ a ∈ B, H a ≠ none) (hT : H T = none) (h1 : Is K (Fz B H) v x) (h2 : Is K (Fz B H) w y) : Is K (Fz B (upd H T (.tup [v, w]))) (.ref T) (.tuple [x, y]) :=
  is_newT kn hT (by show 2 ≤ sizeLine; decide) (.cons h1 (.cons h2 .nil))
theorem if_zip (hg : Gl c.X "zip") (hm : c.X.mg "zip" = none) (ha : EV c m a da) (hb : EV c m b db) (hs : Pl a := by intro _ _; rfl) (hs2 : Pl b := by intro _ _; rfl) : IFo c m (.Tuple elts kk tpos) (.Call (.Name "zip" p) [a, b] [] pos) (dIt2 fZip da db) := by
  intro σ H ρ S B0 B ow Q fr gi g
  refine WI.of (RZ.pi_zipA hg hm (pa_cons we (pa_cons we pa_nil (hs2 _ _)) (hs _ _)) (hs _ _) (by rw [hs2 _ _]; rfl)) (ha σ H ρ S B0 B ow _ fr gi (g.bind fun d S1 v H1 _ ev1 gi1 gd1 g1 => ?_))
  refine hb σ H1 ρ S1 B0 B ow _ (fr.evo ev1) gi1 (g1.bind fun d2 S2 v2 H2 _ ev2 gi2 gd2 g2 => ?_)
  have gd1 := gd1.mono (ev2.fz gi2.sub)
  unfold fZip at g2
  split at g2
  · cases gd1 with
    | lst h1 z1 r1 =>
      rename_i a1 vs
      cases gd2 with
      | lst h2 z2 r2 =>
        rename_i a2 ws
        refine ⟨a1, a2, vs, ws, rfl, .inl ⟨.inl (.inl (fz_le _ _ h1)), .inl (.inl (fz_le _ _ h2)), g2.ok0 gi2 ⟨by rw [zipD_len, ← r1.length]; omega, fun B' H' e kn => ⟨fun i d hd => ?_, fun i hi => ?_⟩⟩⟩⟩
        · obtain ⟨x, y, e1, e2, rfl⟩ := zipD_get _ _ _ _ hd
          obtain ⟨v, hv, iv⟩ := r1.get e1
          obtain ⟨w, hw, iw⟩ := r2.get e2
          have s1 : SqL c.X.K H' a1 vs := .inl (.inl (fz_le _ _ (e _ _ h1)))
          have s2 : SqL c.X.K H' a2 ws := .inl (.inl (fz_le _ _ (e _ _ h2)))
          refine ⟨⟨vs, ws, v, w, s1, s2, hv, hw⟩, fun q H3 ⟨T, x', y', e3, hT, e4, k1, k2⟩ => ?_⟩
          subst e3 e4
          have q1 := k1 vs s1
          have q2 := k2 ws s2
          rw [hv] at q1
          rw [hw] at q2
          cases q1
          cases q2
          exact ⟨Ex.new hT, pair_is kn hT (iv.mono e) (iw.mono e)⟩
        · rw [zipD_len, ← r1.length, ← r2.length] at hi
          exact ⟨vs, ws, .inl (.inl (fz_le _ _ (e _ _ h1))), .inl (.inl (fz_le _ _ (e _ _ h2))), by omega⟩
  · cases gd1 with
    | tup h1 z1 r1 =>
      rename_i a1 vs
      cases gd2 with
      | tup h2 z2 r2 =>
        rename_i a2 ws
        refine ⟨a1, a2, vs, ws, rfl, .inr ⟨fz_le.t h1, fz_le.t h2, g2.ok0 gi2 ⟨by rw [zipD_len, ← r1.length]; omega, fun B' H' e kn => ⟨fun i d hd => ?_, fun i hi => ?_⟩⟩⟩⟩
        · obtain ⟨x, y, e1, e2, rfl⟩ := zipD_get _ _ _ _ hd
          obtain ⟨v, hv, iv⟩ := r1.get e1
          obtain ⟨w, hw, iw⟩ := r2.get e2
          have s1 : SqT c.X.K H' a1 vs := fz_le.t (e.t h1)
          have s2 : SqT c.X.K H' a2 ws := fz_le.t (e.t h2)
          refine ⟨⟨vs, ws, v, w, s1, s2, hv, hw⟩, fun q H3 ⟨T, x', y', e3, hT, e4, k1, k2⟩ => ?_⟩
          subst e3 e4
          have q1 := k1 vs s1
          have q2 := k2 ws s2
          rw [hv] at q1
          rw [hw] at q2
          cases q1
          cases q2
          exact ⟨Ex.new hT, pair_is kn hT (iv.mono e) (iw.mono e)⟩
        · rw [zipD_len, ← r1.length, ← r2.length] at hi
          exact ⟨vs, ws, fz_le.t (e.t h1), fz_le.t (e.t h2), by omega⟩
  · exact absurd rfl g2.not_bad
/-! enumerate of a list -/
def enumD (k : Int) : List PyData → List PyData
  | [] => []
  | x :: xs => .tuple [.int k, x] :: enumD (k + 1) xs
theorem enumD_len : ∀ (k : Int) (xs : List PyData), (enumD k xs).length = xs.length
  | _, [] => rfl
  | k, x :: xs => by simp [enumD, enumD_len (k + 1) xs]
theorem enumD_get : ∀ (k : Int) (xs : List PyData) (i : Nat) (d : PyData), (enumD k xs)[i]? = some d → ∃ x, xs[i]? = some x ∧ d = .tuple [.int (k + i), x]
  | k, [], i, d, h => by simp [enumD] at h
  | k, x :: xs, 0, d, h => by simp [enumD] at h; exact ⟨x, rfl, by rw [← h]; simp⟩
  | k, x :: xs, i + 1, d, h => by
    simp only [enumD, List.getElem?_cons_succ] at h
    obtain ⟨y, h1, h2⟩ := enumD_get (k + 1) xs i d h
    exact ⟨y, by simpa using h1, by rw [h2]; congr 3; push_cast; omega⟩
def fEnumL : PyData → Option (List PyData) | .list xs => some (enumD 0 xs) | _ => none
theorem if_enumL (hg : Gl c.X "enumerate") (hm : c.X.mg "enumerate" = none) (ha : EV c m a da) (hs : Pl a := by intro _ _; rfl) : IFo c m (.Tuple elts kk tpos) (.Call (.Name "enumerate" p) [a] [] pos) (dIt fEnumL da) := by
  intro σ H ρ S B0 B ow Q fr gi g
  refine WI.of (pi_enum hg hm (pa_cons we pa_nil (hs _ _)) (hs _ _)) (ha σ H ρ S B0 B ow _ fr gi (g.bind fun d S1 v H1 _ ev1 gi1 gd1 g1 => ?_))
  unfold fEnumL at g1
  split at g1
  · cases gd1 with
    | lst h1 z1 r1 =>
      rename_i a1 vs
      refine ⟨a1, vs, rfl, .inl (.inl (fz_le _ _ h1)), g1.ok0 gi1 ⟨by rw [enumD_len, ← r1.length]; exact z1, fun B' H' e kn => ⟨fun i d hd => ?_, fun i hi => ?_⟩⟩⟩
      · obtain ⟨x, e1, rfl⟩ := enumD_get _ _ _ _ hd
        obtain ⟨v, hv, iv⟩ := r1.get e1
        have s1 : SqL c.X.K H' a1 vs := .inl (.inl (fz_le _ _ (e _ _ h1)))
        refine ⟨⟨vs, v, s1, hv⟩, fun q H3 ⟨T, x', e3, hT, e4, k1⟩ => ?_⟩
        subst e3 e4
        have q1 := k1 vs s1
        rw [hv] at q1
        cases q1
        rw [Int.zero_add]
        exact ⟨Ex.new hT, pair_is kn hT (.int _) (iv.mono e)⟩
      · rw [enumD_len, ← r1.length] at hi
        exact ⟨vs, .inl (.inl (fz_le _ _ (e _ _ h1))), hi⟩
  · exact absurd rfl g1.not_bad
theorem if_str (ha : EV c m a da) : IFo c m tg a (dIt strD da) := by
  intro σ H ρ S B0 B ow Q fr gi g
  refine WI.of (pi_str we) (ha σ H ρ S B0 B ow _ fr gi (g.bind fun d S1 v H1 _ ev1 gi1 gd1 g1 => ?_))
  unfold strD at g1
  split at g1
  · rename_i z _
    split at g1
    · rename_i hz
      cases gd1
      have el : (signsD z).length = z.cps.size := by unfold signsD; rw [List.length_map, Array.length_toList]
      refine ⟨z, rfl, g1.ok0 gi1 ⟨by rw [el]; exact sz_le hz, fun B' H' e kn => ⟨fun i d hd => ?_, fun i hi => by rw [el] at hi; exact hi⟩⟩⟩
      have hi : i < z.cps.size := by rw [← el]; exact (List.getElem?_eq_some_iff.mp hd).1
      refine ⟨hi, fun x H2 ⟨e2, cc, h1, h2⟩ => ?_⟩
      subst e2 h2
      unfold signsD at hd
      rw [List.getElem?_map, Array.getElem?_toList, h1] at hd
      cases hd
      exact ⟨Ex.refl _, .str _⟩
    · exact absurd rfl g1.not_bad
  · exact absurd rfl g1.not_bad
end
/-! ### targets -/
inductive Tg where
  | nm (i : Nat)
  | tup (is : List Nat)
def setAll (ρ : Env) : List Nat → List PyData → Option Env
  | [], [] => some ρ
  | i :: is, d :: ds => setAll (ρ.set i (some d)) is ds
  | _, _ => none
def Tg.bind (t : Tg) (d : PyData) (ρ : Env) : Option Env := match t with
  | .nm i => some (ρ.set i (some d))
  | .tup is => match d with
    | .tuple ds => setAll ρ is ds
    | _ => none
def Tg.slots : Tg → List Nat | .nm i => [i] | .tup is => is
def setMd (m : List Md) (is : List Nat) (k : Md) : List Md := is.foldl (fun m i => m.set i k) m
/-- what a target does -/
def TgOk (X : Cx) (t : Tg) (tg : Expr) : Prop := match t with
  | .nm i => PG X tg (gName i)
  | .tup is => PG X tg (gTup X.K is.length (is.foldr (fun i u => gCons (gName i) u) gNil))
section
variable {K : PySem.W.Frag} {g : Gx} {B0 B : List Addr} {ow : Addr → Nat} {m : List Md} {ρ : Env} {σ : L2.St} {H : Hp}
theorem getD_set {α : Type} {l : List (Option α)} {i j : Nat} {x : Option α} (hi : i < l.length) : (l.set i x).getD j none = if i = j then x else l.getD j none := by
  rw [List.getD_eq_getElem?_getD, List.getD_eq_getElem?_getD]
  by_cases h : i = j
  · subst h
    rw [if_pos rfl, List.getElem?_set_self hi]
    rfl
  · rw [if_neg h, List.getElem?_set_ne h]
/-- a slot takes a frozen value -/
theorem Frame.put (f : Frame K g B0 B ow m ρ σ H) {i : Nat} {v : V} {d : PyData} (hi : i < m.length) (h : Is K (Fz B H) v d) : Frame K g B0 B ow (m.set i .fz) (ρ.set i (some d)) (σ.set i (some v)) H := by
  have hρ : i < ρ.length := by rw [← f.lm]; exact hi
  have hσ : i < σ.length := by rw [f.ls]; exact hρ
  refine ⟨by simp [f.lm], by simp [f.ls], f.sub, f.gsub, fun j md hj => ?_⟩
  rw [getD_set hρ, getD_set hσ]
  by_cases e : i = j
  · subst e
    rw [List.getElem?_set_self hi] at hj
    cases hj
    rw [if_pos rfl, if_pos rfl]
    exact fun d' e => ⟨v, rfl, by cases e; exact h⟩
  · rw [List.getElem?_set_ne e] at hj
    rw [if_neg e, if_neg e]
    exact f.slot j md hj
/-- a slot is forgotten -/
theorem Frame.drop (f : Frame K g B0 B ow m ρ σ H) {i : Nat} {x : Option V} {y : Option PyData} (hi : i < m.length) : Frame K g B0 B ow (m.set i .un) (ρ.set i y) (σ.set i x) H := by
  have hρ : i < ρ.length := by rw [← f.lm]; exact hi
  have hσ : i < σ.length := by rw [f.ls]; exact hρ
  refine ⟨by simp [f.lm], by simp [f.ls], f.sub, f.gsub, fun j md hj => ?_⟩
  rw [getD_set hρ, getD_set hσ]
  by_cases e : i = j
  · subst e
    rw [List.getElem?_set_self hi] at hj
    cases hj
    trivial
  · rw [List.getElem?_set_ne e] at hj
    rw [if_neg e, if_neg e]
    exact f.slot j md hj
theorem Frame.unk (f : Frame K g B0 B ow m ρ σ H) {i : Nat} {x : Option V} (hi : i < m.length) : Frame K g B0 B ow (m.set i .un) ρ (σ.set i x) H := by
  have hρ : i < ρ.length := by rw [← f.lm]; exact hi
  have hσ : i < σ.length := by rw [f.ls]; exact hρ
  refine ⟨by simp [f.lm], by simp [f.ls], f.sub, f.gsub, fun j md hj => ?_⟩
  rw [getD_set hσ]
  by_cases e : i = j
  · subst e
    rw [List.getElem?_set_self hi] at hj
    cases hj
    trivial
  · rw [List.getElem?_set_ne e] at hj
    rw [if_neg e]
    exact f.slot j md hj
theorem Frame.wipe (f : Frame K g B0 B ow m ρ σ H) : ∀ (vs : List Nat), (∀ i ∈ vs, i < m.length) → Frame K g B0 B ow (vs.foldr (fun i m => m.set i .un) m) ρ (L2.wipe σ vs) H
  | [], _ => f
  | v :: vs, h => by
    have ih := Frame.wipe f vs fun i hi => h i (List.mem_cons_of_mem _ hi)
    refine ih.unk ?_
    rw [ih.lm, ← f.lm]
    exact h v (List.mem_cons_self ..)
theorem setMd_len : ∀ (is : List Nat) (m : List Md) (k : Md), (setMd m is k).length = m.length
  | [], m, k => rfl
  | i :: is, m, k => by
    show (setMd (m.set i k) is k).length = _
    rw [setMd_len is, List.length_set]
theorem put_all : ∀ (is : List Nat) {m : List Md} {ρ : Env} {σ : L2.St} {vs : List V} {ds : List PyData} {ρ' : Env} {Q : L2.St → Hp → Prop}, Frame K g B0 B ow m ρ σ H → (∀ i ∈ is, i < m.length) → IsAll K (Fz B H) vs ds → setAll ρ is ds = some ρ' →
    (∀ σ', Frame K g B0 B ow (setMd m is .fz) ρ' σ' H → (∃ ws : List V, ws.length = is.length ∧ σ' = (is.zip ws).foldl (fun s p => s.set p.1 (some p.2)) σ) → Q σ' H) → (is.foldr (fun i u => gCons (gName i) u) gNil) vs σ H Q
  | [], m, ρ, σ, vs, ds, ρ', Q, f, _, h, e, k => by
    cases ds with
    | nil =>
      cases h
      cases e
      exact ⟨rfl, k σ f ⟨[], rfl, rfl⟩⟩
    | cons d ds => cases e
  | i :: is, m, ρ, σ, vs, ds, ρ', Q, f, hi, h, e, k => by
    cases ds with
    | nil => cases e
    | cons d ds =>
      cases h with
      | cons h1 h2 =>
        rename_i v vs
        refine ⟨v, vs, rfl, ?_⟩
        refine put_all is (f.put (hi i (List.mem_cons_self ..)) h1) (fun j hj => by rw [List.length_set]; exact hi j (List.mem_cons_of_mem _ hj)) h2 e fun σ' f' ⟨ws, hw, e'⟩ => k σ' f' ⟨v :: ws, by simp [hw], by rw [e']; rfl⟩
end
theorem Tg.put {X : Cx} {t : Tg} {tg : Expr} {K : PySem.W.Frag} {g : Gx} {B0 B : List Addr} {ow : Addr → Nat} {m : List Md} {ρ ρ' : Env} {σ : L2.St} {H : Hp} {v : V} {d : PyData} {Q : L2.St → Hp → Prop} (hK : X.K = K) (f : Frame K g B0 B ow m ρ σ H) (hi : ∀ i ∈ t.slots, i < m.length) (h : Is K (Fz B H) v d) (e : t.bind d ρ = some ρ')
    (k : ∀ σ', Frame K g B0 B ow (setMd m t.slots .fz) ρ' σ' H → (∃ ws : List V, ws.length = t.slots.length ∧ σ' = (t.slots.zip ws).foldl (fun s p => s.set p.1 (some p.2)) σ) → Q σ' H) :
    (match t with | .nm i => gName i | .tup is => gTup X.K is.length (is.foldr (fun i u => gCons (gName i) u) gNil)) v σ H Q := by
  subst hK
  cases t with
  | nm i =>
    cases e
    exact k _ (f.put (hi i (List.mem_cons_self ..)) h) ⟨[v], rfl, rfl⟩
  | tup is =>
    cases d with
    | tuple ds =>
      cases h with
      | tup h1 z r =>
        rename_i a vs
        have hl : ds.length = is.length := by
          clear k hi f r h1 z
          unfold Tg.bind at e
          simp only at e
          induction is generalizing ρ ds with
          | nil => cases ds with
            | nil => rfl
            | cons _ _ => cases e
          | cons i is ih => cases ds with
            | nil => cases e
            | cons d ds => simp [ih (ρ := ρ.set i (some d)) (ds := ds) e]
        exact ⟨a, vs, rfl, fz_le.t h1, by rw [r.length, hl], put_all is f hi r e k⟩
    | _ => cases e
end PD
/-! PDi: list comprehensions. -/
namespace PD
open PySem PySem.Spec PyProof.Rows L2
theorem wipe_in {σ : L2.St} {i : Nat} : ∀ {vs : List Nat}, i ∈ vs → (L2.wipe σ vs)[i]? = if i < σ.length then some none else none
  | [], h => by simp at h
  | v :: vs, h => by
    unfold L2.wipe
    by_cases e : v = i
    · subst e
      by_cases hv : v < σ.length
      · rw [if_pos hv, List.getElem?_set_self (by rw [wipe_length]; exact hv)]
      · rw [if_neg hv, List.getElem?_eq_none (by rw [List.length_set, wipe_length]; omega)]
    · rw [List.getElem?_set_ne e]
      exact wipe_in ((List.mem_cons.mp h).resolve_left (Ne.symm e))
theorem wipe_eq {σ τ : L2.St} {vs : List Nat} (hl : τ.length = σ.length) (h : ∀ i, i ∉ vs → τ[i]? = σ[i]?) : L2.wipe τ vs = L2.wipe σ vs := by
  apply List.ext_getElem?
  intro i
  by_cases hi : i ∈ vs
  · rw [wipe_in hi, wipe_in hi, hl]
  · rw [L2.wipe_out hi, L2.wipe_out hi, h i hi]
theorem fold_set_out : ∀ (ps : List (Nat × V)) (σ : L2.St) {i : Nat}, (∀ p ∈ ps, p.1 ≠ i) → (ps.foldl (fun s p => s.set p.1 (some p.2)) σ)[i]? = σ[i]?
  | [], σ, i, _ => rfl
  | p :: ps, σ, i, h => by
    show (ps.foldl _ (σ.set p.1 (some p.2)))[i]? = _
    rw [fold_set_out ps _ fun q hq => h q (List.mem_cons_of_mem _ hq), List.getElem?_set_ne (h p (List.mem_cons_self ..))]
theorem fold_set_len : ∀ (ps : List (Nat × V)) (σ : L2.St), (ps.foldl (fun s p => s.set p.1 (some p.2)) σ).length = σ.length
  | [], σ => rfl
  | p :: ps, σ => by
    show (ps.foldl _ (σ.set p.1 (some p.2))).length = _
    rw [fold_set_len ps, List.length_set]
theorem wipe_put {σ : L2.St} {vs is : List Nat} {ws : List V} (h : ∀ i ∈ is, i ∈ vs) : L2.wipe ((is.zip ws).foldl (fun s p => s.set p.1 (some p.2)) (L2.wipe σ vs)) vs = L2.wipe σ vs := by
  refine (wipe_eq (σ := L2.wipe σ vs) (by rw [fold_set_len]) fun i hi => fold_set_out _ _ fun p hp e => hi (by rw [← e]; exact h _ (List.of_mem_zip hp).1)).trans ?_
  exact wipe_eq (wipe_length _ _) fun i hi => L2.wipe_out hi
def compL (t : Tg) (tt : DT) (de : DE) (ρ : Env) : List PyData → List PyData → Store → R PyData
  | acc, [], S => .ok (.list acc) S
  | acc, d :: ds, S => match t.bind d ρ with
    | none => .bad
    | some ρ1 => (tt ρ1 S).calm.bind fun b S1 => if b = true then (de ρ1 S1).calm.bind fun x S2 => compL t tt de ρ (acc ++ [x]) ds S2 else compL t tt de ρ acc ds S1
theorem compL_nil (t : Tg) (tt : DT) (de : DE) (ρ : Env) (acc : List PyData) (S : Store) : compL t tt de ρ acc [] S = .ok (.list acc) S := rfl
theorem compL_cons (t : Tg) (tt : DT) (de : DE) (ρ : Env) (acc : List PyData) (d : PyData) (ds : List PyData) (S : Store) : compL t tt de ρ acc (d :: ds) S = match t.bind d ρ with
    | none => .bad
    | some ρ1 => (tt ρ1 S).calm.bind fun b S1 => if b = true then (de ρ1 S1).calm.bind fun x S2 => compL t tt de ρ (acc ++ [x]) ds S2 else compL t tt de ρ acc ds S1 := rfl
def dComp (di : DI) (t : Tg) (tt : DT) (de : DE) : DE := fun ρ S => (di ρ S).bind fun ds S1 => compL t tt de ρ [] ds S1
def dYes : DT := fun _ S => .ok true S
def blkM (m : List Md) (vs : List Nat) : List Md := vs.foldr (fun i m => m.set i .un) m
theorem blkM_len : ∀ (m : List Md) (vs : List Nat), (blkM m vs).length = m.length
  | m, [] => rfl
  | m, v :: vs => by
    show ((blkM m vs).set v .un).length = _
    rw [List.length_set, blkM_len]
/-- the contexts of a block -/
abbrev Cc.in (c : Cc) (scope : Scope) (s : Shared) (H : Hp) (C : Addr) (cl : List (Str × Addr)) (fp : List Addr) : Cc := ⟨c.g, c.X.blk s H scope (compEnvC scope cl C c.X.env) fp, fun _ _ _ _ => False⟩
/-- a list under construction stands at D -/
theorem Frame.under {K : PySem.W.Frag} {g : Gx} {B0 B : List Addr} {ow : Addr → Nat} {m : List Md} {ρ : Env} {σ : L2.St} {H H' : Hp} {D : Addr} (f : Frame K g B0 B ow m ρ σ H) (e : Ex (Fz B H) (Fz (D :: B) H')) (ev : Evo g.G H H') : Frame K g B0 (D :: B) ow m ρ σ H' :=
  ⟨f.lm, f.ls, fun a h => List.mem_cons_of_mem _ (f.sub a h), f.gsub, fun i md h => (f.slot i md h).step e (fun a h => List.mem_cons_of_mem _ h.1) fun a o h q => ev a o (fun z => h.2.1 (f.gsub a z)) q⟩
theorem GI.under {K : PySem.W.Frag} {g : Gx} {B : List Addr} {H : Hp} {S : Store} {D : Addr} {o : HO} (i : GI K g B H S) (hD : H D = none) : GI K g (D :: B) (upd H D o) S := by
  have e : Ex (Fz B H) (Fz (D :: B) (upd H D o)) := fun a u q => by
    have q := fz_some.mp q
    have ne : a ≠ D := ne_of_none q.2 hD
    exact fz_some.mpr ⟨fun z => (List.mem_cons.mp z).elim ne q.1, (Ex.new hD) a u q.2⟩
  refine ⟨Paired.imp i.st fun p xs ⟨vs, a, z, b⟩ => ⟨vs, (Ex.new hD) _ _ a, z, b.mono e⟩, i.tabs.ext (Ex.new hD), fun a ha => List.mem_cons_of_mem _ (i.sub a ha), fun a ha => ?_, i.nd, fun l hl => ⟨(Ex.new hD) _ _ (i.cd l hl).1, (i.cd l hl).2.trans e⟩⟩
  rcases List.mem_cons.mp ha with rfl | ha
  · rw [upd_same]; intro z; cases z
  · intro z
    exact i.kn a ha ((Ex.new hD).free z)
theorem fz_upd {B : List Addr} {H : Hp} {D : Addr} {o : HO} (h : D ∈ B) : Fz B (upd H D o) = Fz B H := by
  funext a
  unfold Fz
  by_cases e : a = D
  · subst e; rw [if_pos h, if_pos h]
  · rw [upd_ne e]
/-- the list under construction grows -/
theorem GI.grow {K : PySem.W.Frag} {g : Gx} {B : List Addr} {H : Hp} {S : Store} {D : Addr} {o : HO} (i : GI K g B H S) (hD : D ∈ B) (hG : D ∉ g.G) (hl : ∀ q, H D ≠ some (LamX.CodeO D q)) : GI K g B (upd H D o) S := by
  have hs : ∀ p, p ∈ g.G → p ≠ D := fun p hp e => hG (e ▸ hp)
  refine ⟨?_, ?_, i.sub, fun a ha => ?_, i.nd, fun l hl' => ⟨?_, by rw [fz_upd hD]; exact (i.cd l hl').2⟩⟩
  rotate_left 3
  · by_cases e : l.cc = D
    · exact absurd (e ▸ (i.cd l hl').1) (hl _)
    · rw [upd_ne e]; exact (i.cd l hl').1
  · have aux : ∀ {l₁ : List Addr} {l₂ : Store}, (∀ p ∈ l₁, p ∈ g.G) → Paired (fun (p : Addr) (xs : List PyData) => ∃ vs, H p = some (.lst vs) ∧ vs.length ≤ sizeLine ∧ IsAll K (Fz B H) vs xs) l₁ l₂ →
        Paired (fun (p : Addr) (xs : List PyData) => ∃ vs, upd H D o p = some (.lst vs) ∧ vs.length ≤ sizeLine ∧ IsAll K (Fz B (upd H D o)) vs xs) l₁ l₂ := by
      intro l₁ l₂ hm h
      induction h with
      | nil => exact .nil
      | cons r t ih =>
        obtain ⟨vs, a, z, b⟩ := r
        refine .cons ⟨vs, by rw [upd_ne (hs _ (hm _ (List.mem_cons_self ..)))]; exact a, z, by rw [fz_upd hD]; exact b⟩ (ih fun p hp => hm p (List.mem_cons_of_mem _ hp))
    exact aux (fun p hp => List.mem_append_left _ hp) i.st
  · intro p hp
    have hpG : p.1 ∈ g.G := List.mem_append_right _ (List.mem_map.mpr ⟨p, hp, rfl⟩)
    obtain ⟨ps, h1, h2, h3⟩ := i.tabs p hp
    refine ⟨ps, by rw [upd_ne (hs _ hpG)]; exact h1, h2, fun pos cv hc => ?_⟩
    obtain ⟨cc, e1, e2⟩ := h3 pos cv hc
    refine ⟨cc, e1, ?_⟩
    by_cases ec : cc = D
    · rw [ec] at e2
      exact absurd e2 (hl _)
    · rw [upd_ne ec]; exact e2
  · by_cases e : a = D
    · subst e; rw [upd_same]; intro z; cases z
    · rw [upd_ne e]; exact i.kn a ha
theorem lst_code {H : Hp} {D : Addr} {vs : List V} (h : H D = some (.lst vs)) (q : Str) : H D ≠ some (LamX.CodeO D q) := fun z => by
  rw [h] at z
  unfold LamX.CodeO at z
  cases z
section
variable {c : Cc} {m : List Md} {elt tg iter : Expr} {ifs : List Expr} {scope : Scope} {own : List (Str × Nat)} {pos : Pos} {di : DI} {t : Tg} {tt : DT} {de : DE}
/-- the target's reading -/
def gT (K : PySem.W.Frag) (t : Tg) : TG := match t with | .nm i => gName i | .tup is => gTup K is.length (is.foldr (fun i u => gCons (gName i) u) gNil)
theorem comp_read (hi : ICo c m tg iter di) (hsub : ∀ i ∈ t.slots, i ∈ own.map (·.2)) (hlen : ∀ i ∈ own.map (·.2), i < m.length)
    {ttw : TT} {tew : TE}
    (ht : ∀ {σ H ρ S B0 B ow Q}, Frame c.X.K c.g B0 B ow (setMd (blkM m (own.map (·.2))) t.slots .fz) ρ σ H → GI c.X.K c.g B H S → (∀ d S' v H', tt ρ S = .ok d S' → Evo c.g.G H H' → GI c.X.K c.g B H' S' → v = d → Q v H') → tt ρ S ≠ .bad → (∀ x S', tt ρ S ≠ .exc x S') → ttw σ H Q)
    (he : ∀ {σ H ρ S B0 B ow Q}, Frame c.X.K c.g B0 B ow (setMd (blkM m (own.map (·.2))) t.slots .fz) ρ σ H → GI c.X.K c.g B H S → (∀ d S' v H', de ρ S = .ok d S' → Evo c.g.G H H' → GI c.X.K c.g B H' S' → Is c.X.K (Fz B H') v d → Q v H') → de ρ S ≠ .bad → (∀ x S', de ρ S ≠ .exc x S') → tew σ H Q)
    {σ : L2.St} {H : Hp} {ρ : Env} {S : Store} {B0 B : List Addr} {ow : Addr → Nat} {Q : VK} (fr : Frame c.X.K c.g B0 B ow m ρ σ H) (gi : GI c.X.K c.g B H S)
    (g : Goal c B H σ (dComp di t tt de ρ S) (fun S' H' v d => ∃ p, v = .ref p ∧ H p = none ∧ Top c.X.K (p :: B) H' p d ∧ GI c.X.K c.g (p :: B) H' S') Q) : tLc (WI c.X tg iter) (gT c.X.K t) ttw tew (own.map (·.2)) σ H Q := by
  refine hi σ H ρ S B0 B ow _ fr gi (g.bind (G1 := fun _ H' J ds => ItC c.X.K c.g.G B H' J ds) fun ds S1 J H1 _ ev1 gi1 it g1 => ?_)
  intro D hD
  have nG : D ∉ c.g.G := fun z => gi1.kn D (gi1.sub D z) hD
  have nB : D ∉ B := new_notin gi1.kn hD
  -- what holds between two turns
  refine ⟨fun i k H2 => k = ds.length - i ∧ i ≤ ds.length ∧ ∃ (acc : List PyData) (vs : List V) (S2 : Store), Evo c.g.G H1 H2 ∧ Ex (Fz B H1) (Fz (D :: B) H2) ∧ GI c.X.K c.g (D :: B) H2 S2 ∧ H2 D = some (.lst vs) ∧ vs.length ≤ i ∧ IsAll c.X.K (Fz (D :: B) H2) vs acc ∧
    compL t tt de ρ [] ds S1 = compL t tt de ρ acc (ds.drop i) S2, ⟨ds.length, by simp, Nat.zero_le _, [], [], S1, (Ex.new hD).evo, ?_, gi1.under hD, upd_same, Nat.le_refl _, .nil, rfl⟩, ?_⟩
  · exact fun a u q => by
      have q := fz_some.mp q
      have ne : a ≠ D := ne_of_none q.2 hD
      exact fz_some.mpr ⟨fun z => (List.mem_cons.mp z).elim ne q.1, (Ex.new hD) a u q.2⟩
  · rintro i k H2 ⟨rfl, hi2, acc, vs, S2, ev2, ex2, gi2, hl, hvl, ia, eq⟩
    obtain ⟨go, stop⟩ := it.2 (D :: B) H2 ev2 ex2 gi2.kn
    by_cases hlt : i < ds.length
    · refine .inr ⟨(go i ds[i] (List.getElem?_eq_getElem hlt)).1, fun H3 => ∃ (acc : List PyData) (vs : List V) (S3 : Store), Evo c.g.G H1 H3 ∧ Ex (Fz B H1) (Fz (D :: B) H3) ∧ GI c.X.K c.g (D :: B) H3 S3 ∧ H3 D = some (.lst vs) ∧ vs.length ≤ i + 1 ∧ IsAll c.X.K (Fz (D :: B) H3) vs acc ∧
        compL t tt de ρ [] ds S1 = compL t tt de ρ acc (ds.drop (i + 1)) S3, fun H3 h3 => ⟨ds.length - (i + 1), by omega, rfl, hlt, h3⟩, fun x H3 hy => ?_⟩
      obtain ⟨ex3, ix⟩ := (go i ds[i] (List.getElem?_eq_getElem hlt)).2 x H3 hy
      rw [List.drop_eq_getElem_cons hlt, compL_cons] at eq
      have gi3 := gi2.ex ex3
      have ev3 : Evo c.g.G H1 H3 := ev2.trans ex3.evo
      have exB3 : Ex (Fz B H1) (Fz (D :: B) H3) := ex2.trans ex3.fz
      cases eb : t.bind ds[i] ρ with
      | none =>
        rw [eb] at eq
        exact absurd (by rw [eq]) g1.not_bad
      | some ρ1 =>
        rw [eb] at eq
        simp only at eq
        have fr3 : Frame c.X.K c.g B0 (D :: B) ow (blkM m (own.map (·.2))) ρ (L2.wipe σ (own.map (·.2))) H3 := ((fr.evo ev1).under exB3 ev3).wipe _ hlen
        refine Tg.put (X := c.X) (t := t) (tg := tg) rfl fr3 (fun j hj => by rw [blkM_len]; exact hlen j (hsub j hj)) ix eb fun σ2 fr4 ⟨ws, hws, e2⟩ => ?_
        refine ⟨by rw [e2]; exact wipe_put hsub, ?_⟩
        refine ht fr4 gi3 (fun b S4 v H4 eb4 ev4 gi4 ev => ?_) (fun z => ?_) (fun x' S' z => ?_)
        · subst ev
          rw [eb4] at eq
          simp only [R.calm_ok, R.bind_ok] at eq
          cases v with
          | true =>
            rw [if_pos rfl] at eq
            rw [if_pos rfl]
            refine he (fr4.evo ev4) gi4 (fun d S5 y H5 ed ev5 gi5 iy => ?_) (fun z => ?_) (fun x' S' z => ?_)
            · rw [ed] at eq
              simp only [R.calm_ok, R.bind_ok] at eq
              have hD5 : H5 D = some (.lst vs) := ev5 D _ nG (ev4 D _ nG (ex3 D _ hl))
              have zz : vs.length < sizeLine := by have := it.1; omega
              have exB5 : Ex (Fz B H1) (Fz (D :: B) H5) := (exB3.trans (ev4.fz gi4.sub)).trans (ev5.fz gi5.sub)
              refine ⟨vs, hD5, zz, acc ++ [d], vs ++ [y], S5, fun a o n q => ?_, ?_, gi5.grow (List.mem_cons_self ..) nG (lst_code hD5), upd_same, by rw [List.length_append]; simp; omega, ?_, eq⟩
              · rw [upd_ne (ne_of_none q hD)]
                exact ev5 a o n (ev4 a o n (ev3 a o n q))
              · rw [fz_upd (List.mem_cons_self ..)]
                exact exB5
              · rw [fz_upd (List.mem_cons_self ..)]
                exact ((ia.mono ex3.fz).mono ((ev4.fz gi4.sub).trans (ev5.fz gi5.sub))).append (.cons iy .nil)
            · rw [z] at eq
              exact g1.not_bad eq
            · rw [z] at eq
              exact g1.not_bad eq
          | false =>
            rw [if_neg (by simp)] at eq
            rw [if_neg (by simp)]
            have hD4 : H4 D = some (.lst vs) := ev4 D _ nG (ex3 D _ hl)
            exact ⟨acc, vs, S4, ev3.trans ev4, exB3.trans (ev4.fz gi4.sub), gi4, hD4, by omega, (ia.mono ex3.fz).mono (ev4.fz gi4.sub), eq⟩
        · rw [z] at eq
          exact g1.not_bad eq
        · rw [z] at eq
          exact g1.not_bad eq
    · have e : i = ds.length := by omega
      subst e
      refine .inl ⟨stop _ (Nat.le_refl _), ?_⟩
      rw [List.drop_length, compL_nil] at eq
      rw [eq] at g1
      refine g1.ok ev2 (gi2.less (fun a ha => List.mem_cons_of_mem _ ha) gi1.sub) ⟨D, rfl, free_back ev1 gi1 hD, .inl ⟨acc, vs, rfl, hl, by have := it.1; omega, ia⟩, gi2⟩
/-- the block's contexts ask nothing of exceptions -/
theorem goal_in {α β : Type} {X' : Cx} {B : List Addr} {H : Hp} {σ : L2.St} {r : R α} {Good : Store → Hp → β → α → Prop} {Q : β → Hp → Prop} {g : Gx} (hK : X'.K = c.X.K) (h1 : ∀ d S' v H', r = .ok d S' → Evo g.G H H' → GI c.X.K g B H' S' → Good S' H' v d → Q v H') (h2 : r ≠ .bad) (h3 : ∀ x S', r ≠ .exc x S') : Goal ⟨g, X', fun _ _ _ _ => False⟩ B H σ r Good Q :=
  ⟨fun d S' v H' e ev gi gd => h1 d S' v H' e ev (hK ▸ gi) gd, fun x S' e => absurd e (h3 x S'), h2⟩
theorem eo_lc (hc : c.X.calm = true) (hN : c.X.N.Nodup) (hi : ICo c m tg iter di) (ok : BlkOk c.X.N c.X.env.scope scope own) (hsub : ∀ i ∈ t.slots, i ∈ own.map (·.2)) (hlen : ∀ i ∈ own.map (·.2), i < m.length)
    (hg : ∀ s H C cl fp, PG (c.in scope s H C cl fp).X tg (gT c.X.K t)) (he : ∀ s H C cl fp, EV (c.in scope s H C cl fp) (setMd (blkM m (own.map (·.2))) t.slots .fz) elt de)
    (hs : ∀ x, foldedSetIterable iter c.X.env x = pure x := by intro _; rfl) : EO c m (.ListComp elt [⟨tg, iter, [], 0⟩] scope pos) (dComp di t dYes de) := by
  intro σ H ρ S B0 B ow Q fr gi g
  refine PD.WE.of (pe_lc (tt := tYes) (te := fun σ H Q => ∀ s H0 C cl fp, PD.WE (c.in scope s H0 C cl fp).X elt σ H Q) hc hN wi ok hg (fun _ _ _ _ _ => pts_nil) (fun s H0 C cl fp => ⟨fun pins s' σ H Q I h => (h s H0 C cl fp).go pins s' I⟩) hs) ?_
  refine comp_read hi hsub hlen (fun {σ H ρ S B0 B ow Q} fr gi h _ _ => h true S true H rfl (Evo.refl _ _) gi rfl) (fun {σ H ρ S B0 B ow Q} fr gi h h2 h3 s H0 C cl fp => ?_) fr gi g
  exact he s H0 C cl fp σ H ρ S B0 B ow Q fr gi (goal_in rfl h h2 h3)
theorem eo_lcIf {q : Expr} (hc : c.X.calm = true) (hN : c.X.N.Nodup) (hi : ICo c m tg iter di) (ok : BlkOk c.X.N c.X.env.scope scope own) (hsub : ∀ i ∈ t.slots, i ∈ own.map (·.2)) (hlen : ∀ i ∈ own.map (·.2), i < m.length)
    (hg : ∀ s H C cl fp, PG (c.in scope s H C cl fp).X tg (gT c.X.K t)) (ht : ∀ s H C cl fp, ET (c.in scope s H C cl fp) (setMd (blkM m (own.map (·.2))) t.slots .fz) q tt) (he : ∀ s H C cl fp, EV (c.in scope s H C cl fp) (setMd (blkM m (own.map (·.2))) t.slots .fz) elt de)
    (hs : ∀ x, foldedSetIterable iter c.X.env x = pure x := by intro _; rfl) : EO c m (.ListComp elt [⟨tg, iter, [q], 0⟩] scope pos) (dComp di t tt de) := by
  intro σ H ρ S B0 B ow Q fr gi g
  refine PD.WE.of (pe_lc (tt := fun σ H Q => ∀ s H0 C cl fp, WT (c.in scope s H0 C cl fp).X q σ H Q) (te := fun σ H Q => ∀ s H0 C cl fp, PD.WE (c.in scope s H0 C cl fp).X elt σ H Q) hc hN wi ok hg (fun s H0 C cl fp => pts_one ⟨fun pins s' σ H Q I h => (h s H0 C cl fp).go pins s' I⟩) (fun s H0 C cl fp => ⟨fun pins s' σ H Q I h => (h s H0 C cl fp).go pins s' I⟩) hs) ?_
  refine comp_read hi hsub hlen (fun {σ H ρ S B0 B ow Q} fr gi h h2 h3 s H0 C cl fp => ?_) (fun {σ H ρ S B0 B ow Q} fr gi h h2 h3 s H0 C cl fp => ?_) fr gi g
  · exact ht s H0 C cl fp σ H ρ S B0 B ow Q fr gi (goal_in rfl h h2 h3)
  · exact he s H0 C cl fp σ H ρ S B0 B ow Q fr gi (goal_in rfl h h2 h3)
end
end PD
/-! PDj: statements. -/
namespace PD
open PySem PySem.Spec PyProof.Rows L2
inductive RS where
  | nx (ρ : Env) (S : Store)
  | ret (d : PyData) (S : Store)
  | brk (ρ : Env) (S : Store)
  | exc (x : Xc) (ρ : Env) (S : Store)
  | bad
abbrev DS := Env → Store → RS
def RS.bind (r : RS) (f : Env → Store → RS) : RS := match r with
  | .nx ρ S => f ρ S
  | r => r
/-- an expression's result in a statement -/
def R.st {α : Type} (r : R α) (ρ : Env) (f : α → Store → RS) : RS := match r with
  | .ok a S => f a S
  | .exc x S => .exc x ρ S
  | .bad => .bad
@[simp] theorem RS.bind_nx (ρ : Env) (S : Store) (f : Env → Store → RS) : (RS.nx ρ S).bind f = f ρ S := rfl
@[simp] theorem RS.bind_ret (d : PyData) (S : Store) (f : Env → Store → RS) : (RS.ret d S).bind f = .ret d S := rfl
@[simp] theorem RS.bind_brk (ρ : Env) (S : Store) (f : Env → Store → RS) : (RS.brk ρ S).bind f = .brk ρ S := rfl
@[simp] theorem RS.bind_exc (x : Xc) (ρ : Env) (S : Store) (f : Env → Store → RS) : (RS.exc x ρ S).bind f = .exc x ρ S := rfl
@[simp] theorem RS.bind_bad (f : Env → Store → RS) : RS.bad.bind f = .bad := rfl
@[simp] theorem R.st_ok {α : Type} (a : α) (S : Store) (ρ : Env) (f : α → Store → RS) : (R.ok a S).st ρ f = f a S := rfl
@[simp] theorem R.st_exc {α : Type} (x : Xc) (S : Store) (ρ : Env) (f : α → Store → RS) : (R.exc x S : R α).st ρ f = .exc x ρ S := rfl
@[simp] theorem R.st_bad {α : Type} (ρ : Env) (f : α → Store → RS) : (R.bad : R α).st ρ f = .bad := rfl
/-- where a statement stands: the frame, and what was at the def's entry He -/
structure In (c : Cc) (He : Hp) (B0 B : List Addr) (ow : Addr → Nat) (m : List Md) (ρ : Env) (σ : L2.St) (H : Hp) (S : Store) : Prop where
  fr : Frame c.X.K c.g B0 B ow m ρ σ H
  gi : GI c.X.K c.g B H S
  ev : Evo c.g.G He H
  nw : ∀ p ∈ B, p ∉ B0 → He p = none
/-- what is known of the slots where an exception lies -/
def MxOk (K : PySem.W.Frag) (g : Gx) (B0 B : List Addr) (ow : Addr → Nat) (mx : Option (List Md)) (ρ : Env) (σ : L2.St) (H : Hp) : Prop := match mx with
  | none => True
  | some m => Frame K g B0 B ow m ρ σ H
/-- how a def hands back, what modes stand at a break, at an exception -/
structure Fx where
  fr : Bool
  mb : List Md
  mx : Option (List Md)
structure Wants (c : Cc) (x : Fx) (He : Hp) (B0 B : List Addr) (H : Hp) (m' : List Md) (r : RS) (D : Ends) : Prop where
  nx : ∀ ρ' S', r = .nx ρ' S' → ∀ σ' H' B' ow', In c He B0 B' ow' m' ρ' σ' H' S' → Ex (Fz B H) (Fz B' H') → D.nx σ' H'
  rt : ∀ d S', r = .ret d S' → ∀ v H', Evo c.g.G He H' → GI c.X.K c.g B0 H' S' → ResOk c.X.K c.g x.fr B0 He H' S' v d → D.rt v H'
  bk : ∀ ρ' S', r = .brk ρ' S' → ∀ σ' H' B' ow', In c He B0 B' ow' x.mb ρ' σ' H' S' → Ex (Fz B H) (Fz B' H') → D.bk σ' H'
  ex : ∀ xc ρ' S', r = .exc xc ρ' S' → ∀ σ' H' B' ow' cls dd, MxOk c.X.K c.g B0 B' ow' x.mx ρ' σ' H' → GI c.X.K c.g B' H' S' → Evo c.g.G He H' → (∀ p ∈ B', p ∉ B0 → He p = none) → (∀ a ∈ B0, a ∈ B') → Ex (Fz B H) (Fz B' H') → XcRep c.X.K c.X.mg (Fz B' H') xc cls dd → c.W cls dd σ' H'
  nb : r ≠ .bad
def SV (c : Cc) (x : Fx) (m m' : List Md) (st : Stmt) (den : DS) : Prop := ∀ He B0 B ow ρ σ H S D, In c He B0 B ow m ρ σ H S → Wants c x He B0 B H m' (den ρ S) D → WS c.X st D σ H
def SVs (c : Cc) (x : Fx) (m m' : List Md) (st : List Stmt) (den : DS) : Prop := ∀ He B0 B ow ρ σ H S D, In c He B0 B ow m ρ σ H S → Wants c x He B0 B H m' (den ρ S) D → WSs c.X st D σ H
/-- the modes at a place bear those at an exception -/
def Wk (m m' : List Md) : Bool := decide (m.length = m'.length) && (List.range m.length).all fun i => decide (m'[i]? = some .un) || decide (m'[i]? = m[i]?)
def WkX (m : List Md) (mx : Option (List Md)) : Bool := match mx with | none => true | some m' => Wk m m'
theorem Frame.weak {K : PySem.W.Frag} {g : Gx} {B0 B : List Addr} {ow : Addr → Nat} {m m' : List Md} {ρ : Env} {σ : L2.St} {H : Hp} (f : Frame K g B0 B ow m ρ σ H) (h : Wk m m' = true) : Frame K g B0 B ow m' ρ σ H := by
  unfold Wk at h
  rw [Bool.and_eq_true] at h
  have hl := of_decide_eq_true h.1
  refine ⟨by rw [← hl]; exact f.lm, f.ls, f.sub, f.gsub, fun i md hi => ?_⟩
  have hlt : i < m.length := by rw [hl]; exact (List.getElem?_eq_some_iff.mp hi).1
  have q := List.all_eq_true.mp h.2 i (List.mem_range.mpr hlt)
  rw [Bool.or_eq_true, decide_eq_true_eq, decide_eq_true_eq] at q
  rcases q with q | q
  · rw [hi] at q
    cases q
    trivial
  · exact f.slot i md (by rw [← q]; exact hi)
theorem MxOk.of {K : PySem.W.Frag} {g : Gx} {B0 B : List Addr} {ow : Addr → Nat} {m : List Md} {mx : Option (List Md)} {ρ : Env} {σ : L2.St} {H : Hp} (f : Frame K g B0 B ow m ρ σ H) (h : WkX m mx = true) : MxOk K g B0 B ow mx ρ σ H := by
  cases mx with
  | none => trivial
  | some m' => exact f.weak h
section
variable {c : Cc} {x : Fx} {m m' m1 m2 : List Md} {He : Hp} {B0 B : List Addr} {ow : Addr → Nat} {ρ : Env} {σ : L2.St} {H : Hp} {S : Store} {D : Ends}
/-- an expression's exception in a statement -/
theorem xok {α : Type} {r : R α} {f : α → Store → RS} (i : In c He B0 B ow m ρ σ H S) (hx : WkX m x.mx = true) (w : Wants c x He B0 B H m' (r.st ρ f) D) (xc : Xc) (S' : Store) (e : r = .exc xc S') : XOk c B H σ xc S' := fun cls dd H' ev gi xr =>
  w.ex xc ρ S' (by rw [e]; rfl) σ H' B ow cls dd (MxOk.of (i.fr.evo ev) hx) gi (i.ev.trans ev) i.nw i.fr.sub (ev.fz i.gi.sub) xr
/-- what an expression asks within a statement -/
theorem goalS {α β : Type} {r : R α} {f : α → Store → RS} {Good : Store → Hp → β → α → Prop} {Q : β → Hp → Prop} (i : In c He B0 B ow m ρ σ H S) (hx : WkX m x.mx = true) (w : Wants c x He B0 B H m' (r.st ρ f) D)
    (k : ∀ d S' v H', r = .ok d S' → Evo c.g.G H H' → In c He B0 B ow m ρ σ H' S' → Wants c x He B0 B H' m' (f d S') D → Good S' H' v d → Q v H') : Goal c B H σ r Good Q := by
  refine ⟨fun d S' v H' e ev gi gd => k d S' v H' e ev ⟨i.fr.evo ev, gi, i.ev.trans ev, i.nw⟩ ?_ gd, fun xc S' e => xok i hx w xc S' e, fun e => w.nb (by rw [e]; rfl)⟩
  rw [e] at w
  exact ⟨fun ρ' S'' e' σ' H'' B' ow' i' ex => w.nx ρ' S'' e' σ' H'' B' ow' i' ((ev.fz gi.sub).trans ex), w.rt, fun ρ' S'' e' σ' H'' B' ow' i' ex => w.bk ρ' S'' e' σ' H'' B' ow' i' ((ev.fz gi.sub).trans ex), fun xc ρ' S'' e' σ' H'' B' ow' cls dd m1 g1 e1 n1 s1 ex xr => w.ex xc ρ' S'' e' σ' H'' B' ow' cls dd m1 g1 e1 n1 s1 ((ev.fz gi.sub).trans ex) xr, w.nb⟩
/-- the modes weaken -/
theorem Wants.from {B' : List Addr} {H' : Hp} {r : RS} (w : Wants c x He B0 B H m' r D) (e : Ex (Fz B H) (Fz B' H')) : Wants c x He B0 B' H' m' r D :=
  ⟨fun ρ' S'' e' σ' H'' B2 ow' i' ex => w.nx ρ' S'' e' σ' H'' B2 ow' i' (e.trans ex), w.rt, fun ρ' S'' e' σ' H'' B2 ow' i' ex => w.bk ρ' S'' e' σ' H'' B2 ow' i' (e.trans ex), fun xc ρ' S'' e' σ' H'' B2 ow' cls dd m1 g1 e1 n1 s1 ex xr => w.ex xc ρ' S'' e' σ' H'' B2 ow' cls dd m1 g1 e1 n1 s1 (e.trans ex) xr, w.nb⟩
def dNx : DS := fun ρ S => .nx ρ S
def dBrk : DS := fun ρ S => .brk ρ S
/-- one behind the other -/
def dSeq (a b : DS) : DS := fun ρ S => (a ρ S).bind b
theorem svs_nil : SVs c x m m [] dNx := fun He B0 B ow ρ σ H S D i w => WSs.of pss_nil (w.nx ρ S rfl σ H B ow i (Ex.refl _))
theorem svs_cons {st : Stmt} {rest : List Stmt} {d1 d2 : DS} (h1 : SV c x m m1 st d1) (h2 : SVs c x m1 m2 rest d2) : SVs c x m m2 (st :: rest) (dSeq d1 d2) := by
  intro He B0 B ow ρ σ H S D i w
  unfold dSeq at w
  refine WSs.of (pss_cons ws wss) ?_
  refine h1 He B0 B ow ρ σ H S _ i ⟨fun ρ' S' e σ' H' B' ow' i' ex => ?_, fun d S' e => w.rt d S' (by simp only [e]; rfl), fun ρ' S' e => w.bk ρ' S' (by simp only [e]; rfl), fun xc ρ' S' e => w.ex xc ρ' S' (by simp only [e]; rfl), fun e => w.nb (by simp only [e]; rfl)⟩
  simp only [e, RS.bind_nx] at w
  exact h2 He B0 B' ow' ρ' σ' H' S' D i' (w.from ex)
theorem svs_one {st : Stmt} {d1 : DS} (h1 : SV c x m m1 st d1) : SVs c x m m1 [st] d1 := fun He B0 B ow ρ σ H S D i w => WSs.of (pss_one ws) (h1 He B0 B ow ρ σ H S D i w)
/-- slots are forgotten ahead -/
theorem sv_weak {st : Stmt} {d : DS} (h : Wk m m1 = true) (h1 : SV c x m1 m2 st d) : SV c x m m2 st d := fun He B0 B ow ρ σ H S D i w => h1 He B0 B ow ρ σ H S D ⟨i.fr.weak h, i.gi, i.ev, i.nw⟩ w
theorem svs_weak {st : List Stmt} {d : DS} (h : Wk m m1 = true) (h1 : SVs c x m1 m2 st d) : SVs c x m m2 st d := fun He B0 B ow ρ σ H S D i w => h1 He B0 B ow ρ σ H S D ⟨i.fr.weak h, i.gi, i.ev, i.nw⟩ w
/-- .. behind -/
theorem svs_weakB {st : List Stmt} {d : DS} (h : Wk m1 m2 = true) (h1 : SVs c x m m1 st d) : SVs c x m m2 st d := fun He B0 B ow ρ σ H S D i w => h1 He B0 B ow ρ σ H S D i ⟨fun ρ' S' e σ' H' B' ow' i' ex => w.nx ρ' S' e σ' H' B' ow' ⟨i'.fr.weak h, i'.gi, i'.ev, i'.nw⟩ ex, w.rt, w.bk, w.ex, w.nb⟩
/-- a slot's own list, dict is frozen -/
theorem In.freeze (i : In c He B0 B ow m ρ σ H S) {j : Nat} (hj : m[j]? = some .own) : ∃ B', In c He B0 B' ow (m.set j .fz) ρ σ H S ∧ Ex (Fz B H) (Fz B' H) := by
  obtain ⟨d, p, e1, e2, ⟨hp, hp0, how⟩, t⟩ := i.fr.slot j _ hj
  have hjl : j < m.length := (List.getElem?_eq_some_iff.mp hj).1
  have sub : ∀ a ∈ B.filter (fun a => decide (a ≠ p)), a ∈ B := fun a ha => (List.mem_filter.mp ha).1
  have ex : Ex (Fz B H) (Fz (B.filter fun a => decide (a ≠ p)) H) := fz_anti sub
  have keep : ∀ a ∈ B, a ≠ p → a ∈ B.filter (fun a => decide (a ≠ p)) := fun a ha ne => List.mem_filter.mpr ⟨ha, decide_eq_true ne⟩
  have gsub : ∀ a ∈ c.g.G, a ∈ B.filter (fun a => decide (a ≠ p)) := fun a ha => keep a (i.fr.sub a (i.fr.gsub a ha)) fun e => hp0 (e ▸ i.fr.gsub a ha)
  refine ⟨B.filter fun a => decide (a ≠ p), ⟨⟨by rw [List.length_set]; exact i.fr.lm, i.fr.ls, fun a ha => keep a (i.fr.sub a ha) fun e => hp0 (e ▸ ha), i.fr.gsub, fun k md hk => ?_⟩, i.gi.less sub gsub, i.ev, fun q hq => i.nw q (sub q hq)⟩, ex⟩
  by_cases e : j = k
  · subst e
    rw [List.getElem?_set_self hjl] at hk
    cases hk
    intro d' hd'
    rw [e1] at hd'
    cases hd'
    exact ⟨_, e2, t.is ex fun o q => fz_some.mpr ⟨fun z => by have := of_decide_eq_true (List.mem_filter.mp z).2; exact this rfl, q⟩⟩
  · rw [List.getElem?_set_ne e] at hk
    exact (i.fr.slot k md hk).step ex (fun a ha => keep a ha.1 fun z => e (by rw [← how, ← ha.2.2, z])) fun a o _ q => q
theorem sv_freeze {st : Stmt} {d : DS} {j : Nat} (hj : m[j]? = some .own) (h1 : SV c x (m.set j .fz) m2 st d) : SV c x m m2 st d := fun He B0 B ow ρ σ H S D i w => by
  obtain ⟨B', i', ex⟩ := i.freeze hj
  exact h1 He B0 B' ow ρ σ H S D i' (w.from ex)
theorem svs_freeze {st : List Stmt} {d : DS} {j : Nat} (hj : m[j]? = some .own) (h1 : SVs c x (m.set j .fz) m2 st d) : SVs c x m m2 st d := fun He B0 B ow ρ σ H S D i w => by
  obtain ⟨B', i', ex⟩ := i.freeze hj
  exact h1 He B0 B' ow ρ σ H S D i' (w.from ex)
/-- .. behind -/
theorem svs_freezeB {st : List Stmt} {d : DS} {j : Nat} (hj : m1[j]? = some .own) (h1 : SVs c x m m1 st d) : SVs c x m (m1.set j .fz) st d := fun He B0 B ow ρ σ H S D i w => h1 He B0 B ow ρ σ H S D i
  ⟨fun ρ' S' e σ' H' B' ow' i' ex => by
    obtain ⟨B2, i2, ex2⟩ := i'.freeze hj
    exact w.nx ρ' S' e σ' H' B2 ow' i2 (ex.trans ex2), w.rt, w.bk, w.ex, w.nb⟩
/-! ### stores into names -/
def dSet (i : Nat) (a : DE) : DS := fun ρ S => (a ρ S).st ρ fun d S1 => .nx (ρ.set i (some d)) S1
theorem sv_set {i : Nat} {e : Expr} {a : DE} {y : Str} {pos pos' : Pos} (ha : EV c m e a) (hi : i < m.length) (hp : PS c.X (.Assign [.Name y pos'] e pos) (tAsg (PD.WE c.X e) (gName i))) (hx : WkX m x.mx = true := by rfl) : SV c x m (m.set i .fz) (.Assign [.Name y pos'] e pos) (dSet i a) := by
  intro He B0 B ow ρ σ H S D i1 w
  refine WS.of hp (ha σ H ρ S B0 B ow _ i1.fr i1.gi (goalS i1 hx w fun d S' v H' e ev i2 w2 gd => ?_))
  exact w2.nx _ _ rfl _ H' B ow ⟨i2.fr.put hi gd, i2.gi, i2.ev, i2.nw⟩ (Ex.refl _)
/-- a new list's, dict's holder -/
theorem In.own {H0 : Hp} {S0 : Store} (i : In c He B0 B ow m ρ σ H0 S0) (ev : Evo c.g.G H0 H) {j : Nat} (hj : j < m.length) {p : Addr} {d : PyData} (hp : H0 p = none) (ht : Top c.X.K (p :: B) H p d) (gi : GI c.X.K c.g (p :: B) H S) :
    In c He B0 (p :: B) (fun a => if a = p then j else ow a) (m.set j .own) (ρ.set j (some d)) (σ.set j (some (.ref p))) H S ∧ Ex (Fz B H0) (Fz (p :: B) H) := by
  have hn : p ∉ B := new_notin i.gi.kn hp
  have ex : Ex (Fz B H0) (Fz (p :: B) H) := fun a u q => by
    have q := fz_some.mp q
    have ne : a ≠ p := ne_of_none q.2 hp
    exact fz_some.mpr ⟨fun z => (List.mem_cons.mp z).elim ne q.1, ev a u (fun z => q.1 (i.gi.sub a z)) q.2⟩
  have hρ : j < ρ.length := by rw [← i.fr.lm]; exact hj
  have hσ : j < σ.length := by rw [i.fr.ls]; exact hρ
  refine ⟨⟨⟨by simp [i.fr.lm], by simp [i.fr.ls], fun a ha => List.mem_cons_of_mem _ (i.fr.sub a ha), i.fr.gsub, fun k md hk => ?_⟩, gi, i.ev.trans ev, fun q hq hq0 => ?_⟩, ex⟩
  · rw [getD_set hρ, getD_set hσ]
    by_cases e : j = k
    · subst e
      rw [List.getElem?_set_self hj] at hk
      cases hk
      rw [if_pos rfl, if_pos rfl]
      exact ⟨d, p, rfl, rfl, ⟨List.mem_cons_self .., fun z => hn (i.fr.sub p z), if_pos rfl⟩, ht⟩
    · rw [List.getElem?_set_ne e] at hk
      rw [if_neg e, if_neg e]
      have st := (i.fr.slot k md hk).step (B' := p :: B) (H' := H) ex (fun a ha => List.mem_cons_of_mem _ ha.1) fun a o ha q => ev a o (fun z => ha.2.1 (i.fr.gsub a z)) q
      have ne : ∀ a, Own B0 (p :: B) ow k a → a ≠ p ∨ True := fun _ _ => .inr trivial
      -- the owner's name at the other addresses is as it was
      have key : ∀ a ∈ B, (if a = p then j else ow a) = ow a := fun a ha => if_neg fun (z : a = p) => hn (z ▸ ha)
      have s0 := i.fr.slot k md hk
      have own' : ∀ a, Own B0 B ow k a → Own B0 (p :: B) (fun a => if a = p then j else ow a) k a := fun a h => ⟨List.mem_cons_of_mem _ h.1, h.2.1, by show (if a = p then j else ow a) = k; rw [key a h.1]; exact h.2.2⟩
      cases md with
      | un => trivial
      | fz => exact st
      | st q => exact st
      | ea => exact st
      | lm => exact st
      | cs => exact st
      | own =>
        obtain ⟨d', p', h1, h2, h3, h4⟩ := s0
        exact ⟨d', p', h1, h2, own' _ h3, h4.mono ex fun o q => ev p' o (fun z => h3.2.1 (i.fr.gsub p' z)) q⟩
      | own2 =>
        obtain ⟨ds', p', qs, h1, h2, h3, h4, h5, h6⟩ := s0
        refine ⟨ds', p', qs, h1, h2, fun q hq => own' _ (h3 q hq), h4, ev p' _ (fun z => (h3 p' (List.mem_cons_self ..)).2.1 (i.fr.gsub p' z)) h5, ?_⟩
        have h3' : ∀ q ∈ qs, Own B0 B ow k q := fun q hq => h3 q (List.mem_cons_of_mem _ hq)
        clear h1 h2 h3 h4 h5
        induction h6 with
        | nil => exact .nil
        | cons r t ih => exact .cons (r.mono ex fun o q => ev _ o (fun z => (h3' _ (List.mem_cons_self ..)).2.1 (i.fr.gsub _ z)) q) (ih fun q hq => h3' q (List.mem_cons_of_mem _ hq))
  · rcases List.mem_cons.mp hq with rfl | hq
    · exact free_back i.ev i.gi hp
    · exact i.nw q hq hq0
end
end PD
/-! PDk: more statements. -/
namespace PD
open PySem PySem.Spec PyProof.Rows L2
section
variable {c : Cc} {x : Fx} {m m' m1 m2 : List Md} {He : Hp} {B0 B : List Addr} {ow : Addr → Nat} {ρ : Env} {σ : L2.St} {H : Hp} {S : Store} {D : Ends}
/-- x = a new list, dict of its own -/
theorem sv_seto {i : Nat} {e : Expr} {a : DE} {y : Str} {pos pos' : Pos} (ha : EO c m e a) (hi : i < m.length) (hp : PS c.X (.Assign [.Name y pos'] e pos) (tAsg (PD.WE c.X e) (gName i))) (hx : WkX m x.mx = true := by rfl) : SV c x m (m.set i .own) (.Assign [.Name y pos'] e pos) (dSet i a) := by
  intro He B0 B ow ρ σ H S D i1 w
  refine WS.of hp (ha σ H ρ S B0 B ow _ i1.fr i1.gi (goalS i1 hx w fun d S' v H' e ev i2 w2 gd => ?_))
  obtain ⟨p, rfl, hp, t, gi⟩ := gd
  obtain ⟨i3, ex⟩ := i1.own ev hi hp t gi
  refine w.nx _ _ ?_ _ H' _ _ i3 ex
  show (a ρ S).st ρ _ = _
  rw [e]
  rfl
/-- a comprehension given to a local name -/
theorem sv_setLc {i : Nat} {e : Expr} {a : DE} {y : Str} {pos pos' : Pos} (ha : ∀ {He B0 B ow ρ σ H S} {D : Ends}, In c He B0 B ow m ρ σ H S → Wants c x He B0 B H (m.set i .own) (dSet i a ρ S) D → WS c.X (.Assign [.Name y pos'] e pos) D σ H) : SV c x m (m.set i .own) (.Assign [.Name y pos'] e pos) (dSet i a) := fun He B0 B ow ρ σ H S D i1 w => ha i1 w
/-- what a comprehension asks ahead of a store into a name -/
theorem store_own {i : Nat} {a : DE} (hi : i < m.length) (hx : WkX m x.mx = true) (i1 : In c He B0 B ow m ρ σ H S) (w : Wants c x He B0 B H (m.set i .own) (dSet i a ρ S) D) :
    Goal c B H σ (a ρ S) (fun S' H' v d => ∃ p, v = .ref p ∧ H p = none ∧ Top c.X.K (p :: B) H' p d ∧ GI c.X.K c.g (p :: B) H' S') (fun v H1 => gName i v σ H1 D.nx) :=
  goalS i1 hx w fun d S' v H' e ev i2 w2 gd => by
    obtain ⟨p, rfl, hp, t, gi⟩ := gd
    obtain ⟨i3, ex⟩ := i1.own ev hi hp t gi
    refine w.nx _ _ ?_ _ H' _ _ i3 ex
    show (a ρ S).st ρ _ = _
    rw [e]
    rfl
theorem sv_lc {i : Nat} {y : Str} {py pos spos : Pos} {elt tg iter : Expr} {scope : Scope} {own : List (Str × Nat)} {di : DI} {t : Tg} {de : DE} (hi' : i < m.length) (hy : c.X.N[i]? = some y) (hyl : c.X.env.scope.names.lookup y = some .local)
    (hsw : swapsWith (.ListComp elt [⟨tg, iter, [], 0⟩] scope pos) (some (.Name y py)) spos.line c.X.env = pure true)
    (hc : c.X.calm = true) (hN : c.X.N.Nodup) (hi : ICo c m tg iter di) (ok : BlkOk c.X.N c.X.env.scope scope own) (hsub : ∀ i ∈ t.slots, i ∈ own.map (·.2)) (hlen : ∀ i ∈ own.map (·.2), i < m.length)
    (hg : ∀ s H C cl fp, PG (c.in scope s H C cl fp).X tg (gT c.X.K t)) (he : ∀ s H C cl fp, EV (c.in scope s H C cl fp) (setMd (blkM m (own.map (·.2))) t.slots .fz) elt de)
    (hs : ∀ x, foldedSetIterable iter c.X.env x = pure x := by intro _; rfl) (hx : WkX m x.mx = true := by rfl) : SV c x m (m.set i .own) (.Assign [.Name y py] (.ListComp elt [⟨tg, iter, [], 0⟩] scope pos) spos) (dSet i (dComp di t dYes de)) := by
  intro He B0 B ow ρ σ H S D i1 w
  refine WS.of (ps_setLc (tt := tYes) (te := fun σ H Q => ∀ s H0 C cl fp, PD.WE (c.in scope s H0 C cl fp).X elt σ H Q) hc hN hy hyl hsw wi ok hg (fun _ _ _ _ _ => pts_nil) (fun s H0 C cl fp => ⟨fun pins s' σ H Q I h => (h s H0 C cl fp).go pins s' I⟩) hs) ?_
  refine comp_read hi hsub hlen (fun {σ H ρ S B0 B ow Q} fr gi h _ _ => h true S true H rfl (Evo.refl _ _) gi rfl) (fun {σ H ρ S B0 B ow Q} fr gi h h2 h3 s H0 C cl fp => ?_) i1.fr i1.gi (store_own hi' hx i1 w)
  exact he s H0 C cl fp σ H ρ S B0 B ow Q fr gi (goal_in rfl h h2 h3)
theorem sv_lcIf {i : Nat} {y : Str} {py pos spos : Pos} {elt tg iter q : Expr} {scope : Scope} {own : List (Str × Nat)} {di : DI} {t : Tg} {tt : DT} {de : DE} (hi' : i < m.length) (hy : c.X.N[i]? = some y) (hyl : c.X.env.scope.names.lookup y = some .local)
    (hsw : swapsWith (.ListComp elt [⟨tg, iter, [q], 0⟩] scope pos) (some (.Name y py)) spos.line c.X.env = pure true)
    (hc : c.X.calm = true) (hN : c.X.N.Nodup) (hi : ICo c m tg iter di) (ok : BlkOk c.X.N c.X.env.scope scope own) (hsub : ∀ i ∈ t.slots, i ∈ own.map (·.2)) (hlen : ∀ i ∈ own.map (·.2), i < m.length)
    (hg : ∀ s H C cl fp, PG (c.in scope s H C cl fp).X tg (gT c.X.K t)) (ht : ∀ s H C cl fp, ET (c.in scope s H C cl fp) (setMd (blkM m (own.map (·.2))) t.slots .fz) q tt) (he : ∀ s H C cl fp, EV (c.in scope s H C cl fp) (setMd (blkM m (own.map (·.2))) t.slots .fz) elt de)
    (hs : ∀ x, foldedSetIterable iter c.X.env x = pure x := by intro _; rfl) (hx : WkX m x.mx = true := by rfl) : SV c x m (m.set i .own) (.Assign [.Name y py] (.ListComp elt [⟨tg, iter, [q], 0⟩] scope pos) spos) (dSet i (dComp di t tt de)) := by
  intro He B0 B ow ρ σ H S D i1 w
  refine WS.of (ps_setLc (tt := fun σ H Q => ∀ s H0 C cl fp, WT (c.in scope s H0 C cl fp).X q σ H Q) (te := fun σ H Q => ∀ s H0 C cl fp, PD.WE (c.in scope s H0 C cl fp).X elt σ H Q) hc hN hy hyl hsw wi ok hg (fun s H0 C cl fp => pts_one ⟨fun pins s' σ H Q I h => (h s H0 C cl fp).go pins s' I⟩) (fun s H0 C cl fp => ⟨fun pins s' σ H Q I h => (h s H0 C cl fp).go pins s' I⟩) hs) ?_
  refine comp_read hi hsub hlen (fun {σ H ρ S B0 B ow Q} fr gi h h2 h3 s H0 C cl fp => ?_) (fun {σ H ρ S B0 B ow Q} fr gi h h2 h3 s H0 C cl fp => ?_) i1.fr i1.gi (store_own hi' hx i1 w)
  · exact ht s H0 C cl fp σ H ρ S B0 B ow Q fr gi (goal_in rfl h h2 h3)
  · exact he s H0 C cl fp σ H ρ S B0 B ow Q fr gi (goal_in rfl h h2 h3)
/-- (a, b) = a tuple -/
def dTupSet (is : List Nat) (a : DE) : DS := fun ρ S => (a ρ S).st ρ fun d S1 => match (Tg.tup is).bind d ρ with | some ρ1 => .nx ρ1 S1 | none => .bad
theorem setMd_get : True := trivial
theorem sv_tup {is : List Nat} {e : Expr} {a : DE} {tg : Expr} {pos : Pos} (ha : EV c m e a) (hi : ∀ i ∈ is, i < m.length) (hp : PS c.X (.Assign [tg] e pos) (tAsg (PD.WE c.X e) (gTup c.X.K is.length (is.foldr (fun i u => gCons (gName i) u) gNil)))) (hx : WkX m x.mx = true := by rfl) : SV c x m (setMd m is .fz) (.Assign [tg] e pos) (dTupSet is a) := by
  intro He B0 B ow ρ σ H S D i1 w
  refine WS.of hp (ha σ H ρ S B0 B ow _ i1.fr i1.gi (goalS i1 hx w fun d S' v H' e ev i2 w2 gd => ?_))
  cases eb : (Tg.tup is).bind d ρ with
  | none => rw [eb] at w2; exact absurd rfl w2.nb
  | some ρ1 =>
    rw [eb] at w2
    exact Tg.put (X := c.X) (t := .tup is) (tg := tg) rfl i2.fr hi gd eb fun σ' f' _ => w2.nx _ _ rfl σ' H' B ow ⟨f', i2.gi, i2.ev, i2.nw⟩ (Ex.refl _)
/-! ### control -/
def dIfS (t : DT) (a b : DS) : DS := fun ρ S => (t ρ S).st ρ fun q S1 => if q = true then a ρ S1 else b ρ S1
theorem sv_if {q : Expr} {a b : List Stmt} {tq : DT} {da db : DS} {pos : Pos} (hq : ET c m q tq) (ha : SVs c x m m1 a da) (hb : SVs c x m m1 b db) (hx : WkX m x.mx = true := by rfl) : SV c x m m1 (.If q a b pos) (dIfS tq da db) := by
  intro He B0 B ow ρ σ H S D i1 w
  refine WS.of (ps_if wt wss wss) (hq σ H ρ S B0 B ow _ i1.fr i1.gi (goalS i1 hx w fun d S' v H' e ev i2 w2 gd => ?_))
  cases gd
  cases d with
  | true => rw [if_pos rfl] at w2 ⊢; exact ha He B0 B ow ρ σ H' S' D i2 w2
  | false => rw [if_neg (by simp)] at w2 ⊢; exact hb He B0 B ow ρ σ H' S' D i2 w2
def dRet (a : DE) : DS := fun ρ S => (a ρ S).st ρ fun d S1 => .ret d S1
theorem sv_ret {e : Expr} {a : DE} {pos : Pos} (ha : EV c m e a) (hf : x.fr = false := by rfl) (hx : WkX m x.mx = true := by rfl) : SV c x m m1 (.Return (some e) pos) (dRet a) := by
  intro He B0 B ow ρ σ H S D i1 w
  refine WS.of (ps_ret we) (ha σ H ρ S B0 B ow _ i1.fr i1.gi (goalS i1 hx w fun d S' v H' e ev i2 w2 gd => ?_))
  refine w2.rt _ _ rfl v H' i2.ev (i2.gi.less i2.fr.sub i2.fr.gsub) ?_
  unfold ResOk
  rw [if_neg (by rw [hf]; simp)]
  exact gd.mono (fz_anti i2.fr.sub)
theorem sv_reto {e : Expr} {a : DE} {pos : Pos} (ha : EO c m e a) (hf : x.fr = true := by rfl) (hx : WkX m x.mx = true := by rfl) : SV c x m m1 (.Return (some e) pos) (dRet a) := by
  intro He B0 B ow ρ σ H S D i1 w
  refine WS.of (ps_ret we) (ha σ H ρ S B0 B ow _ i1.fr i1.gi (goalS i1 hx w fun d S' v H' e ev i2 w2 gd => ?_))
  obtain ⟨p, rfl, hp, t, gi⟩ := gd
  refine w2.rt _ _ rfl _ H' i2.ev (i2.gi.less i2.fr.sub i2.fr.gsub) ?_
  unfold ResOk
  rw [if_pos hf]
  have sub : ∀ a ∈ p :: B0, a ∈ p :: B := fun a ha => (List.mem_cons.mp ha).elim (fun e => e ▸ List.mem_cons_self ..) fun h => List.mem_cons_of_mem _ (i2.fr.sub a h)
  exact ⟨p, rfl, free_back i1.ev i1.gi hp, t.mono (fz_anti sub) fun _ q => q, gi.less sub fun a ha => List.mem_cons_of_mem _ (i2.fr.gsub a ha)⟩
/-- return x, x a list of the def's own -/
theorem sv_retOwn {i : Nat} {y : Str} {p1 pos : Pos} (hm : m[i]? = some .own) (hp : PE c.X (.Name y p1) (tVar i)) (hf : x.fr = true := by rfl) : SV c x m m1 (.Return (some (.Name y p1)) pos) (dRet (dVar i)) := by
  intro He B0 B ow ρ σ H S D i1 w
  refine WS.of (ps_ret hp) ?_
  obtain ⟨d, p, e, hv, hw, t⟩ := i1.fr.slot i _ hm
  have er : dRet (dVar i) ρ S = .ret d S := by
    show (ofO (ρ.getD i none) S).st ρ _ = _
    rw [e]
    rfl
  rw [er] at w
  refine ⟨.ref p, ?_, w.rt _ _ rfl _ H i1.ev (i1.gi.less i1.fr.sub i1.fr.gsub) ?_⟩
  · rw [List.getD_eq_getElem?_getD] at hv
    cases h2 : σ[i]? with
    | none => rw [h2] at hv; cases hv
    | some o => rw [h2] at hv; rw [show o = some _ from hv]
  · unfold ResOk
    rw [if_pos hf]
    have sub : ∀ a ∈ p :: B0, a ∈ B := fun a ha => (List.mem_cons.mp ha).elim (fun e => e ▸ hw.1) fun h => i1.fr.sub a h
    exact ⟨p, rfl, i1.nw p hw.1 hw.2.1, t.mono (fz_anti sub) fun _ q => q, i1.gi.less sub fun a ha => List.mem_cons_of_mem _ (i1.fr.gsub a ha)⟩
def dDrop (a : DE) : DS := fun ρ S => (a ρ S).st ρ fun _ S1 => .nx ρ S1
theorem sv_expr {e : Expr} {a : DE} {pos : Pos} (ha : EV c m e a) (hs : swapsWith e none pos.line c.X.env = pure false := by rfl) (hx : WkX m x.mx = true := by rfl) : SV c x m m (.Expr e pos) (dDrop a) := by
  intro He B0 B ow ρ σ H S D i1 w
  refine WS.of (ps_expr we hs) (ha σ H ρ S B0 B ow _ i1.fr i1.gi (goalS i1 hx w fun d S' v H' e ev i2 w2 gd => ?_))
  exact w2.nx _ _ rfl σ H' B ow i2 (Ex.refl _)
theorem sv_pass {pos : Pos} : SV c x m m (.Pass pos) dNx := fun He B0 B ow ρ σ H S D i w => WS.of ps_pass (w.nx ρ S rfl σ H B ow i (Ex.refl _))
theorem sv_break {pos : Pos} (h : Wk m x.mb = true) : SV c x m m1 (.Break pos) dBrk := fun He B0 B ow ρ σ H S D i w => WS.of ps_break (w.bk ρ S rfl σ H B ow ⟨i.fr.weak h, i.gi, i.ev, i.nw⟩ (Ex.refl _))
/-! for: the modes at each turn's start, at the end -/
def forL (t : Tg) (body : DS) : List PyData → Env → Store → RS
  | [], ρ, S => .nx ρ S
  | d :: ds, ρ, S => match t.bind d ρ with
    | none => .bad
    | some ρ1 => match body ρ1 S with
      | .nx ρ2 S2 => forL t body ds ρ2 S2
      | .brk ρ2 S2 => .nx ρ2 S2
      | r => r
def dFor (di : DI) (t : Tg) (body : DS) : DS := fun ρ S => (di ρ S).st ρ fun ds S1 => forL t body ds ρ S1
theorem forL_nil (t : Tg) (body : DS) (ρ : Env) (S : Store) : forL t body [] ρ S = .nx ρ S := rfl
theorem forL_cons (t : Tg) (body : DS) (d : PyData) (ds : List PyData) (ρ : Env) (S : Store) : forL t body (d :: ds) ρ S = match t.bind d ρ with
    | none => .bad
    | some ρ1 => match body ρ1 S with
      | .nx ρ2 S2 => forL t body ds ρ2 S2
      | .brk ρ2 S2 => .nx ρ2 S2
      | r => r := rfl
theorem sv_for {tg iter : Expr} {body : List Stmt} {di : DI} {t : Tg} {db : DS} {pos : Pos} (hpo : PassesOwn (model c.X.prog c.X.w) c.X.A c.X.env c.X.xe) (hc : c.X.calm = true) (hi : IFo c m tg iter di) (hsl : ∀ i ∈ t.slots, i < m.length) (hg : PG c.X tg (gT c.X.K t)) (hb : SVs c { x with mb := m } (setMd m t.slots .fz) m body db) (hs : ∀ x, foldedSetIterable iter c.X.env x = pure x := by intro _; rfl) (hx : WkX m x.mx = true := by rfl) :
    SV c x m m (.For tg iter body [] pos) (dFor di t db) := by
  intro He B0 B ow ρ σ H S D i1 w
  refine WS.of (ps_for hpo hc wi hg wss (hs := hs)) ?_
  refine hi σ H ρ S B0 B ow _ i1.fr i1.gi (goalS i1 hx w fun ds S1 J H1 e ev i2 w2 it => ?_)
  refine ⟨fun i k σ2 H2 => k = ds.length - i ∧ i ≤ ds.length ∧ ∃ ρ2 S2 B2 ow2, In c He B0 B2 ow2 m ρ2 σ2 H2 S2 ∧ Ex (Fz B H1) (Fz B2 H2) ∧ forL t db ds ρ S1 = forL t db (ds.drop i) ρ2 S2, ⟨ds.length, by simp, Nat.zero_le _, ρ, S1, B, ow, i2, Ex.refl _, rfl⟩, ?_⟩
  rintro i k σ2 H2 ⟨rfl, hile, ρ2, S2, B2, ow2, i3, ex, eq⟩
  obtain ⟨go, stop⟩ := it.2 B2 H2 ex i3.gi.kn
  by_cases hlt : i < ds.length
  · refine .inr ⟨(go i ds[i] (List.getElem?_eq_getElem hlt)).1, fun σ3 H3 => ∃ ρ3 S3 B3 ow3, In c He B0 B3 ow3 m ρ3 σ3 H3 S3 ∧ Ex (Fz B H1) (Fz B3 H3) ∧ forL t db ds ρ S1 = forL t db (ds.drop (i + 1)) ρ3 S3, fun σ3 H3 h3 => ⟨ds.length - (i + 1), by omega, rfl, hlt, h3⟩, fun y H3 hy => ?_⟩
    obtain ⟨ex3, iy⟩ := (go i ds[i] (List.getElem?_eq_getElem hlt)).2 y H3 hy
    rw [List.drop_eq_getElem_cons hlt, forL_cons] at eq
    cases eb : t.bind ds[i] ρ2 with
    | none => rw [eb] at eq; exact absurd eq w2.nb
    | some ρ3 =>
      rw [eb] at eq
      simp only at eq
      have i4 : In c He B0 B2 ow2 m ρ2 σ2 H3 S2 := ⟨i3.fr.evo ex3.evo, i3.gi.ex ex3, i3.ev.trans ex3.evo, i3.nw⟩
      refine Tg.put (X := c.X) (t := t) (tg := tg) rfl i4.fr hsl iy eb fun σ4 f4 _ => ?_
      refine hb He B0 B2 ow2 ρ3 σ4 H3 S2 _ ⟨f4, i4.gi, i4.ev, i4.nw⟩ ⟨fun ρ5 S5 e5 σ5 H5 B5 ow5 i5 ex5 => ?_, fun d S5 e5 => ?_, fun ρ5 S5 e5 σ5 H5 B5 ow5 i5 ex5 => ?_, fun xc ρ5 S5 e5 => ?_, fun e5 => ?_⟩
      · rw [e5] at eq
        exact ⟨ρ5, S5, B5, ow5, i5, (ex.trans ex3.fz).trans ex5, eq⟩
      · rw [e5] at eq
        exact w2.rt d S5 eq
      · rw [e5] at eq
        exact w2.nx ρ5 S5 eq σ5 H5 B5 ow5 i5 ((ex.trans ex3.fz).trans ex5)
      · rw [e5] at eq
        exact fun σ' H' B' ow' cls dd m1 g1 e1 n1 s1 exx xr => w2.ex xc ρ5 S5 eq σ' H' B' ow' cls dd m1 g1 e1 n1 s1 ((ex.trans ex3.fz).trans exx) xr
      · rw [e5] at eq
        exact w2.nb eq
  · have e : i = ds.length := by omega
    subst e
    rw [List.drop_length, forL_nil] at eq
    exact .inl ⟨stop _ (Nat.le_refl _), w2.nx _ _ eq σ2 H2 B2 ow2 i3 ex⟩
/-! while -/
def whL (t : DT) (body : DS) : Nat → Env → Store → RS
  | 0, _, _ => .bad
  | n + 1, ρ, S => (t ρ S).st ρ fun q S1 => if q = true then (match body ρ S1 with
      | .nx ρ2 S2 => whL t body n ρ2 S2
      | .brk ρ2 S2 => .nx ρ2 S2
      | r => r) else .nx ρ S1
theorem whL_succ (t : DT) (body : DS) (n : Nat) (ρ : Env) (S : Store) : whL t body (n + 1) ρ S = (t ρ S).st ρ fun q S1 => if q = true then (match body ρ S1 with
      | .nx ρ2 S2 => whL t body n ρ2 S2
      | .brk ρ2 S2 => .nx ρ2 S2
      | r => r) else .nx ρ S1 := rfl
def dWhile (n : Nat) (t : DT) (body : DS) : DS := fun ρ S => whL t body n ρ S
theorem sv_while {n : Nat} {q : Expr} {body : List Stmt} {tq : DT} {db : DS} {pos : Pos} (hpo : PassesOwn (model c.X.prog c.X.w) c.X.A c.X.env c.X.xe) (hq : ET c m q tq) (hb : SVs c { x with mb := m } m m body db) (hx : WkX m x.mx = true := by rfl) : SV c x m m (.While q body [] pos) (dWhile n tq db) := by
  intro He B0 B ow ρ σ H S D i1 w
  refine WS.of (ps_while hpo wt wss) ?_
  refine ⟨fun k σ2 H2 => ∃ ρ2 S2 B2 ow2, In c He B0 B2 ow2 m ρ2 σ2 H2 S2 ∧ Ex (Fz B H) (Fz B2 H2) ∧ whL tq db n ρ S = whL tq db k ρ2 S2, ⟨n, ρ, S, B, ow, i1, Ex.refl _, rfl⟩, ?_⟩
  rintro k σ2 H2 ⟨ρ2, S2, B2, ow2, i2, ex, eq⟩
  cases k with
  | zero => exact absurd eq w.nb
  | succ k =>
    rw [whL_succ] at eq
    have w2 : Wants c x He B0 B2 H2 m (whL tq db n ρ S) D := Wants.from (show Wants c x He B0 B H m (whL tq db n ρ S) D from w) ex
    rw [eq] at w2
    refine hq σ2 H2 ρ2 S2 B0 B2 ow2 _ i2.fr i2.gi (goalS i2 hx w2 fun d S3 v H3 e ev i3 w3 gd => ?_)
    cases gd
    cases d with
    | true =>
      rw [if_pos rfl] at w3 ⊢
      rw [e] at eq
      simp only [R.st_ok, if_true] at eq
      refine ⟨fun σ' H' => ∃ ρ5 S5 B5 ow5, In c He B0 B5 ow5 m ρ5 σ' H' S5 ∧ Ex (Fz B H) (Fz B5 H') ∧ whL tq db n ρ S = whL tq db k ρ5 S5, fun σ' H' h => ⟨k, Nat.lt_succ_self k, h⟩, ?_⟩
      refine hb He B0 B2 ow2 ρ2 σ2 H3 S3 _ i3 ⟨fun ρ5 S5 e5 σ5 H5 B5 ow5 i5 ex5 => ?_, fun d S5 e5 => ?_, fun ρ5 S5 e5 σ5 H5 B5 ow5 i5 ex5 => ?_, fun xc ρ5 S5 e5 => ?_, fun e5 => ?_⟩
      · rw [e5] at eq
        exact ⟨ρ5, S5, B5, ow5, i5, (ex.trans (ev.fz i2.gi.sub)).trans ex5, eq⟩
      · rw [e5] at w3
        exact w3.rt d S5 rfl
      · rw [e5] at w3
        exact w3.nx ρ5 S5 rfl σ5 H5 B5 ow5 i5 ex5
      · rw [e5] at w3
        exact w3.ex xc ρ5 S5 rfl
      · rw [e5] at w3
        exact w3.nb rfl
    | false =>
      rw [if_neg (by simp)] at w3 ⊢
      exact w3.nx _ _ rfl σ2 H3 B2 ow2 i3 (Ex.refl _)
end
end PD
/-! PDl: lists changed in place, several targets, raise, a def by its body. -/
namespace PD
open PySem PySem.Spec PyProof.Rows L2
section
variable {c : Cc} {x : Fx} {m m' m1 m2 : List Md} {He : Hp} {B0 B : List Addr} {ow : Addr → Nat} {ρ : Env} {σ : L2.St} {H : Hp} {S : Store} {D : Ends}
/-- the slot's own list, dict is changed -/
theorem In.write (i : In c He B0 B ow m ρ σ H S) {j : Nat} (hj : m[j]? = some .own) {p : Addr} (hv : σ.getD j none = some (.ref p)) (hw : Own B0 B ow j p) {o : HO} {d : PyData} (hc : ∀ q, H p ≠ some (LamX.CodeO p q)) (ht : Top c.X.K B (upd H p o) p d) :
    In c He B0 B ow m (ρ.set j (some d)) σ (upd H p o) S ∧ Ex (Fz B H) (Fz B (upd H p o)) := by
  have hjl : j < m.length := (List.getElem?_eq_some_iff.mp hj).1
  have hρ : j < ρ.length := by rw [← i.fr.lm]; exact hjl
  have pG : p ∉ c.g.G := fun z => hw.2.1 (i.fr.gsub p z)
  have efz : Fz B (upd H p o) = Fz B H := fz_upd hw.1
  have ex : Ex (Fz B H) (Fz B (upd H p o)) := by rw [efz]; exact Ex.refl _
  refine ⟨⟨⟨by simp [i.fr.lm], by simp [i.fr.ls], i.fr.sub, i.fr.gsub, fun k md hk => ?_⟩, i.gi.grow hw.1 pG hc, fun a u n q => ?_, i.nw⟩, ex⟩
  · rw [getD_set hρ]
    by_cases e : j = k
    · subst e
      rw [hj] at hk
      cases hk
      rw [if_pos rfl]
      exact ⟨d, p, rfl, hv, hw, ht⟩
    · rw [if_neg e]
      exact (i.fr.slot k md hk).step ex (fun a ha => ha.1) fun a u ha q => by
        rw [upd_ne fun z => e (by rw [← hw.2.2, ← ha.2.2, z])]
        exact q
  · rw [upd_ne fun z => by rw [z, i.nw p hw.1 hw.2.1] at q; cases q]
    exact i.ev a u n q
/-- the slot's list, then the rest, then the list changed -/
def onLst (ρ : Env) (i : Nat) (k : List PyData → RS) : RS := match ρ.getD i none with | some (.list xs) => k xs | _ => .bad
def putO (ρ : Env) (i : Nat) (o : Option PyData) (S : Store) : RS := match o with | some d => .nx (ρ.set i (some d)) S | none => .bad
def fApp (xs : List PyData) (d : PyData) : Option PyData := if decide (xs.length < sizeLine) then some (.list (xs ++ [d])) else none
def dApp (i : Nat) (a : DE) : DS := fun ρ S => onLst ρ i fun xs => (a ρ S).st ρ fun d S1 => putO ρ i (fApp xs d) S1
/-- reading the slot's own list -/
theorem own_read (i1 : In c He B0 B ow m ρ σ H S) {i : Nat} (hm : m[i]? = some .own) : ∃ d p, ρ.getD i none = some d ∧ σ[i]? = some (some (.ref p)) ∧ σ.getD i none = some (.ref p) ∧ Own B0 B ow i p ∧ Top c.X.K B H p d := by
  obtain ⟨d, p, e, hv, hw, t⟩ := i1.fr.slot i _ hm
  refine ⟨d, p, e, ?_, hv, hw, t⟩
  rw [List.getD_eq_getElem?_getD] at hv
  cases h2 : σ[i]? with
  | none => rw [h2] at hv; cases hv
  | some o => rw [h2] at hv; rw [show o = some _ from hv]
theorem top_lst {K : PySem.W.Frag} {B : List Addr} {H : Hp} {p : Addr} {xs : List PyData} (t : Top K B H p (.list xs)) : ∃ vs, H p = some (.lst vs) ∧ vs.length ≤ sizeLine ∧ IsAll K (Fz B H) vs xs := by
  rcases t with ⟨ds, vs, e, a, z, b⟩ | ⟨ds, kvs, e, _⟩ | ⟨ds, kvs, e, _⟩ <;> cases e
  exact ⟨vs, a, z, b⟩
/-- the slot holds a list, for the way to go on -/
theorem on_lst {i : Nat} {d0 : PyData} {k : List PyData → RS} (e0 : ρ.getD i none = some d0) (w : Wants c x He B0 B H m' (onLst ρ i k) D) : ∃ xs, d0 = .list xs ∧ Wants c x He B0 B H m' (k xs) D := by
  unfold onLst at w
  rw [e0] at w
  cases d0 with
  | list xs => exact ⟨xs, rfl, w⟩
  | _ => exact absurd rfl w.nb
theorem top_upd {K : PySem.W.Frag} {p : Addr} {vs : List V} {xs : List PyData} (hp : p ∈ B) (hz : vs.length ≤ sizeLine) (h : IsAll K (Fz B H) vs xs) : Top K B (upd H p (.lst vs)) p (.list xs) :=
  .inl ⟨xs, vs, rfl, upd_same, hz, by rw [fz_upd hp]; exact h⟩
theorem sv_append {i : Nat} {e : Expr} {a : DE} {y : Str} {p1 p2 pos pos' : Pos} (hm : m[i]? = some .own) (ha : EV c m e a) (hp : PE c.X (.Name y p1) (tVar i))
    (hs : Pl e := by intro _ _; rfl) (hw : swapsWith (.Call (.Attribute (.Name y p1) "append" p2) [e] [] pos') none pos.line c.X.env = pure false := by rfl) (hbase : attributeBase (.Name y p1) "append" c.X.env (eval (.Name y p1) c.X.env) = eval (.Name y p1) c.X.env := by rfl)
    (hfew : ((backTo pos' (starEach [e] c.X.env)).all (fun x => !x.1) && (backToKw pos' (keywordEach [] c.X.env)).all (fun x => x.1.isSome) && decide ([e].length + ([] : List Keyword).length + (if ([] : List Keyword).isEmpty then 0 else 1) < 30)) = true := by rfl)
    (hline : (p2.endLine == pos'.line) = true := by rfl) (hx : WkX m x.mx = true := by rfl) :
    SV c x m m (.Expr (.Call (.Attribute (.Name y p1) "append" p2) [e] [] pos') pos) (dApp i a) := by
  intro He B0 B ow ρ σ H S D i1 w
  refine WS.of (ps_expr (pe_bm PySem.F.plainAttrs_list PySem.F.slot_list_append PySem.F.type_list_append mt_append hp (pa_cons we pa_nil (hs _ _)) hbase hfew hline (hs _ _) (by rw [show starEach [] c.X.env = [] from rfl]; rfl)) hw) ?_
  obtain ⟨d0, p, e0, hv, hv', hw', t⟩ := own_read i1 hm
  obtain ⟨xs, rfl, w⟩ := on_lst e0 w
  obtain ⟨vs, h1, hz, r⟩ := top_lst t
  refine ⟨.ref p, hv, .inl ⟨rfl, vs, .inl (.inl h1)⟩, ?_⟩
  refine ha σ H ρ S B0 B ow _ i1.fr i1.gi (goalS i1 hx w fun d S' v H' e ev i2 w2 gd => ?_)
  have pG : p ∉ c.g.G := fun z => hw'.2.1 (i1.fr.gsub p z)
  have h2 : H' p = some (.lst vs) := ev p _ pG h1
  unfold putO fApp at w2
  by_cases hlt : xs.length < sizeLine
  · rw [if_pos (decide_eq_true hlt)] at w2
    refine ⟨p, vs, v, rfl, rfl, h2, by rw [r.length]; exact hlt, ?_⟩
    obtain ⟨i3, ex⟩ := i2.write hm hv' hw' (lst_code h2) (top_upd (vs := vs ++ [v]) (xs := xs ++ [d]) hw'.1 (by rw [List.length_append, r.length]; show _ + 1 ≤ _; omega) ((r.mono (ev.fz i1.gi.sub)).append (.cons gd .nil)))
    exact w2.nx _ _ rfl σ _ B ow i3 ex
  · rw [if_neg (by simpa using hlt)] at w2
    exact absurd rfl w2.nb
def fExt (xs : List PyData) : PyData → Option PyData | .list ys => if sz (xs.length + ys.length) then some (.list (xs ++ ys)) else none | _ => none
def dExt (i : Nat) (a : DE) : DS := fun ρ S => onLst ρ i fun xs => (a ρ S).st ρ fun d S1 => putO ρ i (fExt xs d) S1
theorem sv_extend {i : Nat} {e : Expr} {a : DE} {y : Str} {p1 p2 pos pos' : Pos} (hm : m[i]? = some .own) (ha : EB c m e a) (hp : PE c.X (.Name y p1) (tVar i))
    (hs : Pl e := by intro _ _; rfl) (hw : swapsWith (.Call (.Attribute (.Name y p1) "extend" p2) [e] [] pos') none pos.line c.X.env = pure false := by rfl) (hbase : attributeBase (.Name y p1) "extend" c.X.env (eval (.Name y p1) c.X.env) = eval (.Name y p1) c.X.env := by rfl)
    (hfew : ((backTo pos' (starEach [e] c.X.env)).all (fun x => !x.1) && (backToKw pos' (keywordEach [] c.X.env)).all (fun x => x.1.isSome) && decide ([e].length + ([] : List Keyword).length + (if ([] : List Keyword).isEmpty then 0 else 1) < 30)) = true := by rfl)
    (hline : (p2.endLine == pos'.line) = true := by rfl) (hx : WkX m x.mx = true := by rfl) :
    SV c x m m (.Expr (.Call (.Attribute (.Name y p1) "extend" p2) [e] [] pos') pos) (dExt i a) := by
  intro He B0 B ow ρ σ H S D i1 w
  refine WS.of (ps_expr (pe_bm PySem.F.plainAttrs_list PySem.F.slot_list_extend PySem.F.type_list_extend mt_extend hp (pa_cons we pa_nil (hs _ _)) hbase hfew hline (hs _ _) (by rw [show starEach [] c.X.env = [] from rfl]; rfl)) hw) ?_
  obtain ⟨d0, p, e0, hv, hv', hw', t⟩ := own_read i1 hm
  obtain ⟨xs, rfl, w⟩ := on_lst e0 w
  obtain ⟨vs, h1, hz, r⟩ := top_lst t
  refine ⟨.ref p, hv, .inl ⟨rfl, vs, .inl (.inl h1)⟩, ?_⟩
  refine ha σ H ρ S B0 B ow _ i1.fr i1.gi (goalS i1 hx w fun d S' v H' e ev i2 w2 gd => ?_)
  have pG : p ∉ c.g.G := fun z => hw'.2.1 (i1.fr.gsub p z)
  have h2 : H' p = some (.lst vs) := ev p _ pG h1
  unfold putO fExt at w2
  cases d with
  | list ys =>
    simp only at w2
    obtain ⟨b, ws, rfl, rb, sb, zb⟩ := Rb.lst gd i2.gi.sub
    by_cases hlt : xs.length + ys.length ≤ sizeLine
    · rw [if_pos (show sz _ = true from decide_eq_true hlt)] at w2
      refine ⟨p, b, vs, ws, rfl, rfl, h2, sb H' (Evo.refl _ _), by rw [r.length, rb.length]; exact hlt, ?_⟩
      obtain ⟨i3, ex⟩ := i2.write hm hv' hw' (lst_code h2) (top_upd (vs := vs ++ ws) (xs := xs ++ ys) hw'.1 (by rw [List.length_append, r.length, rb.length]; exact hlt) ((r.mono (ev.fz i1.gi.sub)).append rb))
      exact w2.nx _ _ rfl σ _ B ow i3 ex
    · rw [if_neg (by simpa [sz] using hlt)] at w2
      exact absurd rfl w2.nb
  | _ => exact absurd rfl w2.nb
/-- target = x.pop() -/
def dPop (t : Tg) (i : Nat) : DS := fun ρ S => onLst ρ i fun xs => match xs.getLast? with
  | none => .bad
  | some d => match t.bind d (ρ.set i (some (.list xs.dropLast))) with | some ρ1 => .nx ρ1 S | none => .bad
theorem sv_pop {i : Nat} {t : Tg} {tg : Expr} {y : Str} {p1 p2 pos pos' : Pos} (hm : m[i]? = some .own) (hp : PE c.X (.Name y p1) (tVar i)) (hsl : ∀ j ∈ t.slots, j < m.length)
    (hq : ∀ te, PE c.X (.Call (.Attribute (.Name y p1) "pop" p2) [] [] pos') te → PS c.X (.Assign [tg] (.Call (.Attribute (.Name y p1) "pop" p2) [] [] pos') pos) (tAsg te (gT c.X.K t)))
    (hbase : attributeBase (.Name y p1) "pop" c.X.env (eval (.Name y p1) c.X.env) = eval (.Name y p1) c.X.env := by rfl) (hline : (p2.endLine == pos'.line) = true := by rfl) :
    SV c x m (setMd m t.slots .fz) (.Assign [tg] (.Call (.Attribute (.Name y p1) "pop" p2) [] [] pos') pos) (dPop t i) := by
  intro He B0 B ow ρ σ H S D i1 w
  refine WS.of (hq _ (pe_bm0 PySem.F.plainAttrs_list PySem.F.slot_list_pop PySem.F.type_list_pop mt_pop hp hbase hline)) ?_
  obtain ⟨d0, p, e0, hv, hv', hw', tp⟩ := own_read i1 hm
  obtain ⟨xs, rfl, w⟩ := on_lst e0 w
  obtain ⟨vs, h1, hz, r⟩ := top_lst tp
  refine ⟨.ref p, hv, .inl ⟨rfl, vs, .inl (.inl h1)⟩, ?_⟩
  cases el : xs.getLast? with
  | none => simp only [el] at w; exact absurd rfl w.nb
  | some d =>
    simp only [el] at w
    rw [List.getLast?_eq_getElem?] at el
    obtain ⟨v, hv2, iv⟩ := r.get el
    refine ⟨p, vs, v, rfl, rfl, h1, by rw [r.length]; exact hv2, ?_⟩
    obtain ⟨i3, ex⟩ := i1.write hm hv' hw' (lst_code h1) (top_upd (vs := vs.dropLast) (xs := xs.dropLast) hw'.1 (by rw [List.length_dropLast]; omega) r.dropLast)
    cases eb : t.bind d (ρ.set i (some (.list xs.dropLast))) with
    | none => rw [eb] at w; exact absurd rfl w.nb
    | some ρ1 =>
      rw [eb] at w
      exact Tg.put (X := c.X) (t := t) (tg := tg) rfl i3.fr hsl (iv.mono ex) eb fun σ' f' _ => w.nx _ _ rfl σ' _ B ow ⟨f', i3.gi, i3.ev, i3.nw⟩ ex
/-- a plain subscript as a target -/
def PlainSub (X : Cx) (o i : Expr) (pos : Pos) : Prop := ∀ v, assign (.Subscript o i pos) X.env v = (do
      let ov ← holding [v] (eval o X.env)
      let iv ← holding [v, ov] (eval i X.env)
      standAt pos
      holding [v, ov, iv] (setItem ov iv v)
      release [v, ov, iv] [])
/-- x[k] = e, x a list of the slot's own -/
def fSetI (xs : List PyData) (k d : PyData) : Option PyData := match k with | .int k => (ixN xs.length k).map fun j => .list (xs.set j d) | _ => none
def dSetI (i : Nat) (k a : DE) : DS := fun ρ S => onLst ρ i fun xs => (a ρ S).st ρ fun d S1 => (k ρ S1).st ρ fun j S2 => putO ρ i (fSetI xs j d) S2
theorem sv_setI {i : Nat} {e k : Expr} {a dk : DE} {y : Str} {p1 p2 pos : Pos} (hm : m[i]? = some .own) (ha : EV c m e a) (hk : EV c m k dk) (hp : PE c.X (.Name y p1) (tVar i))
    (hq : ∀ te g, PE c.X e te → PG c.X (.Subscript (.Name y p1) k p2) g → PS c.X (.Assign [.Subscript (.Name y p1) k p2] e pos) (tAsg te g)) (hps : PlainSub c.X (.Name y p1) k p2 := by intro _; rfl) (hx : WkX m x.mx = true := by rfl) :
    SV c x m m (.Assign [.Subscript (.Name y p1) k p2] e pos) (dSetI i dk a) := by
  intro He B0 B ow ρ σ H S D i1 w
  refine WS.of (hq _ _ we (pg_sub hp we set_list hps)) ?_
  obtain ⟨d0, p, e0, hv, hv', hw', t⟩ := own_read i1 hm
  obtain ⟨xs, rfl, w⟩ := on_lst e0 w
  obtain ⟨vs, h1, hz, r⟩ := top_lst t
  have pG : p ∉ c.g.G := fun z => hw'.2.1 (i1.fr.gsub p z)
  refine ha σ H ρ S B0 B ow _ i1.fr i1.gi (goalS i1 hx w fun d S1 v H1 e ev i2 w2 gd => ?_)
  refine ⟨.ref p, hv, ?_⟩
  refine hk σ H1 ρ S1 B0 B ow _ i2.fr i2.gi (goalS i2 hx w2 fun d2 S2 v2 H2 e2 ev2 i3 w3 gd2 => ?_)
  have h2 : H2 p = some (.lst vs) := ev2 p _ pG (ev p _ pG h1)
  unfold putO fSetI at w3
  cases gd2 with
  | int k =>
    simp only at w3
    cases q : ixN xs.length k with
    | none => rw [q] at w3; exact absurd rfl w3.nb
    | some j =>
      rw [q] at w3
      refine ⟨p, vs, k, j, rfl, rfl, h2, by rw [r.length]; exact q, ?_⟩
      obtain ⟨i4, ex⟩ := i3.write hm hv' hw' (lst_code h2) (top_upd (vs := vs.set j v) (xs := xs.set j d) hw'.1 (by rw [List.length_set]; exact hz) (((r.mono (ev.fz i1.gi.sub)).mono (ev2.fz i2.gi.sub)).set j (gd.mono (ev2.fz i2.gi.sub))))
      exact w3.nx _ _ rfl σ _ B ow i4 ex
  | _ => exact absurd rfl w3.nb
/-! the lists that all share -/
theorem paired_get {α β : Type} {F : α → β → Prop} : ∀ {l₁ : List α} {l₂ : List β} {k : Nat} {a : α}, Paired F l₁ l₂ → l₁[k]? = some a → ∃ b, l₂[k]? = some b ∧ F a b
  | _, _, _, _, .nil, h => by simp at h
  | _, _, 0, a, .cons r _, h => by simp at h; subst h; exact ⟨_, rfl, r⟩
  | _, _, k + 1, a, .cons _ t, h => by
    obtain ⟨b, h1, h2⟩ := paired_get (k := k) (a := a) t (by simpa using h)
    exact ⟨b, by simpa using h1, h2⟩
theorem paired_set {α β : Type} {F G : α → β → Prop} : ∀ {l₁ : List α} {l₂ : List β} {k : Nat} {a : α} {b : β}, Paired F l₁ l₂ → l₁.Nodup → l₁[k]? = some a → G a b → (∀ a' b', a' ≠ a → a' ∈ l₁ → F a' b' → G a' b') → Paired G l₁ (l₂.set k b)
  | _, _, _, _, _, .nil, _, h, _, _ => by simp at h
  | a0 :: l₁, _, 0, a, b, .cons r t, nd, h, hg, f => by
    simp at h
    subst h
    have nd' := List.nodup_cons.mp nd
    refine .cons hg ?_
    have aux : ∀ {l1 : List α} {l2 : List β}, (∀ y ∈ l1, y ≠ a0 ∧ y ∈ a0 :: l₁) → Paired F l1 l2 → Paired G l1 l2 := by
      intro l1 l2 hm hh
      induction hh with
      | nil => exact .nil
      | cons r t ih => exact .cons (f _ _ (hm _ (List.mem_cons_self ..)).1 (hm _ (List.mem_cons_self ..)).2 r) (ih fun y hy => hm y (List.mem_cons_of_mem _ hy))
    exact aux (fun y hy => ⟨fun e => nd'.1 (e ▸ hy), List.mem_cons_of_mem _ hy⟩) t
  | a0 :: l₁, _, k + 1, a, b, .cons r t, nd, h, hg, f => by
    have nd' := List.nodup_cons.mp nd
    have hk : l₁[k]? = some a := by simpa using h
    have ha : a ∈ l₁ := List.mem_of_getElem? hk
    exact .cons (f _ _ (fun e => nd'.1 (e ▸ ha)) (List.mem_cons_self ..) r) (paired_set t nd'.2 hk hg fun a' b' n hm => f a' b' n (List.mem_cons_of_mem _ hm))
/-- a shared list is changed -/
theorem GI.put {K : PySem.W.Frag} {g : Gx} {k : Nat} {p : Addr} (i : GI K g B H S) (hk : g.SA[k]? = some p) {vs : List V} {xs : List PyData} (hz : vs.length ≤ sizeLine) (h : IsAll K (Fz B H) vs xs) (hl : ∃ ws, H p = some (.lst ws)) : GI K g B (upd H p (.lst vs)) (S.set k xs) := by
  have hpS : p ∈ g.SA := List.mem_of_getElem? hk
  have hpB : p ∈ B := i.sub p (List.mem_append_left _ hpS)
  have nd := List.nodup_append.mp i.nd
  refine ⟨paired_set i.st nd.1 hk ⟨vs, upd_same, hz, by rw [fz_upd hpB]; exact h⟩ fun a' b' n _ ⟨ws, e1, e2, e3⟩ => ⟨ws, by rw [upd_ne n]; exact e1, e2, by rw [fz_upd hpB]; exact e3⟩, ?_, i.sub, fun a ha => ?_, i.nd, fun l hl' => ⟨by
    obtain ⟨ws, hw⟩ := hl
    rw [upd_ne fun e => absurd (e ▸ (i.cd l hl').1) (lst_code hw _)]
    exact (i.cd l hl').1, by rw [fz_upd hpB]; exact (i.cd l hl').2⟩⟩
  · intro q hq
    have ne : q.1 ≠ p := fun e => nd.2.2 p hpS q.1 (List.mem_map.mpr ⟨q, hq, rfl⟩) e.symm
    obtain ⟨ps, h1, h2, h3⟩ := i.tabs q hq
    refine ⟨ps, by rw [upd_ne ne]; exact h1, h2, fun pos cv hc => ?_⟩
    obtain ⟨cc, e1, e2⟩ := h3 pos cv hc
    refine ⟨cc, e1, ?_⟩
    obtain ⟨ws, hw⟩ := hl
    rw [upd_ne fun e => absurd (e ▸ e2) (lst_code hw _)]
    exact e2
  · by_cases e : a = p
    · subst e; rw [upd_same]; intro z; cases z
    · rw [upd_ne e]; exact i.kn a ha
theorem In.putS (i : In c He B0 B ow m ρ σ H S) {k : Nat} {p : Addr} (hk : c.g.SA[k]? = some p) {vs : List V} {xs : List PyData} (hz : vs.length ≤ sizeLine) (h : IsAll c.X.K (Fz B H) vs xs) (hl : ∃ ws, H p = some (.lst ws)) :
    In c He B0 B ow m ρ σ (upd H p (.lst vs)) (S.set k xs) ∧ Ex (Fz B H) (Fz B (upd H p (.lst vs))) := by
  have hpG : p ∈ c.g.G := List.mem_append_left _ (List.mem_of_getElem? hk)
  have ev : Evo c.g.G H (upd H p (.lst vs)) := fun a o n q => by rw [upd_ne fun (e : a = p) => n (e ▸ hpG)]; exact q
  exact ⟨⟨i.fr.evo ev, i.gi.put hk hz h hl, i.ev.trans ev, i.nw⟩, ev.fz i.gi.sub⟩
/-- x[j], x the list at place k -/
def dStIx (k : Nat) (j : DE) : DE := fun ρ S => (j ρ S).bind fun y S1 => match S1[k]? with | some xs => ofO (fIx (.list xs) y) S1 | none => .bad
theorem ev_stIx {i k : Nat} {e : Expr} {a : DE} {y : Str} {p1 pos : Pos} (hm : m[i]? = some (.st k)) (hp : PE c.X (.Name y p1) (tVar i)) (ha : EV c m e a) (hs : PlainIx e) : EV c m (.Subscript (.Name y p1) e pos) (dStIx k a) := by
  intro σ H ρ S B0 B ow Q fr gi g
  refine PD.WE.of (pe_ix ix_list hp we hs) ?_
  obtain ⟨p, hk, hv⟩ := fr.slot i _ hm
  refine ⟨.ref p, ?_, ?_⟩
  · rw [List.getD_eq_getElem?_getD] at hv
    cases h2 : σ[i]? with
    | none => rw [h2] at hv; cases hv
    | some o => rw [h2] at hv; rw [show o = some _ from hv]
  · refine ha σ H ρ S B0 B ow _ fr gi (g.bind fun d S1 v H1 _ ev1 gi1 gd1 g1 => ?_)
    obtain ⟨xs, hx, vs, h1, hz, r⟩ := paired_get gi1.st hk
    rw [hx] at g1
    simp only at g1
    cases gd1 with
    | int j =>
      cases q : fIx (.list xs) (.int j) with
      | none => rw [q] at g1; exact absurd rfl g1.not_bad
      | some z =>
        rw [q] at g1
        obtain ⟨w, hw, iw⟩ := r.atI (i := j) (d := z) q
        exact ⟨p, vs, j, w, rfl, rfl, .inl (.inl h1), hw, g1.ok0 gi1 iw⟩
    | _ => exact absurd rfl g1.not_bad
/-- x[j] = e, x the list at place k -/
def dStSet (k : Nat) (j a : DE) : DS := fun ρ S => (a ρ S).st ρ fun d S1 => (j ρ S1).st ρ fun y S2 => match S2[k]? with
  | some xs => (match fSetI xs y d with | some (.list ys) => .nx ρ (S2.set k ys) | _ => .bad)
  | none => .bad
theorem sv_stSet {i k : Nat} {e j : Expr} {a dj : DE} {y : Str} {p1 p2 pos : Pos} (hm : m[i]? = some (.st k)) (hp : PE c.X (.Name y p1) (tVar i)) (ha : EV c m e a) (hj : EV c m j dj)
    (hq : ∀ te g, PE c.X e te → PG c.X (.Subscript (.Name y p1) j p2) g → PS c.X (.Assign [.Subscript (.Name y p1) j p2] e pos) (tAsg te g)) (hps : PlainSub c.X (.Name y p1) j p2 := by intro _; rfl) (hx : WkX m x.mx = true := by rfl) :
    SV c x m m (.Assign [.Subscript (.Name y p1) j p2] e pos) (dStSet k dj a) := by
  intro He B0 B ow ρ σ H S D i1 w
  refine WS.of (hq _ _ we (pg_sub hp we set_list hps)) ?_
  refine ha σ H ρ S B0 B ow _ i1.fr i1.gi (goalS i1 hx w fun d S1 v H1 e ev i2 w2 gd => ?_)
  obtain ⟨p, hk, hv⟩ := i2.fr.slot i _ hm
  refine ⟨.ref p, ?_, ?_⟩
  · rw [List.getD_eq_getElem?_getD] at hv
    cases h2 : σ[i]? with
    | none => rw [h2] at hv; cases hv
    | some o => rw [h2] at hv; rw [show o = some _ from hv]
  · refine hj σ H1 ρ S1 B0 B ow _ i2.fr i2.gi (goalS i2 hx w2 fun d2 S2 v2 H2 e2 ev2 i3 w3 gd2 => ?_)
    obtain ⟨xs, hx2, vs, h1, hz, r⟩ := paired_get i3.gi.st hk
    rw [hx2] at w3
    simp only at w3
    cases gd2 with
    | int q =>
      unfold fSetI at w3
      simp only at w3
      cases q2 : ixN xs.length q with
      | none => rw [q2] at w3; exact absurd rfl w3.nb
      | some n =>
        rw [q2] at w3
        refine ⟨p, vs, q, n, rfl, rfl, h1, by rw [r.length]; exact q2, ?_⟩
        obtain ⟨i4, ex⟩ := i3.putS hk (vs := vs.set n v) (xs := xs.set n d) (by rw [List.length_set]; exact hz) (r.set n (gd.mono (ev2.fz i2.gi.sub))) ⟨vs, h1⟩
        exact w3.nx _ _ rfl σ _ B ow i4 ex
    | _ => exact absurd rfl w3.nb
end
end PD
/-! PDm: raise, try, an exception in hand. -/
namespace PD
open PySem PySem.Spec PyProof.Rows L2
/-- C() -/
theorem pmk_own0 {X : Cx} {C : Addr} {bmB : List Value} {B newId initId : String} {x : Str} {p pos : Pos} (F : ExcBaseFacts B newId initId bmB) (q : PySem.W.excIn X.K C bmB newId = true) (gC : X.mg x = some (.ref C)) (kC : PySem.W.keepIn X.K (.ref C) = true) (r : Raises X (.ref C)) (hg : Gl X x)
    (hdb : (x == ("__debug__" : Str)) = false := by decide) : PMk X (.Call (.Name x p) [] [] pos) (fun _ H Q => Q (.ref C) none H) := by
  intro pins s σ H Q I h
  refine wpAny_Call_Name_kw (ld_glob I hg gC ?_ hdb)
  refine PySem.W.callWith_K0 I.kIn kC ?_
  show wpAny _ _ (call (.ref C) []) _ _ _
  obtain ⟨bm, N, nm, qn, bs, hdct, sn, sub, ab, col, dd, k0, k1, k2, k3, k5, mN, hC, hN, hni, T⟩ := exc_obj I.kIn q
  refine wpAny_call_exc_subT F T hC hN hni (fun h' e hm => ?_) (Nat.zero_le _)
  exact mk_of I hm r h (I.hok.gone hm.new)
/-- a class of errors without fields -/
structure Ex0 (K : PySem.W.Frag) (mg : Str → Option Value) (x : Str) (C : Addr) : Prop where
  q : PySem.W.excIn K C [.type "ValueError", .type "Exception", .type "BaseException", .type "object"] "ValueError.__new__" = true
  g : mg x = some (.ref C)
  k : PySem.W.keepIn K (.ref C) = true
  b : PySem.W.subIn K (.ref C) (.type "BaseException") = some true
  t : PySem.W.typeIn K (.ref C) = some (.type "type")
section
variable {c : Cc} {x : Fx} {m m' m1 m2 : List Md} {He : Hp} {B0 B : List Addr} {ow : Addr → Nat} {ρ : Env} {σ : L2.St} {H : Hp} {S : Store} {D : Ends}
def dRaise0 (n : Str) : DS := fun ρ S => .exc ⟨n, []⟩ ρ S
theorem sv_raise0 {n : Str} {C : Addr} {p pos pos2 : Pos} (T : Ex0 c.X.K c.X.mg n C) (hc : c.X.calm = true) (tk : Takes c.X c.W) (hg : Gl c.X n) (hdb : (n == ("__debug__" : Str)) = false := by decide) (hx : WkX m x.mx = true := by rfl) :
    SV c x m m1 (.Raise (some (.Call (.Name n p) [] [] pos)) none pos2) (dRaise0 n) := by
  intro He B0 B ow ρ σ H S D i w
  refine WS.of (ps_raise hc tk (pmk_own0 PySem.F.excBase_ValueError T.q T.g T.k (raises_own T.b T.t) hg hdb)) ?_
  exact w.ex _ _ _ rfl σ H B ow _ _ (MxOk.of i.fr hx) i.gi i.ev i.nw i.fr.sub (Ex.refl _) ⟨C, T.g, rfl, .inl ⟨rfl, rfl⟩⟩
/-! errors with one field -/
/-- __init__'s promise: self.f = the argument -/
def spInit (K : PySem.W.Frag) (C : Addr) (f : Str) : Sp := fun vs H Q _ => ∃ (a : Addr) (v : V), vs = [.ref a, v] ∧ OexC K C ∧ PySem.W.findIn K (.ref C) f = some none ∧ H a = some (exo a C none) ∧
  ∀ dx, H dx = none → dx ≠ a → Q .non (upd (upd H dx (exd dx [(f, v)])) a (exo a C (some dx)))
/-- a class of errors with the field f -/
structure Ex1 (X : Cx) (k : Nat) (n : Str) (C fI : Addr) (fd : FuncData) (f : Str) (ps : List Str) : Prop where
  T : OexC X.K C
  g : X.mg n = some (.ref C)
  i : PySem.W.findIn X.K (.ref C) "__init__" = some (some (.ref fI))
  ti : PySem.W.typeIn X.K (.ref fI) = some (.type "function")
  no : PySem.W.findIn X.K (.ref C) f = some none
  F : FnOk X.prog X.w X.K X.mg X.base CX0 k fI fd ps (spInit X.K C f)
  b : Binds X.K fd ps []
def dRaise1 (n f : Str) (a : DE) : DS := fun ρ S => (a ρ S).st ρ fun d S1 => .exc ⟨n, [(f, d)]⟩ ρ S1
theorem sv_raise1 {n f : Str} {C fI : Addr} {fd : FuncData} {ps : List Str} {k : Nat} {e : Expr} {a : DE} {p pos pos2 : Pos} (T : Ex1 c.X k n C fI fd f ps) (hr : Room (k + 1) c.X.A) (hc : c.X.calm = true) (tk : Takes c.X c.W) (hg : Gl c.X n) (ha : EV c m e a) (hs : Pl e := by intro _ _; rfl) (hdb : (n == ("__debug__" : Str)) = false := by decide) (hx : WkX m x.mx = true := by rfl) :
    SV c x m m1 (.Raise (some (.Call (.Name n p) [e] [] pos)) none pos2) (dRaise1 n f a) := by
  intro He B0 B ow ρ σ H S D i w
  refine WS.of (ps_raise hc tk (pmk_oex T.T T.i T.ti T.F hr T.b .nil (fun _ _ _ _ _ _ _ h => h.elim) hg T.g (pa_cons we pa_nil (hs _ _)) hdb (hs _ _) (by rw [show starEach [] c.X.env = [] from rfl]; rfl))) ?_
  refine ha σ H ρ S B0 B ow _ i.fr i.gi (goalS i hx w fun d S' v H' e ev i2 w2 gd => ?_)
  refine ⟨(by show 1 ≤ 1000; decide), fun q hq => ⟨q, v, rfl, T.T, T.no, upd_same, fun dx hdx ne => ⟨rfl, dx, [(f, v)], upd_same, by rw [upd_ne ne, upd_same], ?_, ?_⟩⟩⟩
  · rw [upd_ne ne] at hdx
    exact hdx
  · rw [upd_ne ne] at hdx
    -- the heap behind it: H', and the exception's own dict
    have eH : upd (del (upd (upd (upd H' q (exo q C none)) dx (exd dx [(f, v)])) q (exo q C (some dx))) q) dx (.xd [(f, v)]) = upd H' dx (.xd [(f, v)]) := by
      funext b
      by_cases e1 : b = dx
      · subst e1; rw [upd_same, upd_same]
      · rw [upd_ne e1, upd_ne e1]
        by_cases e2 : b = q
        · subst e2; rw [del_same, hq]
        · rw [del_ne e2, upd_ne e2, upd_ne e1, upd_ne e2]
    rw [eH]
    have ex := Ex.new (o := HO.xd [(f, v)]) hdx
    refine w2.ex _ _ _ rfl σ _ B ow _ _ (MxOk.of (i2.fr.evo ex.evo) hx) (i2.gi.ex ex) (i2.ev.trans ex.evo) i2.nw i2.fr.sub ex.fz ⟨C, T.g, rfl, .inr ⟨dx, [(f, v)], rfl, fz_new i2.gi.kn hdx, rfl, .cons (gd.mono ex.fz) .nil⟩⟩
/-- __init__(self, f): self.f = f -/
theorem init_ok {P : Program} {w : World} {K : PySem.W.Frag} {mg : Str → Option Value} {base : Heap} {C fI : Addr} {fd : FuncData} {qual f a1 a2 : Str} {st : Stmt} {p1 p2 p3 p4 pos : Pos} (F : Fun K "__init__" qual st fI fd) (S : FnScope [a1, a2] [a1, a2] (defScope st))
    (hb : defBody st = [.Assign [.Attribute (.Name a1 p1) f p2] (.Name a2 p3) p4]) (h1 : Vis (defScope st) a1) (h2 : Vis (defScope st) a2) (d1 : (a1 == ("__debug__" : Str)) = false) (d2 : (a2 == ("__debug__" : Str)) = false) (e1 : (a1 == ("__classdict__" : Str)) = false) (e2 : (a2 == ("__classdict__" : Str)) = false) :
    FnOk P w K mg base CX0 1 fI fd [a1, a2] (spInit K C f) := by
  refine F.ok S (fun vs H Q E h => ?_) (fun cdv A outer s H vs Q E hr h => ?_)
  · obtain ⟨a, v, rfl, _⟩ := h
    rfl
  · obtain ⟨a, v, rfl, T, no, ha, q⟩ := h
    rw [hb]
    refine ⟨_, pss_one (ps_ost (pe_var (i := 0) rfl h1 d1 e1) (pe_var (i := 1) rfl h2 d2 e2)), ?_⟩
    exact ⟨v, rfl, .ref a, rfl, a, C, rfl, T, no, .inl ⟨ha, fun dx n ne => q dx n ne⟩⟩
/-! ### try .. except C as n -/
/-- exceptions are not let out -/
def RS.calm (r : RS) : RS := match r with | .exc _ _ _ => .bad | .brk _ _ => .bad | r => r
/-- what a clause takes: the names known, which of them it takes -/
def dTry (cs : List Str) (sub : Str → Bool) (db : DS) (dh : Xc → DS) : DS := fun ρ S => match db ρ S with
  | .exc xc ρ' S' => if cs.contains xc.cls then (if sub xc.cls = true then (dh xc ρ' S').calm else .exc xc ρ' S') else .bad
  | r => r
def noEa (m : List Md) : Bool := m.all fun k => decide (k ≠ .ea)
theorem Frame.setE {K : PySem.W.Frag} {g g' : Gx} (hS : g'.SA = g.SA) (hG : g'.G = g.G) (hL : g'.L = g.L) (f : Frame K g B0 B ow m ρ σ H) (h : noEa m = true) : Frame K g' B0 B ow m ρ σ H := by
  refine ⟨f.lm, f.ls, f.sub, by rw [hG]; exact f.gsub, fun i md hi => ?_⟩
  have q := f.slot i md hi
  have ne := of_decide_eq_true (List.all_eq_true.mp h md (List.mem_of_getElem? hi))
  cases md with
  | ea => exact absurd rfl ne
  | st k => obtain ⟨p, h1, h2⟩ := q; exact ⟨p, by rw [hS]; exact h1, h2⟩
  | lm => obtain ⟨l, h1, h2⟩ := q; exact ⟨l, by rw [hL]; exact h1, h2⟩
  | _ => exact q
theorem GI.setE {K : PySem.W.Frag} {g g' : Gx} (hS : g'.SA = g.SA) (hT : g'.T = g.T) (hL : g'.L = g.L) (i : GI K g B H S) : GI K g' B H S := by
  have hG : g'.G = g.G := by unfold Gx.G; rw [hS, hT]
  exact ⟨by rw [hS]; exact i.st, by rw [hT]; exact i.tabs, by rw [hG]; exact i.sub, i.kn, by rw [hG]; exact i.nd, by rw [hL]; exact i.cd⟩
abbrev Gx.withE (g : Gx) (a : Addr) (xc : Xc) (d : Option Addr) : Gx := ⟨g.SA, g.T, some (a, xc, d), g.L⟩
/-- the context of an except suite -/
abbrev Cc.suite (c : Cc) (a : Addr) (oe : Obj) (d : Option Addr) (pn : List (Addr × Obj)) (xc : Xc) : Cc := ⟨c.g.withE a xc d, c.X.suite a ((a, oe) :: pn), fun _ _ _ _ => False⟩
theorem sv_tryAs {n : Str} {en : Str} {CA : Addr} {i : Nat} {cs : List Str} {sub : Str → Bool} {body suite : List Stmt} {b₀ : Stmt} {np pos pos' : Pos} {db : DS} {dh : Xc → DS} {mh : List Md}
    (hst : c.X.stack = c.X.env :: c.X.outer) (hf : c.X.env.frame = some c.X.env.locals) (hN : c.X.N.Nodup) (hi : c.X.N[i]? = some n) (hln : c.X.env.kindOf n = some .local) (hc : Names c.X en (.ref CA)) (tk : Takes c.X c.W) (hil : i < mh.length)
    (hsub : ∀ y ∈ cs, ∀ E, c.X.mg y = some (.ref E) → PySem.W.exmOne c.X.K (.ref E) (.ref CA) = some (sub y)) (hno : noEa mh = true)
    (hb : ∀ W pn xe, Takes (c.X.tr pn xe) W → PassesOwn (model c.X.prog c.X.w) c.X.A c.X.env xe → SVs ⟨c.g, c.X.tr pn xe, W⟩ { x with mx := some mh } m m' body db)
    (hd : ∀ a oe d pn xc E, Zc (.ref E) d oe → (∃ vs, oe.data = .fields vs) → c.X.mg xc.cls = some (.ref E) → xc.cls ∈ cs → SVs (c.suite a oe d pn xc) { x with mx := none } (mh.set i .ea) m2 (b₀ :: suite) (dh xc))
    (hm2 : Wk (m2.set i .un) m' = true) (hno2 : noEa (m2.set i .un) = true) (hi2 : i < m2.length) (hx : WkX mh x.mx = true) :
    SV c x m m' (.Try body [.ExceptHandler (some (.Name en np)) (some n) (b₀ :: suite) pos'] [] [] pos) (dTry cs sub db dh) := by
  intro He B0 B ow ρ σ H S D i1 w
  refine WS.of (ps_try_as (tb := fun W D σ H => ∀ pn xe, Takes (c.X.tr pn xe) W → PassesOwn (model c.X.prog c.X.w) c.X.A c.X.env xe → WSs (c.X.tr pn xe) body D σ H)
    (ts := fun a cls d D σ H => ∀ oe pn, Zc cls d oe → (∃ vs, oe.data = .fields vs) → WSs (c.X.suite a ((a, oe) :: pn)) (b₀ :: suite) D σ H) hst hf hN hi hln hc tk
    (fun W pn xe t po => ⟨fun pins s σ H D I h => (h pn xe t po).go pins s I⟩) (fun a oe cls d pn hz hv => ⟨fun pins s σ H D I h => (h oe pn hz hv).go pins s I⟩)) ?_
  intro pn xe t po
  refine hb _ pn xe t po He B0 B ow ρ σ H S _ ⟨i1.fr, i1.gi, i1.ev, i1.nw⟩ ⟨fun ρ' S' e σ' H' B' ow' i2 ex => ?_, fun d S' e => ?_, fun ρ' S' e σ' H' B' ow' i2 ex => ?_, fun xc ρ' S' e σ' H' B' ow' cls dd mxo gi ev nw sb exx xr => ?_, fun e => ?_⟩
  · exact w.nx ρ' S' (by simp only [dTry, e]) σ' H' B' ow' ⟨i2.fr, i2.gi, i2.ev, i2.nw⟩ ex
  · exact w.rt d S' (by simp only [dTry, e])
  · exact w.bk ρ' S' (by simp only [dTry, e]) σ' H' B' ow' ⟨i2.fr, i2.gi, i2.ev, i2.nw⟩ ex
  · -- the exception has come
    obtain ⟨E, g1, rfl, fsr⟩ := xr
    have nb := w.nb
    by_cases hcs : xc.cls ∈ cs
    · refine ⟨sub xc.cls, hsub _ hcs E g1, fun hs a ha oe pn2 hz hv => ?_, fun hs => ?_⟩
      · have er : dTry cs sub db dh ρ S = (dh xc ρ' S').calm := by
          simp only [dTry, e]
          rw [if_pos (List.contains_iff_mem.mpr hcs), if_pos hs]
        rw [er] at w
        have fr' : Frame c.X.K (c.g.withE a xc dd) B0 B' ow' mh ρ' σ' H' := Frame.setE (g := c.g) rfl rfl rfl mxo hno
        have gi' : GI c.X.K (c.g.withE a xc dd) B' H' S' := GI.setE (g := c.g) rfl rfl rfl gi
        have hρ : i < ρ'.length := by rw [← mxo.lm]; exact hil
        have hσ : i < σ'.length := by rw [mxo.ls]; exact hρ
        have fr2 : Frame c.X.K (c.g.withE a xc dd) B0 B' ow' (mh.set i .ea) ρ' (σ'.set i (some (.ref a))) H' := by
          refine ⟨by rw [List.length_set]; exact fr'.lm, by rw [List.length_set]; exact fr'.ls, fr'.sub, fr'.gsub, fun j md hj => ?_⟩
          rw [getD_set hσ]
          by_cases ej : i = j
          · subst ej
            rw [List.getElem?_set_self hil] at hj
            cases hj
            rw [if_pos rfl]
            exact ⟨a, xc, dd, rfl, rfl, fsr⟩
          · rw [List.getElem?_set_ne ej] at hj
            rw [if_neg ej]
            exact fr'.slot j md hj
        refine hd a oe dd pn2 xc E hz hv g1 hcs He B0 B' ow' ρ' _ H' S' _ ⟨fr2, gi', ev, nw⟩ ⟨fun ρ3 S3 e3 σ3 H3 B3 ow3 i3 ex3 => ?_, fun d S3 e3 v H3 ev3 gi3 rs => ?_, fun ρ3 S3 e3 σ3 H3 B3 ow3 i3 ex3 => ?_, fun xc3 ρ3 S3 e3 => ?_, fun e3 => ?_⟩
        · refine w.nx ρ3 S3 (by rw [e3]; rfl) _ H3 B3 ow3 ⟨(Frame.setE (g := c.g.withE a xc dd) (g' := c.g) rfl rfl rfl (i3.fr.unk hi2) hno2).weak hm2, GI.setE (g := c.g.withE a xc dd) (g' := c.g) rfl rfl rfl i3.gi, i3.ev, i3.nw⟩ (exx.trans ex3)
        · refine w.rt d S3 (by rw [e3]; rfl) v H3 ev3 (GI.setE (g := c.g.withE a xc dd) (g' := c.g) rfl rfl rfl gi3) ?_
          unfold ResOk at rs ⊢
          split at rs
          · rename_i q
            rw [if_pos q]
            obtain ⟨p, r1, r2, r3, r4⟩ := rs
            exact ⟨p, r1, r2, r3, GI.setE (g := c.g.withE a xc dd) (g' := c.g) rfl rfl rfl r4⟩
          · rename_i q
            rw [if_neg q]
            exact rs
        · exact absurd (by rw [e3]; rfl) w.nb
        · exact absurd (by rw [e3]; rfl) w.nb
        · exact absurd (by rw [e3]; rfl) w.nb
      · have er : dTry cs sub db dh ρ S = .exc xc ρ' S' := by
          simp only [dTry, e]
          rw [if_pos (List.contains_iff_mem.mpr hcs), if_neg (by rw [hs]; simp)]
        exact w.ex xc ρ' S' er σ' H' B' ow' _ dd (MxOk.of mxo hx) gi ev nw sb exx ⟨E, g1, rfl, fsr⟩
    · exact absurd (by simp only [dTry, e]; rw [if_neg (fun z => hcs (List.contains_iff_mem.mp z))]) nb
  · exact w.nb (by simp only [dTry, e])
/-! ### an exception in hand -/
theorem call_isX {X : Cx} {a D : Addr} {oe : Obj} {d : Option Addr} {pn : List (Addr × Obj)} (C : ExcC X.K D) (hz : Zc (.ref D) d oe) (hf : ∃ vs, oe.data = .fields vs) :
    CallR (X.suite a ((a, oe) :: pn)) (.builtin "isinstance") (fun xs H Q => (∀ dd, d = some dd → ∃ fs, H dd = some (.xd fs)) ∧ rIsE X.K D a xs H Q) := by
  intro pins s σ H xs us Q I r h
  obtain ⟨hdd, c, cv, b, rfl, hcv, e, q⟩ := h
  cases r with
  | cons rx rr =>
    cases rr with
    | cons rt rr =>
      cases rr
      cases rx
      have ec := hcv _ rt
      subst ec
      obtain ⟨hget, _⟩ := I.pin (a, oe) (List.mem_append.mpr (.inl List.mem_cons_self))
      obtain ⟨vs, hv⟩ := hf
      have J : ∃ od, PySem.W.InstAt s.heap a oe D od := by
        cases d with
        | none =>
          refine ⟨none, hget, hz.1, by unfold PySem.W.notCls; rw [hv] <;> rfl, ?_⟩
          rw [hz.2]
          trivial
        | some dd =>
          obtain ⟨fs, hfs⟩ := hdd dd rfl
          have hx : ObjOk X.prog X.w H s.heap dd (.xd fs) := I.hok dd _ hfs
          obtain ⟨mA, hns, hr⟩ := hx
          obtain ⟨od, ho, hl⟩ := lookIn_ns hns
          refine ⟨some od, hget, hz.1, by unfold PySem.W.notCls; rw [hv] <;> rfl, ?_⟩
          rw [hz.2]
          exact ho
      obtain ⟨od, J⟩ := J
      have hcl : (PySem.W.clsIn X.K D).isSome = true := by
        obtain ⟨cd, hc, _⟩ := PySem.W.any_some C.hd
        rw [hc]; rfl
      exact PySem.W.kia_one (PySem.W.kitx_exc hcl C.hg C.hk C.hs C.ha C.hn C.ht C.hm) I.kIn J e (fun z => nomatch z) fun tk => ⟨.bl b, H, I.kept (t' := tk) fun _ _ z => z, rfl, q⟩
/-- the slot that holds the exception -/
theorem ea_read {K : PySem.W.Frag} {g : Gx} {a : Addr} {xc : Xc} {d : Option Addr} (fr : Frame K (g.withE a xc d) B0 B ow m ρ σ H) {i : Nat} (hm : m[i]? = some .ea) : σ[i]? = some (some (.ref a)) ∧ FsRep K (Fz B H) xc d := by
  obtain ⟨a', x', d', e, hv, f⟩ := fr.slot i _ hm
  cases e
  refine ⟨?_, f⟩
  rw [List.getD_eq_getElem?_getD] at hv
  cases h2 : σ[i]? with
  | none => rw [h2] at hv; cases hv
  | some o => rw [h2] at hv; rw [show o = some _ from hv]
def dXc (v : Option PyData) : DE := fun _ S => ofO v S
/-- isinstance(e, C) -/
theorem ev_isX {a D : Addr} {oe : Obj} {d : Option Addr} {pn : List (Addr × Obj)} {xc : Xc} {i : Nat} {y C : Str} {v : V} {cv : Value} {b : Bool} {p1 p2 p pos : Pos} (T : ExcC c.X.K D) (hz : Zc (.ref D) d oe) (hf : ∃ vs, oe.data = .fields vs)
    (hm : m[i]? = some .ea) (hp : PE (c.suite a oe d pn xc).X (.Name y p1) (tVar i)) (hC : PE (c.suite a oe d pn xc).X (.Name C p2) (tC v)) (hr : ∀ u, RelV v u → u = cv) (hk : PySem.W.kitOne c.X.K (.ref D) cv = some b)
    (hg : Gl (c.suite a oe d pn xc).X "isinstance") (hmg : c.X.mg "isinstance" = none) : EV (c.suite a oe d pn xc) m (.Call (.Name "isinstance" p) [.Name y p1, .Name C p2] [] pos) (dXc (some (.bool b))) := by
  intro σ H ρ S B0 B ow Q fr gi g
  refine PD.WE.of (pe_callB (call_isX T hz hf) hg hmg PyProof.Rows.boot_isinstance (pa_cons hp (pa_cons hC pa_nil))) ?_
  obtain ⟨h1, h2⟩ := ea_read fr hm
  refine ⟨.ref a, h1, ?_⟩
  refine ⟨fun dd e => ?_, v, cv, b, rfl, hr, hk, g.ok0 gi (.bl b)⟩
  rcases h2 with ⟨_, e2⟩ | ⟨d', fs, e2, e3, _⟩
  · rw [e2] at e; cases e
  · rw [e2] at e; cases e
    exact ⟨fs, fz_le _ _ e3⟩
theorem lookup_is {K : PySem.W.Frag} {f : Str} : ∀ {fs : List (Str × V)} {gs : List (Str × PyData)} {d : PyData}, fs.map (·.1) = gs.map (·.1) → IsAll K H (fs.map (·.2)) (gs.map (·.2)) → gs.lookup f = some d → ∃ v, fs.lookup f = some v ∧ Is K H v d
  | [], [], d, _, _, h => by cases h
  | [], _ :: _, d, e, _, _ => by cases e
  | _ :: _, [], d, e, _, _ => by cases e
  | (n, v) :: fs, (n', d') :: gs, d, e, h, l => by
    simp only [List.map_cons, List.cons.injEq] at e h
    obtain ⟨rfl, e⟩ := e
    cases h with
    | cons h1 h2 =>
      rw [List.lookup_cons] at l ⊢
      cases q : (f == n) with
      | true => rw [q] at l; cases l; exact ⟨v, rfl, h1⟩
      | false => rw [q] at l; exact lookup_is e h2 l
/-- e.f -/
theorem ev_fld {a D : Addr} {oe : Obj} {d : Option Addr} {pn : List (Addr × Obj)} {xc : Xc} {i : Nat} {y f : Str} {p1 pos : Pos} (T : XfC c.X.K D) (hno : PySem.W.findIn c.X.K (.ref D) f = some none) (hz : Zc (.ref D) d oe) (hf : ∃ vs, oe.data = .fields vs)
    (hm : m[i]? = some .ea) (hp : PE (c.suite a oe d pn xc).X (.Name y p1) (tVar i)) (hb : attributeBase (.Name y p1) f c.X.env (eval (.Name y p1) c.X.env) = eval (.Name y p1) c.X.env := by rfl) : EV (c.suite a oe d pn xc) m (.Attribute (.Name y p1) f pos) (dXc (xc.fs.lookup f)) := by
  intro σ H ρ S B0 B ow Q fr gi g
  refine PD.WE.of (pe_xf T hno hz hf hp hb) ?_
  obtain ⟨h1, h2⟩ := ea_read fr hm
  refine ⟨.ref a, h1, rfl, rfl, ?_⟩
  unfold dXc at g
  cases l : xc.fs.lookup f with
  | none => rw [l] at g; exact absurd rfl g.not_bad
  | some z =>
    rw [l] at g
    rcases h2 with ⟨e1, _⟩ | ⟨dd, fs, e2, e3, e4, e5⟩
    · rw [e1] at l; cases l
    · obtain ⟨v, l2, iv⟩ := lookup_is e4 e5 l
      exact ⟨dd, fs, v, e2, fz_le _ _ e3, l2, g.ok0 gi iv⟩
end
end PD
/-! PDn: defs; lambdas handed in. -/
namespace PD
open PySem PySem.Spec PyProof.Rows L2
def RS.fin (fr : Bool) : RS → R PyData
  | .ret d S => .ok d S
  | .nx _ S => if fr = true then .bad else .ok .none S
  | .brk _ _ => .bad
  | .exc x _ S => .exc x S
  | .bad => .bad
def env0 (n : Nat) (ds : List PyData) : Env := ds.map some ++ List.replicate (n - ds.length) none
def mds0 (n : Nat) (ks : List Md) : List Md := ks ++ List.replicate (n - ks.length) .fz
theorem env0_out {n i : Nat} {ds : List PyData} (h : ds.length ≤ i) : (env0 n ds).getD i none = none := by
  unfold env0
  rw [List.getD_eq_getElem?_getD, List.getElem?_append_right (by simpa using h), List.getElem?_replicate]
  split <;> rfl
def dFn (fr : Bool) (n : Nat) (body : DS) : List PyData → Store → R PyData := fun ds S => (body (env0 n ds) S).fin fr
/-- modes that an argument may have -/
def argMd : Md → Bool | .fz => true | .st _ => true | .cs => true | _ => false
theorem ArgsOk.lenD {K : PySem.W.Frag} {g : Gx} {B : List Addr} {H : Hp} : ∀ {ks : List Md} {vs : List V} {ds : List PyData}, ArgsOk K g B H ks vs ds → ds.length = ks.length
  | _, _, _, .nil => rfl
  | _, _, _, .cons _ r => by simp [ArgsOk.lenD r]
theorem ArgsOk.slot {K : PySem.W.Frag} {g : Gx} {B0 B : List Addr} {ow : Addr → Nat} {H : Hp} : ∀ {ks : List Md} {vs : List V} {ds : List PyData} {i j : Nat} {md : Md}, ArgsOk K g B H ks vs ds → ks.all argMd = true → ks[i]? = some md → SlotOk K g B0 B ow H j md ((ds.map some)[i]?.getD none) ((vs.map some)[i]?.getD none)
  | _, _, _, i, j, md, .nil, _, h => by simp at h
  | _, _, _, 0, j, md, .cons h r, ha, e => by
    simp only [List.getElem?_cons_zero, Option.some.injEq] at e
    subst e
    rename_i k ks v vs d ds
    rw [List.all_cons, Bool.and_eq_true] at ha
    cases k with
    | fz => intro d' e'; cases e'; exact ⟨v, rfl, h⟩
    | st k => obtain ⟨rfl, p, h1, h2⟩ := h; exact ⟨p, h1, by rw [h2]; rfl⟩
    | cs => obtain ⟨a, vs', ds', rfl, rfl, h1, h2, h3⟩ := h; exact ⟨a, vs', ds', rfl, rfl, h1, h2, h3⟩
    | _ => exact absurd ha.1 (by simp [argMd])
  | _, _, _, i + 1, j, md, .cons h r, ha, e => by
    rw [List.all_cons, Bool.and_eq_true] at ha
    simpa using ArgsOk.slot (i := i) (j := j) r ha.2 (by simpa using e)
theorem frame0 {K : PySem.W.Frag} {g : Gx} {B : List Addr} {H : Hp} {S : Store} {ks : List Md} {vs : List V} {ds : List PyData} {N : List Str} (gi : GI K g B H S) (a : ArgsOk K g B H ks vs ds) (ha : ks.all argMd = true) (hn : ks.length ≤ N.length) :
    Frame K g B B (fun _ => 0) (mds0 N.length ks) (env0 N.length ds) (L2.start N vs) H := by
  have l1 := a.length
  have l2 := a.lenD
  refine ⟨?_, ?_, fun _ h => h, gi.sub, fun i md hi => ?_⟩
  · unfold mds0 env0; simp [l2]
  · unfold env0 L2.start; simp [l1, l2]
  · by_cases h : i < ks.length
    · have e1 : ks[i]? = some md := by
        unfold mds0 at hi
        rwa [List.getElem?_append_left h] at hi
      have := a.slot (B0 := B) (ow := fun _ => 0) (j := i) ha e1
      unfold env0 L2.start
      rw [List.getD_eq_getElem?_getD, List.getD_eq_getElem?_getD, List.getElem?_append_left (by simp [l2]; exact h), List.getElem?_append_left (by simp [l1]; exact h)]
      exact this
    · have : md = .fz := by
        unfold mds0 at hi
        rw [List.getElem?_append_right (by omega), List.getElem?_replicate] at hi
        split at hi
        · cases hi; rfl
        · cases hi
      subst this
      intro d e
      rw [env0_out (by omega)] at e
      cases e
/-- the context of a def's body -/
abbrev fnC (g : Gx) (P : Program) (w : World) (K : PySem.W.Frag) (mg : Str → Option Value) (base : Heap) (N : List Str) (qual : Str) (st : Stmt) (f : Addr) (cdv : Value) (A : Around) (outer : List PySem.Env) (s : Shared) (H : Hp) (E : XK) : Cc :=
  ⟨g, cxOf (L2.CX P w) P w K mg base N qual (defScope st) f cdv A outer s H E, fun cls d _ H' => E cls d H'⟩
/-- as Fun, the code object told -/
structure FunC (K : PySem.W.Frag) (x qual : Str) (st : Stmt) (f : Addr) (fd : FuncData) (cA : Addr) : Prop where
  ex : ∃ (oc : Value) (od : Option Addr) (kV doc pm : Value) (an : Option Addr) (ct : Value) (osl : Array (Option Value)),
    fd = PySem.W.fnOf x qual (defArgs st) (defBody st) (defScope st) .none kV doc pm an (.ref cA) ct ∧ K.lookup f = some ⟨oc, od, .func fd, osl⟩ ∧ PySem.W.codeIn K (.ref cA) qual = true
  kp : PySem.W.keepIn K (.ref f) = true
theorem FunC.fn {K : PySem.W.Frag} {x qual : Str} {st : Stmt} {f : Addr} {fd : FuncData} {cA : Addr} (F : FunC K x qual st f fd cA) : Fun K x qual st f fd := by
  obtain ⟨⟨oc, od, kV, doc, pm, an, ct, osl, e, lk, hc⟩, kp⟩ := F
  exact ⟨⟨oc, od, kV, doc, pm, an, _, ct, osl, e, lk, hc⟩, kp⟩
theorem func_mk {K : PySem.W.Frag} {x qual : Str} {st : Stmt} {f cA : Addr} {oc : Value} {od an : Option Addr} {osl : Array (Option Value)} {kV doc pm ct : Value} (l : K.lookup f = some ⟨oc, od, .func (PySem.W.fnOf x qual (defArgs st) (defBody st) (defScope st) .none kV doc pm an (.ref cA) ct), osl⟩)
    (c : PySem.W.codeIn K (.ref cA) qual = true) (k : PySem.W.keepIn K (.ref f) = true) : FunC K x qual st f (PySem.W.fnOf x qual (defArgs st) (defBody st) (defScope st) .none kV doc pm an (.ref cA) ct) cA := ⟨⟨oc, od, kV, doc, pm, an, ct, osl, rfl, l, c⟩, k⟩
theorem FunC.okX {P : Program} {w : World} {K : PySem.W.Frag} {mg : Str → Option Value} {base : Heap} {x qual : Str} {st : Stmt} {f cA : Addr} {fd : FuncData} {N ps : List Str} {k : Nat} {sp : Sp} (F : FunC K x qual st f fd cA) (S : FnScope N ps (defScope st)) (len : ∀ vs H Q E, sp vs H Q E → vs.length = ps.length)
    (hbody : ∀ (A : Around) (outer : List PySem.Env) (s : Shared) (H : Hp) (vs : List V) (Q : VK) (E : XK), Room k (A.deeper (envOfC qual (defScope st) s.heap.objs.size f (.ref cA))) → sp vs H Q E →
      ∃ t, PSs (cxOf (L2.CX P w) P w K mg base N qual (defScope st) f (.ref cA) A outer s H E) (defBody st) t ∧ t { nx := fun _ H' => Q .non H', rt := Q } (L2.start N vs) H) : FnOk P w K mg base (L2.CX P w) (k + 1) f fd ps sp := by
  obtain ⟨oc, od, kV, doc, pm, an, ct, osl, rfl, lk, hcd⟩ := F.ex
  exact fn_of lk hcd S len fun A outer s H vs Q E hr hsp => hbody A outer s H vs Q E hr hsp
theorem fn_den {P : Program} {w : World} {K : PySem.W.Frag} {mg : Str → Option Value} {base : Heap} {g : Gx} {x qual : Str} {st : Stmt} {f : Addr} {fd : FuncData} {N ps : List Str} {k : Nat} {ks : List Md} {fr : Bool} {m1 : List Md} {db : DS}
    (F : Fun K x qual st f fd) (S : FnScope N ps (defScope st)) (hks : ks.length = ps.length) (ha : ks.all argMd = true) (hn : ks.length ≤ N.length)
    (hbody : ∀ (cdv : Value) (A : Around) (outer : List PySem.Env) (s : Shared) (H : Hp) (E : XK), Room k (A.deeper (envOfC qual (defScope st) s.heap.objs.size f cdv)) →
      SVs (fnC g P w K mg base N qual st f cdv A outer s H E) ⟨fr, [], none⟩ (mds0 N.length ks) m1 (defBody st) db) :
    FnOk P w K mg base (L2.CX P w) (k + 1) f fd ps (spD K mg g ks fr (dFn fr N.length db)) := by
  refine F.okX S (fun vs H Q E h => ?_) (fun cdv A outer s H vs Q E hr h => ⟨_, wss, ?_⟩)
  · obtain ⟨ds, S0, B, a, _⟩ := h
    rw [a.length, hks]
  · obtain ⟨ds, S0, B, a, gi, h1, h2, h3⟩ := h
    refine hbody cdv A outer s H E hr H B B (fun _ => 0) _ _ H S0 _ ⟨frame0 gi a ha hn, gi, Evo.refl _ _, fun p h n => absurd h n⟩ ⟨fun ρ' S' e σ' H' B' ow' i ex => ?_, fun d S' e v H' ev gi' rs => ?_, fun ρ' S' e => ?_, fun xc ρ' S' e σ' H' B' ow' cls dd mx gi' ev nw sb ex xr => ?_, fun e => ?_⟩
    · cases fr with
      | true => exact absurd (by unfold dFn; rw [e]; rfl) h3
      | false =>
        refine h1 .none S' .non H' (by unfold dFn; rw [e]; rfl) i.ev (i.gi.less i.fr.sub i.fr.gsub) ?_
        exact Is.non
    · exact h1 d S' v H' (by unfold dFn; rw [e]; rfl) ev gi' rs
    · exact absurd (by unfold dFn; rw [e]; rfl) h3
    · refine h2 xc S' cls dd H' (by unfold dFn; rw [e]; rfl) ev (gi'.less sb gi.sub) (xr.mono (fz_anti sb))
    · exact absurd (by unfold dFn; rw [e]; rfl) h3
end PD
/-! PDo: lambdas without parameters handed to a def. -/
namespace PD
open PySem PySem.Spec PyProof.Rows L2 LamX
section
variable {X : Cx} {pins : List (Addr × Obj)} {σ : L2.St} {H HZ : Hp} {s s1 : Shared}
/-- the lambda is made; all but the table at P stays -/
theorem lam_make3 {T : List (Addr × Str)} {c P : Addr} {params : Arguments} {body : Expr} {scope : Scope} {pos : Pos} {E : Value → Shared → Prop} {Q : Value → Shared → Prop} (I : Inv X pins σ H s) (TB : TabB X.base X.mg c P) (hcode : X.env.code = .ref c)
    (hm : (P, X.env.qual ++ "<lambda>") ∈ T) (hu : ∀ p ∈ T, p.1 = P → p.2 = X.env.qual ++ "<lambda>") (hT : Tabs T H) (hdef : defaultsOf params X.env = ([], [])) (hfree : ∀ y ∈ scope.names, y.2 = .free → ∃ c, X.env.cells.lookup y.1 = some c)
    (h : ∀ (f c' : Addr) (pm ctv : Value) (H1 : Hp) (s' : Shared), Inv X pins σ H1 s' → Evo [P] H H1 → Tabs T H1 →
      s'.heap.get? f = some (PySem.W.kla_obj "<lambda>" (X.env.qual ++ "<lambda>") params body scope (cloFrom X.env.cells scope.names []) pm c' ctv) → H1 f = none → f ∉ frs X.stack → H1 c' = some (CodeO c' (X.env.qual ++ "<lambda>")) → Q (.ref f) s') :
    wpAny (model X.prog X.w) X.A (eval (.Lambda params body scope pos) X.env) Q E s := by
  obtain ⟨ps, hP, ht, ha⟩ := hT _ hm
  refine PySem.W.kla_eval hdef ?_
  have bP : s.heap.BuiltinsAt X.mg P := TB.bm.keeps I.bk
  have hP' : s.heap.get? P = some { cls := .none, data := .fields ps } := I.hok P _ hP
  have nofr : ∀ f, s.heap.objs.size ≤ f → f ∉ frs X.stack := fun f hf z => by
    rcases List.mem_cons.mp (I.stkSub _ z) with e | e
    · have h1 := I.lt
      rw [← e] at h1
      exact Nat.lt_irrefl _ (Nat.lt_of_lt_of_le h1 hf)
    · exact I.nofs hf e
  cases hc : codeAmong pos ps.toList with
  | none =>
    refine PySem.W.kla_makeFunction (mg := X.mg) (c := c) (P := P) (ps := ps) (closure_ok hfree) I.ok.glob (I.mod.glob.keeps I.bk) hcode (TB.code.keeps I.bk) hP' ht hc TB.gP bP fun c' ctv h' tk hx hge hlt hrec htb => ?_
    obtain ⟨c2, oc, vs, t, e2, hoc, hd, hv⟩ := hrec
    cases e2
    have hsz : s.heap.objs.size ≤ h'.objs.size := Nat.le_trans hge (Nat.le_of_lt hlt)
    have nC : H c' = none := I.hok.fresh hge
    have I1 := inv_table (t' := tk) (more := #[rawInt pos.line, rawInt pos.col, .ref c']) (h' := h'.push (PySem.W.kla_obj "<lambda>" (X.env.qual ++ "<lambda>") params body scope (cloFrom X.env.cells scope.names []) ((X.mg "__name__").getD .none) c' ctv)) I hP
      (fun b o hb e => Heap.get?_push_of_some _ (hx b o hb e)) (Heap.get?_push_of_some _ htb) hge ⟨oc, vs, t, Heap.get?_push_of_some _ hoc, hd, hv⟩
    have hE : Evo [P] H (upd (upd H P (.tbl (ps ++ #[rawInt pos.line, rawInt pos.col, .ref c']))) c' (CodeO c' (X.env.qual ++ "<lambda>"))) := fun b o n e => by
      rw [upd_ne (ne_of_none e nC), upd_ne (fun z => n (by rw [z]; exact List.mem_cons_self ..))]
      exact e
    have eL : (ps ++ #[rawInt pos.line, rawInt pos.col, .ref c']).toList = ps.toList ++ [rawInt pos.line, rawInt pos.col, .ref c'] := by simp
    have codeK : ∀ {c0 : Addr} {q : Str}, H c0 = some (CodeO c0 q) → upd (upd H P (.tbl (ps ++ #[rawInt pos.line, rawInt pos.col, .ref c']))) c' (CodeO c' (X.env.qual ++ "<lambda>")) c0 = some (CodeO c0 q) := fun {c0 q} e2 => hE _ _ (fun z => by
      obtain rfl := List.mem_singleton.mp z
      rw [hP] at e2
      exact codeO_ne _ (Option.some.inj e2).symm) e2
    refine h h'.objs.size c' ((X.mg "__name__").getD .none) ctv _ _ I1 hE (fun p hp => ?_) (Heap.get?_push_size _ rfl) ?_ (nofr _ hsz) upd_same
    · by_cases hb : p.1 = P
      · rw [hu p hp hb, hb]
        refine ⟨_, by rw [upd_ne (ne_of_none hP nC), upd_same], by rw [eL]; exact PySem.TriplesOk_snoc _ _ _ _ ht, fun p' cv hcv => ?_⟩
        rw [eL] at hcv
        rcases among_app _ ht hcv with z | z
        · obtain ⟨c0, e1, e2⟩ := ha p' cv z
          exact ⟨c0, e1, codeK e2⟩
        · exact ⟨c', z, upd_same⟩
      · obtain ⟨ps', a1, a2, a3⟩ := hT p hp
        refine ⟨ps', by rw [upd_ne (ne_of_none a1 nC), upd_ne hb]; exact a1, a2, fun p' cv hcv => ?_⟩
        obtain ⟨c0, e1, e2⟩ := a3 p' cv hcv
        exact ⟨c0, e1, codeK e2⟩
    · have n1 : h'.objs.size ≠ c' := Nat.ne_of_gt hlt
      have n2 : h'.objs.size ≠ P := Nat.ne_of_gt (Nat.lt_of_lt_of_le (Heap.lt_size hP') hsz)
      rw [upd_ne n1, upd_ne n2]
      exact I.hok.fresh hsz
  | some cv =>
    obtain ⟨c', e, hco⟩ := ha pos cv hc
    subst e
    refine PySem.W.kla_makeFunctionHit (mg := X.mg) (c := c) (P := P) (ps := ps) (closure_ok hfree) I.ok.glob (I.mod.glob.keeps I.bk) hcode (TB.code.keeps I.bk) hP' ht hc bP fun ctv h' tk hx hsz => ?_
    have I1 : Inv X pins σ H { s with heap := h'.push (PySem.W.kla_obj "<lambda>" (X.env.qual ++ "<lambda>") params body scope (cloFrom X.env.cells scope.names []) ((X.mg "__name__").getD .none) c' ctv), toks := tk } := I.kept fun b o e => Heap.get?_push_of_some _ (hx b o e)
    exact h h'.objs.size c' ((X.mg "__name__").getD .none) ctv H _ I1 (Evo.refl _ H) hT (Heap.get?_push_size _ rfl) (I.hok.fresh hsz) (nofr _ hsz) hco
/-- x(), in the def that got the lambda: what it lets out is asked at the very slots -/
theorem pe_act3 {CXg : CXT} {Eg : XK} {Ng : List Str} {qg : Str} {sg : Scope} {g f c' : Addr} {cdg pm ctv : Value} {params : Arguments} {body : Expr} {scope : Scope} {k i : Nat} {a : Str} {pn : List (Addr × Obj)} {xe : Value → Shared → Prop} {W : WX} {t : XK → TE} {p1 p2 : Pos}
    (I : Inv X pins σ H s) (L : LamS X.env.scope scope) (hf : s.heap.get? f = some (PySem.W.kla_obj "<lambda>" (X.env.qual ++ "<lambda>") params body scope (cloFrom X.env.cells scope.names []) pm c' ctv)) (hfn : H f = none) (hfr : f ∉ frs X.stack)
    (hbind : bindArgs (PySem.W.kla_fn "<lambda>" (X.env.qual ++ "<lambda>") params body scope (cloFrom X.env.cells scope.names []) pm (.ref c') ctv) ⟨[], []⟩ = pure [])
    (tk : Takes ((cxOf CXg X.prog X.w X.K X.mg X.base Ng qg sg g cdg X.A X.stack s H Eg).tr pn xe) W) (hr : Room (k + 1) (X.A.deeper (envOfC qg sg s.heap.objs.size g cdg)))
    (hbody : ∀ (A : Around) (outer : List PySem.Env) (s : Shared) (H : Hp) (E : XK), Room k (A.deeper (lamEnv X scope s.heap.objs.size f c')) → PE (lamCx X A outer s H E scope f c') body (t E))
    (hN : Ng[i]? = some a) (hv : Vis sg a) (hd : (a == ("__debug__" : Str)) = false := by decide) (hcd : (a == ("__classdict__" : Str)) = false := by decide) :
    PE ((cxOf CXg X.prog X.w X.K X.mg X.base Ng qg sg g cdg X.A X.stack s H Eg).tr pn xe) (.Call (.Name a p1) [] [] p2)
      (fun σZ HZ Q => σZ[i]? = some (some (.ref f)) ∧ HZ c' = some (CodeO c' (X.env.qual ++ "<lambda>")) ∧ t (fun cls d H' => W cls d σZ H') σ HZ Q) := by
  refine ⟨fun pinsZ sZ σZ HZ Q IZ h => ?_⟩
  obtain ⟨hs, hc, ht⟩ := h
  refine wpAny_Call_Name_kw (thn ((pe_var (pos := p1) (i := i) hN hv hd hcd).run pinsZ sZ σZ HZ (fun v H1 => v = .ref f ∧ H1 = HZ) IZ ⟨.ref f, hs, rfl, rfl⟩) fun u s1 ⟨v, H1, I1, r1, q1⟩ => ?_)
  obtain ⟨ev, eH⟩ := q1
  subst ev
  rw [eH] at I1
  obtain rfl : u = Value.ref f := r1
  have of1 : s1.heap.get? f = some (PySem.W.kla_obj "<lambda>" (X.env.qual ++ "<lambda>") params body scope (cloFrom X.env.cells scope.names []) pm c' ctv) := I1.base.keep f _ hf hfn hfr (fun z => nomatch (show f ∈ ([] : List Addr) from z))
  refine PySem.W.callWith_F0 ⟨_, _, _, _, of1⟩ ?_
  have un : Un (frs X.stack) [] H HZ s.heap s1.heap := I1.base
  obtain ⟨⟨oc, vs, t', hoc, hdc, hvc⟩, _, _⟩ := I1.hok c' _ hc
  have rc : codeAny (model X.prog X.w) (X.A.deeper (envOfC qg sg s.heap.objs.size g cdg)) (.call (.ref f) ⟨[], []⟩) (CR (L2.CX X.prog X.w) (envOfC qg sg s.heap.objs.size g cdg :: X.stack) X.prog X.w HZ s1 Q (fun cls d H' => W cls d σZ H')) s1 := by
    refine PySem.W.kla_callFunE hr.depth of1 rfl L.co L.gen rfl ⟨c', oc, vs, t', rfl, hoc, hdc, hvc⟩ ?_
    rw [hbind]
    refine wpAny_pure (wpAny_newFunctionEnv (fun y hy => (L.own y hy).2) (fun y hy => absurd hy (by simp)) (fun h₁ hns hsb => ⟨I1.nolimit.fresh _ hsb, ?_⟩) L.kind)
    show codeAny _ _ (.expr body (lamEnv X scope s1.heap.objs.size f c')) _ _
    have kp : ∀ b o, s1.heap.get? b = some o → h₁.get? b = some o := fun b o e => hsb.extBut b o (Nat.ne_of_lt (Heap.lt_size e)) (Heap.get?_push_of_some _ e)
    have J : Inv (lamCx X (X.A.deeper (envOfC qg sg s.heap.objs.size g cdg)) (envOfC qg sg s.heap.objs.size g cdg :: X.stack) s1 HZ (fun cls d H' => W cls d σZ H') scope f c') [] σ HZ { s1 with heap := h₁, toks := s1.toks + ([] : List (Str × Value)).length } :=
      lam_start2 I L I1.env0 hr.hd un hns kp
    refine PySem.W.kla_codeExpr (wpAny_mono ((hbody _ _ s1 HZ (fun cls d H' => W cls d σZ H') (hr.deeper _)).run [] _ _ HZ Q J ht) (fun v s' hq => ?_) fun e s' hq => hq)
    obtain ⟨w', H', J', rv, q⟩ := hq
    exact ⟨w', H', J'.os, J'.bare, J'.base, J'.hok, rv, q⟩
  have hx := passAt tk σZ
  refine wpAny_call (codeAny_mono rc fun r s' hq => ?_)
  cases r with
  | error e => exact hx pinsZ HZ s1 e s' I1 hq
  | ok fl =>
    cases fl with
    | ret u => exact I1.after hq
    | next => exact False.elim hq
    | brk => exact False.elim hq
    | cont => exact False.elim hq
end
/-- what the def makes of the lambda -/
def Gives3 (X : Cx) (Ng : List Str) (x : Str) (sg : Scope) (g : Addr) (cdg : Value) (bg : List Stmt) (a : Str) (q : Str) (TT : (XK → Hp → VK → Prop) → Hp → VK → Prop) : Prop :=
  ∀ (f c' : Addr) (s : Shared) (H : Hp) (Q : VK) (tl : XK → Hp → VK → Prop),
    (∀ (W : WX) (pn : List (Addr × Obj)) (xe : Value → Shared → Prop) (p1 p2 : Pos), Takes ((cxOf C8.CX0 X.prog X.w X.K X.mg X.base Ng x sg g cdg X.A X.stack s H C8.E0).tr pn xe) W →
      PE ((cxOf C8.CX0 X.prog X.w X.K X.mg X.base Ng x sg g cdg X.A X.stack s H C8.E0).tr pn xe) (.Call (.Name a p1) [] [] p2) (fun σZ HZ Q => σZ[0]? = some (some (.ref f)) ∧ HZ c' = some (CodeO c' q) ∧ tl (fun cls d H' => W cls d σZ H') HZ Q)) →
    H c' = some (CodeO c' q) → Room 1 (X.A.deeper (envOfC x sg s.heap.objs.size g cdg)) → TT tl H Q →
    ∃ t, PSs (cxOf C8.CX0 X.prog X.w X.K X.mg X.base Ng x sg g cdg X.A X.stack s H C8.E0).nox bg t ∧ t { nx := fun _ H' => Q .non H', rt := Q } (L2.start Ng [.ref f]) H
def tLam3 (T : List (Addr × Str)) (P : Addr) (TT : (XK → Hp → VK → Prop) → Hp → VK → Prop) (t : XK → TE) : TE := fun σ H Q => Tabs T H ∧ ∀ H1, Evo [P] H H1 → Tabs T H1 → TT (fun E H' Q' => t E σ H' Q') H1 Q
section
variable {X : Cx}
theorem pe_lamcall3 {T : List (Addr × Str)} {TT : (XK → Hp → VK → Prop) → Hp → VK → Prop} {x a : Str} {g c P : Addr} {k : Nat} {pg : Arguments} {bg : List Stmt} {sg : Scope} {dV kV doc pm cdv ct oc : Value} {an od : Option Addr} {osl : Array (Option Value)} {Ng : List Str}
    {params : Arguments} {body : Expr} {scope : Scope} {t : XK → TE} {p lpos pos : Pos} (hg : Gl X x) (hm : X.mg x = some (.ref g)) (hk : PySem.W.keepIn X.K (.ref g) = true)
    (lk : X.K.lookup g = some ⟨oc, od, .func (PySem.W.fnOf x x pg bg sg dV kV doc pm an cdv ct), osl⟩) (hcg : PySem.W.codeIn X.K cdv x = true) (hb : L2.Binds X.K (PySem.W.fnOf x x pg bg sg dV kV doc pm an cdv ct) [a] []) (Sg : FnScope Ng [a] sg) (hNg : Ng[0]? = some a) (hva : Vis sg a)
    (hG : Gives3 X Ng x sg g cdv bg a (X.env.qual ++ "<lambda>") TT)
    (TB : TabB X.base X.mg c P) (hcode : X.env.code = .ref c) (hmT : (P, X.env.qual ++ "<lambda>") ∈ T) (hu : ∀ p ∈ T, p.1 = P → p.2 = X.env.qual ++ "<lambda>") (hr : Room (k + 2) X.A) (L : LamS X.env.scope scope) (hdef : defaultsOf params X.env = ([], []))
    (hbind : ∀ (q : Str) (cl : List (Str × Addr)) (pm cv ctv : Value), bindArgs (PySem.W.kla_fn "<lambda>" q params body scope cl pm cv ctv) ⟨[], []⟩ = pure [])
    (hbody : ∀ (A : Around) (outer : List PySem.Env) (s : Shared) (H : Hp) (E : XK) (f c' : Addr), Room k (A.deeper (lamEnv X scope s.heap.objs.size f c')) → PE (lamCx X A outer s H E scope f c') body (t E))
    (hdb : (x == ("__debug__" : Str)) = false := by decide) (hd : (a == ("__debug__" : Str)) = false := by decide) (hcd : (a == ("__classdict__" : Str)) = false := by decide) :
    PE X (.Call (.Name x p) [.Lambda params body scope lpos] [] pos) (tLam3 T P TT t) := by
  refine ⟨fun pins s σ H Q I h => ?_⟩
  obtain ⟨hT, h⟩ := h
  refine wpAny_Call_Name_kw (ld_glob I hg hm ?_ hdb)
  refine PySem.W.callWith_K (h₀ := X.base) I.ok.mod.kin hk ?_ (by rfl) (by rfl)
  show wpAny _ _ (spliced ((false, eval (.Lambda params body scope lpos) X.env) :: backTo pos (starEach [] X.env))) _ _ s
  refine Calls.spliced_cons (lam_make3 I TB hcode hmT hu hT hdef (L.has I.ok) fun f c' pm' ctv H1 s' I1 eN T1 hf hfn hfr hco => ?_)
  refine Calls.spliced_nil ⟨I1.kIn, ?_⟩
  have rc : codeAny (model X.prog X.w) X.A (.call (.ref g) ⟨[.ref f], []⟩) (CR C8.CX0 X.stack X.prog X.w H1 s' Q C8.E0) s' := by
    refine run_ofS (N := Ng) (ps := [a]) (us := [.ref f]) (vs := [.ref f]) lk hcg Sg hr I1.env0 (hb s' [.ref f] I1.kIn rfl) (.cons rfl .nil) rfl fun hr' => ?_
    obtain ⟨t', ht', hq'⟩ := hG f c' s' H1 Q (fun E H' Q' => t E σ H' Q') (fun W pn xe p1 p2 tk => pe_act3 (i := 0) I1 L hf hfn hfr (hbind _ _ _ _ _) tk hr' (fun A outer s H E hr2 => hbody A outer s H E f c' hr2) hNg hva hd hcd) hco (hr'.mono (by omega)) (h H1 eN T1)
    exact ⟨t', ht'.nox, hq'⟩
  refine wpAny_call (codeAny_mono rc fun r s2 hq => ?_)
  cases r with
  | error e => exact (show False from hq).elim
  | ok fl =>
    cases fl with
    | ret u => exact I1.after hq
    | next => exact False.elim hq
    | brk => exact False.elim hq
    | cont => exact False.elim hq
end
/-! ### by denotation -/
abbrev Gx.withL (g : Gx) (l : Lm) : Gx := ⟨g.SA, g.T, g.E, some l⟩
/-- the context in which a def without exceptions of its own runs -/
abbrev nxCx (P : Program) (w : World) (K : PySem.W.Frag) (mg : Str → Option Value) (base : Heap) (Ng : List Str) (x : Str) (sg : Scope) (gA : Addr) (cdg : Value) (A : Around) (stack : List PySem.Env) (s : Shared) (H : Hp) : Cx :=
  cxOf C8.CX0 P w K mg base Ng x sg gA cdg A stack s H C8.E0
/-- the def that gets a lambda and calls it: its body by denotation, dl0 the lambda's -/
def LamFn (P : Program) (w : World) (K : PySem.W.Frag) (mg : Str → Option Value) (base : Heap) (g : Gx) (x a : Str) (Ng : List Str) (sg : Scope) (gA : Addr) (cdg : Value) (bg : List Stmt) (db : (Store → R PyData) → DS) : Prop :=
  ∀ (A : Around) (stack : List PySem.Env) (s : Shared) (H : Hp) (l : Lm) (dl0 : Store → R PyData), Room 1 (A.deeper (envOfC x sg s.heap.objs.size gA cdg)) →
    (∀ W pn xe p1 p2 m, Takes ((nxCx P w K mg base Ng x sg gA cdg A stack s H).tr pn xe) W → m[0]? = some .lm → EV ⟨g.withL l, (nxCx P w K mg base Ng x sg gA cdg A stack s H).tr pn xe, W⟩ m (.Call (.Name a p1) [] [] p2) (fun _ S => dl0 S)) →
    ∃ m1, SVs ⟨g.withL l, (nxCx P w K mg base Ng x sg gA cdg A stack s H).nox, fun _ _ _ _ => False⟩ ⟨false, [], none⟩ (mds0 Ng.length [.lm]) m1 bg (db dl0)
/-- the def's reading of the lambda's -/
def TTD (K : PySem.W.Frag) (mg : Str → Option Value) (g : Gx) (n : Nat) (db : (Store → R PyData) → DS) : (XK → Hp → VK → Prop) → Hp → VK → Prop := fun tl H Q =>
  ∃ B S dl0, GI K g B H S ∧
    (∀ B' S' HZ E Q', Ex (Fz B H) (Fz B' HZ) → GI K g B' HZ S' → (∀ d S2 v H2, dl0 S' = .ok d S2 → Evo g.G HZ H2 → GI K g B' H2 S2 → Is K (Fz B' H2) v d → Q' v H2) →
      (∀ x S2 cls dd H2, dl0 S' = .exc x S2 → Evo g.G HZ H2 → GI K g B' H2 S2 → XcRep K mg (Fz B' H2) x cls dd → E cls dd H2) → dl0 S' ≠ .bad → tl E HZ Q') ∧
    (∀ d S' v H', (db dl0 (env0 n [.none]) S).fin false = .ok d S' → Evo g.G H H' → GI K g B H' S' → Is K (Fz B H') v d → Q v H') ∧ ((db dl0 (env0 n [.none]) S).fin false).calm ≠ .bad
theorem GI.withL {K : PySem.W.Frag} {g : Gx} {B : List Addr} {H : Hp} {S : Store} {l : Lm} (i : GI K g B H S) (h1 : H l.cc = some (CodeO l.cc l.q)) (h2 : Ex (Fz l.B l.H) (Fz B H)) : GI K (g.withL l) B H S :=
  ⟨i.st, i.tabs, i.sub, i.kn, i.nd, fun l' e => by cases e; exact ⟨h1, h2⟩⟩
theorem GI.noL {K : PySem.W.Frag} {g : Gx} {B : List Addr} {H : Hp} {S : Store} {l : Lm} (hL : g.L = none) (i : GI K (g.withL l) B H S) : GI K g B H S :=
  ⟨i.st, i.tabs, i.sub, i.kn, i.nd, fun l' e => by rw [hL] at e; cases e⟩
theorem lam_gives {X : Cx} {g : Gx} {x a : Str} {Ng : List Str} {sg : Scope} {gA : Addr} {cdg : Value} {bg : List Stmt} {db : (Store → R PyData) → DS} (hL : g.L = none) (hn : 1 ≤ Ng.length) (h : LamFn X.prog X.w X.K X.mg X.base g x a Ng sg gA cdg bg db) (q : Str) :
    Gives3 X Ng x sg gA cdg bg a q (TTD X.K X.mg g Ng.length db) := by
  intro f c' s H Q tl act hc hroom ⟨B, S, dl0, gi, htl, hq, hb⟩
  have key := h X.A X.stack s H ⟨f, c', q, B, H⟩ dl0 hroom
  have act2 : ∀ W pn xe p1 p2 m, Takes ((nxCx X.prog X.w X.K X.mg X.base Ng x sg gA cdg X.A X.stack s H).tr pn xe) W → m[0]? = some .lm → EV ⟨g.withL ⟨f, c', q, B, H⟩, (nxCx X.prog X.w X.K X.mg X.base Ng x sg gA cdg X.A X.stack s H).tr pn xe, W⟩ m (.Call (.Name a p1) [] [] p2) (fun _ S => dl0 S) := ?act
  · obtain ⟨m1, hs⟩ := key act2
    refine ⟨_, wss, ?_⟩
    refine hs H B B (fun _ => 0) (env0 Ng.length [.none]) _ H S _ ⟨⟨?_, ?_, fun _ h => h, gi.sub, fun i md hi => ?_⟩, gi.withL hc (Ex.refl _), Evo.refl _ _, fun p h n => absurd h n⟩ ⟨fun ρ' S' e σ' H' B' ow' i ex => ?_, fun d S' e v H' ev gi' rs => ?_, fun ρ' S' e => ?_, fun xc ρ' S' e => ?_, fun e => ?_⟩
    · unfold mds0 env0; simp
    · unfold env0 L2.start; simp
    · by_cases h0 : i < 1
      · obtain rfl : i = 0 := by omega
        unfold mds0 at hi
        simp at hi
        subst hi
        exact ⟨_, rfl, rfl⟩
      · have : md = .fz := by
          unfold mds0 at hi
          rw [List.getElem?_append_right (by simp; omega), List.getElem?_replicate] at hi
          split at hi
          · cases hi; rfl
          · cases hi
        subst this
        intro d e
        rw [env0_out (by simp; omega)] at e
        cases e
    · exact hq .none S' .non H' (by rw [e]; rfl) i.ev ((i.gi.noL hL).less i.fr.sub gi.sub) .non
    · exact hq d S' v H' (by rw [e]; rfl) ev (gi'.noL hL) rs
    · exact absurd (by rw [e]; rfl) hb
    · exact absurd (by rw [e]; rfl) hb
    · exact absurd (by rw [e]; rfl) hb
  · intro W pn xe p1 p2 m tk hm σZ HZ ρ SZ B0 B' ow Q' fr gi' go
    refine PD.WE.of (act W pn xe p1 p2 tk) ?_
    obtain ⟨l, e1, hv⟩ := fr.slot 0 _ hm
    cases e1
    refine ⟨?_, (gi'.cd _ rfl).1, htl B' SZ HZ _ _ (gi'.cd _ rfl).2 (gi'.noL hL) (fun d S2 v H2 e ev gi2 iv => go.1 d S2 v H2 e ev ?_ iv) (fun x S2 cls dd H2 e ev gi2 xr => go.2.1 x S2 e cls dd H2 ev ?_ xr) go.2.2⟩
    · rw [List.getD_eq_getElem?_getD] at hv
      cases h2 : σZ[0]? with
      | none => rw [h2] at hv; cases hv
      | some o => rw [h2] at hv; rw [show o = some _ from hv]
    all_goals
      have ncc : c' ∉ g.G := fun z => by
        have z' := gi'.cd _ rfl
        have z1 : HZ c' = some (CodeO c' q) := z'.1
        rcases List.mem_append.mp z with z | z
        · have : ∀ {l₁ : List Addr} {l₂ : Store}, Paired (fun (p : Addr) (xs : List PyData) => ∃ vs, HZ p = some (.lst vs) ∧ vs.length ≤ sizeLine ∧ IsAll X.K (Fz B' HZ) vs xs) l₁ l₂ → c' ∉ l₁ := by
            intro l₁ l₂ hp
            induction hp with
            | nil => simp
            | cons r t ih =>
              intro hm
              rcases List.mem_cons.mp hm with rfl | hm
              · obtain ⟨vs, e, _⟩ := r
                exact lst_code e _ z1
              · exact ih hm
          exact this gi'.st z
        · obtain ⟨p, hp, e⟩ := List.mem_map.mp z
          obtain ⟨ps, e2, _⟩ := gi'.tabs p hp
          rw [e, z1] at e2
          exact codeO_ne _ (Option.some.inj e2)
      exact gi2.withL (ev _ _ ncc (gi'.cd _ rfl).1) ((gi'.cd _ rfl).2.trans (ev.fz (gi'.noL hL).sub))
/-- no slot with a list of its own -/
def noOwn (m : List Md) : Bool := m.all fun k => decide (k ≠ .own) && decide (k ≠ .own2)
theorem Frame.far {K : PySem.W.Frag} {g : Gx} {B0 B B' : List Addr} {ow : Addr → Nat} {m : List Md} {ρ : Env} {σ : L2.St} {H H' : Hp} (f : Frame K g B0 B ow m ρ σ H) (hn : noOwn m = true) (e : Ex (Fz B H) (Fz B' H')) (hs : ∀ a ∈ g.G, a ∈ B') : Frame K g g.G B' ow m ρ σ H' := by
  refine ⟨f.lm, f.ls, hs, fun _ h => h, fun i md hi => ?_⟩
  have q := f.slot i md hi
  have ne := List.all_eq_true.mp hn md (List.mem_of_getElem? hi)
  rw [Bool.and_eq_true] at ne
  have n1 := of_decide_eq_true ne.1
  have n2 := of_decide_eq_true ne.2
  cases md with
  | un => trivial
  | fz => exact fun d hd => let ⟨v, a, b⟩ := q d hd; ⟨v, a, b.mono e⟩
  | own => exact absurd rfl n1
  | own2 => exact absurd rfl n2
  | st k => exact q
  | lm => exact q
  | cs => exact let ⟨a, vs, ds, h1, h2, h3, h4, h5⟩ := q; ⟨a, vs, ds, h1, h2, e.l h3, h4, h5.mono e⟩
  | ea => exact let ⟨a, x, d, h1, h2, h3⟩ := q; ⟨a, x, d, h1, h2, h3.mono e⟩
/-- a table grows -/
theorem GI.table {K : PySem.W.Frag} {g : Gx} {B : List Addr} {H H1 : Hp} {S : Store} {P : Addr} {q : Str} (i : GI K g B H S) (hL : g.L = none) (hP : (P, q) ∈ g.T) (ev : Evo [P] H H1) (ht : Tabs g.T H1) : GI K g B H1 S ∧ Evo g.G H H1 := by
  have hPG : P ∈ g.G := List.mem_append_right _ (List.mem_map.mpr ⟨_, hP, rfl⟩)
  have evG : Evo g.G H H1 := fun a o n e => ev a o (fun z => n (by rw [List.mem_singleton.mp z]; exact hPG)) e
  have nd := List.nodup_append.mp i.nd
  refine ⟨⟨?_, ht, i.sub, fun a ha z => ?_, i.nd, fun l e => by rw [hL] at e; cases e⟩, evG⟩
  · have aux : ∀ {l₁ : List Addr} {l₂ : Store}, (∀ p ∈ l₁, p ≠ P) → Paired (fun (p : Addr) (xs : List PyData) => ∃ vs, H p = some (.lst vs) ∧ vs.length ≤ sizeLine ∧ IsAll K (Fz B H) vs xs) l₁ l₂ →
        Paired (fun (p : Addr) (xs : List PyData) => ∃ vs, H1 p = some (.lst vs) ∧ vs.length ≤ sizeLine ∧ IsAll K (Fz B H1) vs xs) l₁ l₂ := by
      intro l₁ l₂ hm h
      induction h with
      | nil => exact .nil
      | cons r t ih =>
        obtain ⟨vs, a, z, b⟩ := r
        exact .cons ⟨vs, ev _ _ (fun z => hm _ (List.mem_cons_self ..) (List.mem_singleton.mp z)) a, z, b.mono (evG.fz i.sub)⟩ (ih fun p hp => hm p (List.mem_cons_of_mem _ hp))
    exact aux (fun p hp e => nd.2.2 p hp P (List.mem_map.mpr ⟨_, hP, rfl⟩) e) i.st
  · by_cases e : a = P
    · subst e
      obtain ⟨ps, h1, _⟩ := ht _ hP
      rw [h1] at z
      cases z
    · cases q' : H a with
      | none => exact i.kn a ha q'
      | some o => rw [ev a o (fun z => e (List.mem_singleton.mp z)) q'] at z; cases z
def dLam (n : Nat) (db : (Store → R PyData) → DS) (dl : DE) : DE := fun ρ S => ((db (fun S' => dl ρ S') (env0 n [.none]) S).fin false).calm
/-- x(lambda: body) -/
theorem ev_lam {c : Cc} {m m' : List Md} {x a : Str} {gA cA P : Addr} {k : Nat} {pg : Arguments} {bg : List Stmt} {sg : Scope} {dV kV doc pm cdv ct oc : Value} {an od : Option Addr} {osl : Array (Option Value)} {Ng : List Str}
    {params : Arguments} {body : Expr} {scope : Scope} {db : (Store → R PyData) → DS} {dl : DE} {p lpos pos : Pos} (hL : c.g.L = none) (hw : Wk m m' = true) (hno : noOwn m' = true) (hg : Gl c.X x) (hm : c.X.mg x = some (.ref gA)) (hk : PySem.W.keepIn c.X.K (.ref gA) = true)
    (lk : c.X.K.lookup gA = some ⟨oc, od, .func (PySem.W.fnOf x x pg bg sg dV kV doc pm an cdv ct), osl⟩) (hcg : PySem.W.codeIn c.X.K cdv x = true) (hb : L2.Binds c.X.K (PySem.W.fnOf x x pg bg sg dV kV doc pm an cdv ct) [a] []) (Sg : FnScope Ng [a] sg) (hNg : Ng[0]? = some a) (hva : Vis sg a)
    (hG : LamFn c.X.prog c.X.w c.X.K c.X.mg c.X.base c.g x a Ng sg gA cdv bg db)
    (TB : TabB c.X.base c.X.mg cA P) (hcode : c.X.env.code = .ref cA) (hmT : (P, c.X.env.qual ++ "<lambda>") ∈ c.g.T) (hu : ∀ p ∈ c.g.T, p.1 = P → p.2 = c.X.env.qual ++ "<lambda>") (hr : Room (k + 2) c.X.A) (L : LamS c.X.env.scope scope) (hdef : defaultsOf params c.X.env = ([], []))
    (hbind : ∀ (q : Str) (cl : List (Str × Addr)) (pm cv ctv : Value), bindArgs (PySem.W.kla_fn "<lambda>" q params body scope cl pm cv ctv) ⟨[], []⟩ = pure [])
    (hbody : ∀ (A : Around) (outer : List PySem.Env) (s : Shared) (H : Hp) (E : XK) (f c' : Addr), Room k (A.deeper (lamEnv c.X scope s.heap.objs.size f c')) → EV ⟨c.g, lamCx c.X A outer s H E scope f c', fun cls d _ H' => E cls d H'⟩ m' body dl)
    (hdb : (x == ("__debug__" : Str)) = false := by decide) (hd : (a == ("__debug__" : Str)) = false := by decide) (hcd : (a == ("__classdict__" : Str)) = false := by decide) :
    EV c m (.Call (.Name x p) [.Lambda params body scope lpos] [] pos) (dLam Ng.length db dl) := by
  intro σ H ρ S B0 B ow Q fr gi go
  have hn1 : 1 ≤ Ng.length := by
    have := (List.getElem?_eq_some_iff.mp hNg).1
    omega
  refine PD.WE.of (pe_lamcall3 (t := fun E σ H Q => ∀ A outer s H0 f c', Room k (A.deeper (lamEnv c.X scope s.heap.objs.size f c')) → PD.WE (lamCx c.X A outer s H0 E scope f c') body σ H Q) hg hm hk lk hcg hb Sg hNg hva
    (lam_gives hL hn1 hG _) TB hcode hmT hu hr L hdef hbind (fun A outer s H0 E f c' hr2 => ⟨fun pins s' σ H Q I h => (h A outer s H0 f c' hr2).go pins s' I⟩) hdb hd hcd) ?_
  refine ⟨gi.tabs, fun H1 ev1 ht1 => ?_⟩
  obtain ⟨gi1, evG1⟩ := gi.table hL hmT ev1 ht1
  have fr1 := (fr.weak hw).evo evG1
  refine ⟨B, S, fun S' => dl ρ S', gi1, fun B' S' HZ E Q' ex gi' h1 h2 h3 A outer s H0 f c' hr2 => ?_, fun d S' v H' e ev gi' iv => go.1 d S' v H' ?_ (evG1.trans ev) gi' iv, fun e => go.2.2 e⟩
  · exact hbody A outer s H0 E f c' hr2 σ HZ ρ S' c.g.G B' ow Q' (fr1.far hno ex gi'.sub) gi' ⟨fun d S2 v H2 e ev gi2 iv => h1 d S2 v H2 e ev gi2 iv, fun xx S2 e cls dd H2 ev gi2 xr => h2 xx S2 cls dd H2 e ev gi2 xr, h3⟩
  · show R.calm _ = _
    rw [e]
    rfl
end PD
/-! PDp: the script, the tape, a law's end. -/
namespace PD
open PySem PySem.Spec PyProof.Rows L2 LamX
theorem getD_of {α : Type} {l : List (Option α)} {i : Nat} {x : α} (h : l.getD i none = some x) : l[i]? = some (some x) := by
  rw [List.getD_eq_getElem?_getD] at h
  cases h2 : l[i]? with
  | none => rw [h2] at h; cases h
  | some o => rw [h2] at h; rw [show o = some _ from h]
section
variable {c : Cc} {m : List Md} {ks : List Md} {es : List Expr} {r : DA} {i : Nat} {x : Str} {pos p p2 : Pos}
theorem em_cs (hm : m[i]? = some .cs) (hp : PE c.X (.Name x pos) (tVar i)) (hr : EM c m ks es r) : EM c m (.cs :: ks) (.Name x pos :: es) (dCons (dVar i) r) := by
  intro σ H ρ S B0 B ow Q fr gi g
  refine WA.of (pa_cons hp wa rfl) ?_
  obtain ⟨a, vs, ds, hd, hv, h3, h4, h5⟩ := fr.slot i _ hm
  refine ⟨.ref a, getD_of hv, ?_⟩
  have e : dVar i ρ S = .ok (.list ds) S := by unfold dVar; rw [hd]; rfl
  refine hr σ H ρ S B0 B ow _ fr gi (Goal.bind (r := r ρ S) (k := fun xs S2 => R.ok (PyData.list ds :: xs) S2) (by unfold dCons at g; rw [e] at g; exact g) fun es S2 ws H2 _ ev2 gi2 gd2 g2 => ?_)
  have ex := ev2.fz gi2.sub
  exact g2.ok0 gi2 (.cons ⟨a, vs, ds, rfl, rfl, ex.l h3, h4, h5.mono ex⟩ gd2)
/-- the script's piece -/
theorem eo_csSl {lo hi : Option Expr} {dl dh : DP} (hm : m[i]? = some .cs) (hp : PE c.X (.Name x p) (tVar i)) (hl : EP_ c m lo dl) (hh : EP_ c m hi dh) : EO c m (.Subscript (.Name x p) (.Slice lo hi none p2) pos) (dSl fSlL (dVar i) dl dh) := by
  intro σ H ρ S B0 B ow Q fr gi g
  refine PD.WE.of (pe_slice sl_list hp wo wo) ?_
  obtain ⟨a, vs, ds, hd, hv, h3, h4, h5⟩ := fr.slot i _ hm
  have e : dVar i ρ S = .ok (.list ds) S := by unfold dVar; rw [hd]; rfl
  refine ⟨.ref a, getD_of hv, ?_⟩
  have g : Goal c B H σ ((dl ρ S).bind fun l S2 => (dh ρ S2).bind fun h S3 => ofO (fSlL (.list ds) l h) S3) (fun S' H' v d => ∃ p, v = V.ref p ∧ H p = none ∧ Top c.X.K (p :: B) H' p d ∧ GI c.X.K c.g (p :: B) H' S') Q := by
    unfold dSl at g
    rw [e] at g
    exact g
  refine hl σ H ρ S B0 B ow _ fr gi (g.bind fun l S2 l' H2 _ ev2 gi2 gd2 g2 => ?_)
  cases gd2
  refine hh σ H2 ρ S2 B0 B ow _ (fr.evo ev2) gi2 (g2.bind fun h S3 h' H3 _ ev3 gi3 gd3 g3 => ?_)
  cases gd3
  have ex := (ev2.fz gi2.sub).trans (ev3.fz gi3.sub)
  have s3 := fz_le.l (ex.l h3)
  unfold fSlL at g3
  exact ⟨a, vs, rfl, s3, fun q hq => g3.ok (Ex.new hq).evo (gi3.ex (Ex.new hq)) ⟨q, rfl, free_back ev2 gi2 (free_back ev3 gi3 hq), top_newL hq (Nat.le_trans (cutV_length _ _ _) h4) ((h5.mono ex).cut l h), gi3.fresh (Ex.new hq) hq (by rw [upd_same]; intro z; cases z)⟩⟩
end
/-! ### a new list that all may change from now on -/
def adL (i : Nat) (rest : DS) (ρ : Env) (d : PyData) : RS := match d with | .list xs => rest (ρ.set i (some .none)) [xs] | _ => .bad
def dAdopt (i : Nat) (a : DE) (rest : DS) : DS := fun ρ S => (a ρ S).st ρ fun d _ => adL i rest ρ d
abbrev gTape (g : Gx) (p : Addr) : Gx := ⟨[p], g.T, g.E, g.L⟩
/-- what a law is asked at: the script, the tables of code objects, empty -/
def spLaw (K : PySem.W.Frag) (g : Gx) (n : Nat) : Sp := fun vs H Q _ => ∃ (a : Addr) (ns : List Int), vs = [.ref a] ∧ ns.length ≤ n ∧ (∀ z ∈ ns, Builtin.Int.intBits z ≤ 1048576) ∧ SqL K H a (ns.map V.int) ∧ (∀ p ∈ g.T, H p.1 = some (.tbl #[])) ∧ ∀ H', Q (.bl true) H'
theorem law_ok {P : Program} {w : World} {K : PySem.W.Frag} {mg : Str → Option Value} {base : Heap} {g : Gx} {st : Stmt} {f cA : Addr} {fd : FuncData} {N : List Str} {k n i : Nat} {m2 : List Md} {e : Expr} {y : Str} {pos pos' : Pos} {rest : List Stmt} {a : DE} {dr : DS}
    (hS : g.SA = []) (hL : g.L = none) (hT : (g.T.map (·.1)).Nodup) (hz : n ≤ sizeLine) (F : FunC K "law" "law" st f fd cA) (S : FnScope N ["script"] (defScope st)) (hN : 1 ≤ N.length) (hi : i < N.length)
    (hb : defBody st = .Assign [.Name y pos'] e pos :: rest)
    (hbody : ∀ (A : Around) (outer : List PySem.Env) (s : Shared) (H : Hp) (E : XK), Room k (A.deeper (envOfC "law" (defScope st) s.heap.objs.size f (.ref cA))) →
      EO (fnC g P w K mg base N "law" st f (.ref cA) A outer s H E) (mds0 N.length [.cs]) e a ∧ PS (fnC g P w K mg base N "law" st f (.ref cA) A outer s H E).X (.Assign [.Name y pos'] e pos) (tAsg (PD.WE (fnC g P w K mg base N "law" st f (.ref cA) A outer s H E).X e) (gName i)) ∧
      ∀ p, SVs (fnC (gTape g p) P w K mg base N "law" st f (.ref cA) A outer s H E) ⟨false, [], none⟩ ((mds0 N.length [.cs]).set i (.st 0)) m2 rest dr)
    (pure : ∀ ns : List Int, ns.length ≤ n → (∀ z ∈ ns, Builtin.Int.intBits z ≤ 1048576) → ∃ S', (dAdopt i a dr (env0 N.length [.list (ns.map .int)]) []).fin false = .ok (.bool true) S') :
    FnOk P w K mg base (L2.CX P w) (k + 1) f fd ["script"] (spLaw K g n) := by
  refine F.okX S (fun vs H Q E h => ?_) (fun A outer s H vs Q E hr h => ⟨_, wss, ?_⟩)
  · obtain ⟨a, ns, rfl, _⟩ := h
    rfl
  obtain ⟨p0, ns, rfl, hlen, hbits, hs, htb, hq⟩ := h
  obtain ⟨S', hpure⟩ := pure ns hlen hbits
  obtain ⟨ha, hp, hrest⟩ := hbody A outer s H E hr
  rw [hb]
  have eG : g.G = g.T.map (·.1) := by unfold Gx.G; rw [hS]; rfl
  have hkn : ∀ b ∈ g.G, H b ≠ none := fun b hb z => by
    rw [eG] at hb
    obtain ⟨p, hp, e⟩ := List.mem_map.mp hb
    rw [← e, htb p hp] at z
    cases z
  have gi : GI K g g.G H [] := ⟨by rw [hS]; exact .nil, fun p hp => TabS.nil (htb p hp), fun _ h => h, hkn, by rw [eG]; exact hT, fun l e => by rw [hL] at e; cases e⟩
  have nT : ∀ o : HO, (∀ ps, o ≠ .tbl ps) → H p0 = some o → p0 ∉ g.G := fun o ho e z => by
    have z : p0 ∈ g.T.map (·.1) := eG ▸ z
    obtain ⟨p, hp, e2⟩ := List.mem_map.mp z
    rw [← e2, htb p hp] at e
    exact ho _ (Option.some.inj e).symm
  have hs' : SqL K (Fz g.G H) p0 (ns.map V.int) := by
    rcases hs with (h | ⟨o, h⟩) | h
    · exact .inl (.inl (fz_some.mpr ⟨nT _ (fun _ z => by cases z) h, h⟩))
    · exact .inl (.inr ⟨o, fz_some.mpr ⟨nT _ (fun _ z => by cases z) h, h⟩⟩)
    · exact .inr h
  have fr : Frame K g g.G g.G (fun _ => 0) (mds0 N.length [.cs]) (env0 N.length [.list (ns.map .int)]) (L2.start N [.ref p0]) H :=
    frame0 gi (.cons ⟨p0, _, _, rfl, rfl, hs', by rw [List.length_map]; omega, IsAll.of_ints⟩ .nil) rfl hN
  refine WSs.of (pss_cons hp wss) ?_
  have ne : dAdopt i a dr (env0 N.length [.list (ns.map .int)]) [] ≠ .bad := fun z => by rw [z] at hpure; cases hpure
  cases ea : a (env0 N.length [.list (ns.map .int)]) [] with
  | bad => exact absurd (by unfold dAdopt; rw [ea]; rfl) ne
  | exc x S1 => rw [show dAdopt i a dr (env0 N.length [.list (ns.map .int)]) [] = .exc x _ S1 from by unfold dAdopt; rw [ea]; rfl] at hpure; cases hpure
  | ok d S1 =>
    have ead : dAdopt i a dr (env0 N.length [.list (ns.map .int)]) [] = adL i dr (env0 N.length [.list (ns.map .int)]) d := by unfold dAdopt; rw [ea]; rfl
    rw [ead] at hpure ne
    refine ha _ H _ [] g.G g.G _ _ fr gi ⟨fun d' S2 v H1 e1 ev gi1 gd => ?_, fun x S2 e1 => (by rw [ea] at e1; cases e1), fun z => (by rw [ea] at z; cases z)⟩
    rw [ea] at e1
    cases e1
    obtain ⟨p, rfl, hpn, ht, gi2⟩ := gd
    cases d with
    | list xs =>
      have hpure : (dr ((env0 N.length [.list (ns.map .int)]).set i (some .none)) [xs]).fin false = .ok (.bool true) S' := hpure
      have ne : dr ((env0 N.length [.list (ns.map .int)]).set i (some .none)) [xs] ≠ .bad := ne
      obtain ⟨vs, hpv, hvz, hvi⟩ := top_lst ht
      have npG : p ∉ g.G := fun z => gi.kn p z hpn
      have eT : (gTape g p).G = p :: g.G := by unfold Gx.G; rw [hS]; rfl
      have hlt : i < (mds0 N.length [.cs]).length := by unfold mds0; simp; omega
      have gi3 : GI K (gTape g p) (p :: g.G) H1 [xs] := ⟨.cons ⟨vs, hpv, hvz, hvi⟩ .nil, gi2.tabs, by rw [eT]; exact fun _ h => h, gi2.kn, by rw [eT]; exact List.nodup_cons.mpr ⟨npG, by rw [eG]; exact hT⟩, fun l e => by rw [show (gTape g p).L = g.L from rfl, hL] at e; cases e⟩
      have ex : Ex (Fz g.G H) (Fz (p :: g.G) H1) := fun b o q => by
        have q := fz_some.mp q
        exact fz_some.mpr ⟨fun z => (List.mem_cons.mp z).elim (ne_of_none q.2 hpn) q.1, ev b o q.1 q.2⟩
      have hρ : i < (env0 N.length [.list (ns.map .int)]).length := by rw [← fr.lm]; exact hlt
      have hσ : i < (L2.start N [.ref p0]).length := by rw [fr.ls]; exact hρ
      have fr3 : Frame K (gTape g p) (p :: g.G) (p :: g.G) (fun _ => 0) ((mds0 N.length [.cs]).set i (.st 0)) ((env0 N.length [.list (ns.map .int)]).set i (some .none)) ((L2.start N [.ref p0]).set i (some (.ref p))) H1 := by
        refine ⟨by rw [List.length_set, List.length_set]; exact fr.lm, by rw [List.length_set, List.length_set]; exact fr.ls, fun _ h => h, by rw [eT]; exact fun _ h => h, fun j md hj => ?_⟩
        rw [getD_set hρ, getD_set hσ]
        by_cases ej : i = j
        · subst ej
          rw [List.getElem?_set_self hlt] at hj
          cases hj
          rw [if_pos rfl, if_pos rfl]
          exact ⟨p, rfl, rfl⟩
        · rw [List.getElem?_set_ne ej] at hj
          rw [if_neg ej, if_neg ej]
          have q := fr.slot j md hj
          have hj2 : md = .cs ∨ (md = .fz ∧ 1 ≤ j) := by
            unfold mds0 at hj
            rcases j with _ | j
            · cases hj; exact .inl rfl
            · rw [show ([Md.cs] ++ List.replicate (N.length - [Md.cs].length) Md.fz)[j + 1]? = (List.replicate (N.length - [Md.cs].length) Md.fz)[j]? from rfl, List.getElem?_replicate] at hj
              split at hj
              · cases hj; exact .inr ⟨rfl, by omega⟩
              · cases hj
          rcases hj2 with rfl | ⟨rfl, h1⟩
          · exact let ⟨a, vs, ds, h1, h2, h3, h4, h5⟩ := q; ⟨a, vs, ds, h1, h2, ex.l h3, h4, h5.mono ex⟩
          · intro d e
            rw [env0_out (by simpa using h1)] at e
            cases e
      refine hrest p H1 (p :: g.G) (p :: g.G) _ _ _ H1 [xs] _ ⟨fr3, gi3, Evo.refl _ _, fun a h n => absurd h n⟩ ⟨fun ρ' S' e => ?_, fun d S' e v H' ev gi' rs => ?_, fun ρ' S' e => ?_, fun xc ρ' S' e => ?_, fun e => ne e⟩
      · rw [e] at hpure; cases hpure
      · rw [e] at hpure
        cases hpure
        have rs : Is K (Fz _ H') v (.bool true) := rs
        cases rs
        exact hq H'
      · rw [e] at hpure; cases hpure
      · rw [e] at hpure; cases hpure
    | _ => exact absurd rfl ne
end PD
/-! PDq: several names given at once. -/
namespace PD
open PySem PySem.Spec PyProof.Rows L2
section
variable {K : PySem.W.Frag} {g : Gx} {B0 B B' : List Addr} {ow ow' : Addr → Nat} {m : List Md} {ρ : Env} {σ : L2.St} {H H' : Hp} {i : Nat}
theorem SlotOk.relabel {md : Md} {od : Option PyData} {ov : Option V} (h : SlotOk K g B0 B ow H i md od ov) (e : Ex (Fz B H) (Fz B' H')) (hB : ∀ a ∈ B, a ∈ B') (hO : ∀ a, Own B0 B ow i a → ow' a = i) (ho : ∀ a o, Own B0 B ow i a → H a = some o → H' a = some o) : SlotOk K g B0 B' ow' H' i md od ov := by
  have k : ∀ {a}, Own B0 B ow i a → Own B0 B' ow' i a := fun {a} q => ⟨hB a q.1, q.2.1, hO a q⟩
  cases md with
  | un => trivial
  | fz => exact fun d hd => let ⟨v, a, b⟩ := h d hd; ⟨v, a, b.mono e⟩
  | own =>
    obtain ⟨d, p, h1, h2, h3, h4⟩ := h
    exact ⟨d, p, h1, h2, k h3, h4.mono e fun o q => ho p o h3 q⟩
  | own2 =>
    obtain ⟨ds, p, qs, h1, h2, h3, h4, h5, h6⟩ := h
    refine ⟨ds, p, qs, h1, h2, fun q hq => k (h3 q hq), h4, ho p _ (h3 p (List.mem_cons_self ..)) h5, ?_⟩
    have h3' : ∀ q ∈ qs, Own B0 B ow i q := fun q hq => h3 q (List.mem_cons_of_mem _ hq)
    clear h1 h2 h3 h4 h5
    induction h6 with
    | nil => exact .nil
    | cons r t ih => exact .cons (r.mono e fun o q => ho _ o (h3' _ (List.mem_cons_self ..)) q) (ih fun q hq => h3' q (List.mem_cons_of_mem _ hq))
  | st k => exact h
  | ea => exact let ⟨a, x, d, h1, h2, h3⟩ := h; ⟨a, x, d, h1, h2, h3.mono e⟩
  | lm => exact h
  | cs => exact let ⟨a, vs, ds, h1, h2, h3, h4, h5⟩ := h; ⟨a, vs, ds, h1, h2, e.l h3, h4, h5.mono e⟩
theorem under_ex {p : Addr} (ev : Evo g.G H H') (hp : H p = none) (hs : ∀ a ∈ g.G, a ∈ B) : Ex (Fz B H) (Fz (p :: B) H') := fun a u q => by
  have q := fz_some.mp q
  have ne : a ≠ p := ne_of_none q.2 hp
  exact fz_some.mpr ⟨fun z => (List.mem_cons.mp z).elim ne q.1, ev a u (fun z => q.1 (hs a z)) q.2⟩
/-- a new address, no slot's yet -/
theorem Frame.hold (f : Frame K g B0 B ow m ρ σ H) {p : Addr} (ev : Evo g.G H H') (hs : ∀ a ∈ g.G, a ∈ B) (hp : H p = none) (hn : p ∉ B) : Frame K g B0 (p :: B) (fun a => if a = p then m.length else ow a) m ρ σ H' :=
  ⟨f.lm, f.ls, fun a h => List.mem_cons_of_mem _ (f.sub a h), f.gsub, fun i md h => (f.slot i md h).relabel (under_ex ev hp hs) (fun a h => List.mem_cons_of_mem _ h)
    (fun a h => by
      show (if a = p then m.length else ow a) = i
      rw [if_neg fun (z : a = p) => hn (z ▸ h.1)]
      exact h.2.2) fun a o h q => ev a o (fun z => h.2.1 (f.gsub a z)) q⟩
/-- a slot takes a held list -/
theorem Frame.take (f : Frame K g B0 B ow m ρ σ H) {j : Nat} {p : Addr} {d : PyData} (hj : j < m.length) (hp : p ∈ B ∧ p ∉ B0 ∧ ow p = m.length) (ht : Top K B H p d) : Frame K g B0 B (fun a => if a = p then j else ow a) (m.set j .own) (ρ.set j (some d)) (σ.set j (some (.ref p))) H := by
  have hρ : j < ρ.length := by rw [← f.lm]; exact hj
  have hσ : j < σ.length := by rw [f.ls]; exact hρ
  refine ⟨by simp [f.lm], by simp [f.ls], f.sub, f.gsub, fun k md hk => ?_⟩
  rw [getD_set hρ, getD_set hσ]
  by_cases e : j = k
  · subst e
    rw [List.getElem?_set_self hj] at hk
    cases hk
    rw [if_pos rfl, if_pos rfl]
    exact ⟨d, p, rfl, rfl, ⟨hp.1, hp.2.1, if_pos rfl⟩, ht⟩
  · rw [List.getElem?_set_ne e] at hk
    rw [if_neg e, if_neg e]
    have hkl : k < m.length := (List.getElem?_eq_some_iff.mp hk).1
    refine (f.slot k md hk).relabel (Ex.refl _) (fun _ h => h) (fun a h => ?_) fun a o _ q => q
    show (if a = p then j else ow a) = k
    rw [if_neg fun (z : a = p) => by rw [z] at h; have := h.2.2; omega]
    exact h.2.2
/-- what several expressions gave: frozen values, new lists (at ps) -/
inductive Its (K : PySem.W.Frag) (B : List Addr) (H : Hp) : List Bool → List V → List PyData → List Addr → Prop
  | nil : Its K B H [] [] [] []
  | fz {ks : List Bool} {v : V} {vs : List V} {d : PyData} {ds : List PyData} {ps : List Addr} : Is K (Fz B H) v d → Its K B H ks vs ds ps → Its K B H (false :: ks) (v :: vs) (d :: ds) ps
  | own {ks : List Bool} {p : Addr} {vs : List V} {d : PyData} {ds : List PyData} {ps : List Addr} : Top K B H p d → p ∉ ps → Its K B H ks vs ds ps → Its K B H (true :: ks) (.ref p :: vs) (d :: ds) (p :: ps)
theorem Its.mono (e : Ex (Fz B H) (Fz B H')) (hx : Ex H H') {ks : List Bool} {vs : List V} {ds : List PyData} {ps : List Addr} (h : Its K B H ks vs ds ps) : Its K B H' ks vs ds ps := by
  induction h with
  | nil => exact .nil
  | fz h _ ih => exact .fz (h.mono e) ih
  | own h n _ ih => exact .own (h.mono e fun o q => hx _ o q) n ih
theorem Its.len {ks : List Bool} {vs : List V} {ds : List PyData} {ps : List Addr} (h : Its K B H ks vs ds ps) : vs.length = ks.length := by
  induction h with
  | nil => rfl
  | fz _ _ ih => simp [ih]
  | own _ _ _ ih => simp [ih]
def setMds (m : List Md) : List Nat → List Bool → List Md
  | i :: is, k :: ks => setMds (m.set i (if k = true then .own else .fz)) is ks
  | _, _ => m
theorem Frame.puts : ∀ {is : List Nat} {ks : List Bool} {vs : List V} {ds : List PyData} {ps : List Addr} {ow : Addr → Nat} {m : List Md} {ρ ρ' : Env} {σ : L2.St}, Its K B H ks vs ds ps → Frame K g B0 B ow m ρ σ H → (∀ i ∈ is, i < m.length) → (∀ p ∈ ps, p ∈ B ∧ p ∉ B0 ∧ ow p = m.length) → setAll ρ is ds = some ρ' →
    ∃ ow', Frame K g B0 B ow' (setMds m is ks) ρ' ((is.zip vs).foldl (fun s p => s.set p.1 (some p.2)) σ) H
  | [], ks, vs, ds, ps, ow, m, ρ, ρ', σ, h, f, hi, hp, e => by
    cases h with
    | nil => cases e; exact ⟨ow, f⟩
    | fz _ _ => cases e
    | own _ _ _ => cases e
  | i :: is, ks, vs, ds, ps, ow, m, ρ, ρ', σ, h, f, hi, hp, e => by
    cases h with
    | nil => cases e
    | fz h1 h2 =>
      obtain ⟨ow', q⟩ := Frame.puts (is := is) h2 (f.put (hi i (List.mem_cons_self ..)) h1) (fun j hj => by rw [List.length_set]; exact hi j (List.mem_cons_of_mem _ hj)) (fun p hq => by rw [List.length_set]; exact hp p hq) e
      exact ⟨ow', q⟩
    | own h1 h2 h3 =>
      obtain ⟨ow', qq⟩ := Frame.puts (is := is) h3 (f.take (hi i (List.mem_cons_self ..)) (hp _ (List.mem_cons_self ..)) h1) (fun j hj => by rw [List.length_set]; exact hi j (List.mem_cons_of_mem _ hj)) (fun q hq => by
        rw [List.length_set]
        obtain ⟨q1, q2, q3⟩ := hp q (List.mem_cons_of_mem _ hq)
        exact ⟨q1, q2, (if_neg (by intro z; subst z; exact h2 hq)).trans q3⟩) e
      exact ⟨ow', qq⟩
theorem gfold : ∀ {is : List Nat} {vs : List V} {σ : L2.St} {Q : L2.St → Hp → Prop}, vs.length = is.length → Q ((is.zip vs).foldl (fun s p => s.set p.1 (some p.2)) σ) H → (is.foldr (fun i u => gCons (gName i) u) gNil) vs σ H Q
  | [], [], σ, Q, _, q => ⟨rfl, q⟩
  | [], _ :: _, σ, Q, h, q => by cases h
  | _ :: _, [], σ, Q, h, q => by cases h
  | i :: is, v :: vs, σ, Q, h, q => ⟨v, vs, rfl, gfold (is := is) (by simpa using h) q⟩
end
/-- several expressions, one behind the other -/
def EQ (c : Cc) (m : List Md) (ks : List Bool) (es : List Expr) (den : DA) : Prop := ∀ σ H ρ S B0 B ow (Q : List V → Hp → Prop), Frame c.X.K c.g B0 B ow m ρ σ H → GI c.X.K c.g B H S →
  (∀ ds S' vs H' B' ow' ps, den ρ S = .ok ds S' → Evo c.g.G H H' → GI c.X.K c.g B' H' S' → Frame c.X.K c.g B0 B' ow' m ρ σ H' → Its c.X.K B' H' ks vs ds ps → (∀ p ∈ ps, p ∈ B' ∧ H p = none ∧ ow' p = m.length) → Ex (Fz B H) (Fz B' H') → (∀ a ∈ B, a ∈ B' ∧ ow' a = ow a) → (∀ a ∈ B', a ∉ B → H a = none) → Q vs H') →
  (∀ x S', den ρ S = .exc x S' → XOk c B H σ x S') → den ρ S ≠ .bad → WA c.X es σ H Q
section
variable {c : Cc} {x : Fx} {m m' m1 m2 : List Md} {He : Hp} {B0 B : List Addr} {ow : Addr → Nat} {ρ : Env} {σ : L2.St} {H : Hp} {S : Store} {D : Ends} {ks : List Bool} {e : Expr} {es : List Expr} {a : DE} {r : DA}
theorem eq_nil : EQ c m [] [] dNil := fun σ H ρ S B0 B ow Q fr gi k _ _ => WA.of pa_nil (k [] S [] H B ow [] rfl (Evo.refl _ _) gi fr .nil (fun _ h => by cases h) (Ex.refl _) (fun a h => ⟨h, rfl⟩) (fun a h n => absurd h n))
theorem eq_val (ha : EV c m e a) (hr : EQ c m ks es r) (hs : Pl e := by intro _ _; rfl) : EQ c m (false :: ks) (e :: es) (dCons a r) := by
  intro σ H ρ S B0 B ow Q fr gi k kx kb
  refine WA.of (pa_cons we wa (hs _ _)) (ha σ H ρ S B0 B ow _ fr gi ⟨fun d S1 v H1 e1 ev gi1 gd => ?_, fun x S' e1 => kx x S' (by unfold dCons; rw [e1]; rfl), fun e1 => kb (by unfold dCons; rw [e1]; rfl)⟩)
  refine hr σ H1 ρ S1 B0 B ow _ (fr.evo ev) gi1 (fun ds S' vs H' B' ow' ps e2 ev2 gi2 fr2 it hp ex hB hn => ?_) (fun x S' e2 cls dd H' ev2 gi2 xr => ?_) (fun e2 => kb (by unfold dCons; rw [e1]; simp only [R.bind_ok]; rw [e2]; rfl))
  · exact k (d :: ds) S' (v :: vs) H' B' ow' ps (by unfold dCons; rw [e1]; simp only [R.bind_ok]; rw [e2]; rfl) (ev.trans ev2) gi2 fr2 (.fz (gd.mono ex) it) (fun p hq => ⟨(hp p hq).1, free_back ev gi1 (hp p hq).2.1, (hp p hq).2.2⟩) ((ev.fz gi.sub).trans ex) hB (fun a ha n => free_back ev gi1 (hn a ha n))
  · exact kx x S' (by unfold dCons; rw [e1]; simp only [R.bind_ok]; rw [e2]; rfl) cls dd H' (ev.trans ev2) gi2 xr
theorem eq_own (ha : EO c m e a) (hr : EQ c m ks es r) (hs : Pl e := by intro _ _; rfl) : EQ c m (true :: ks) (e :: es) (dCons a r) := by
  intro σ H ρ S B0 B ow Q fr gi k kx kb
  refine WA.of (pa_cons we wa (hs _ _)) (ha σ H ρ S B0 B ow _ fr gi ⟨fun d S1 v H1 e1 ev gi1 gd => ?_, fun x S' e1 => kx x S' (by unfold dCons; rw [e1]; rfl), fun e1 => kb (by unfold dCons; rw [e1]; rfl)⟩)
  obtain ⟨p, rfl, hp0, ht, gi1'⟩ := gd
  have hn0 : p ∉ B := new_notin gi.kn hp0
  have exP := under_ex ev hp0 gi.sub
  have hpG : p ∉ c.g.G := fun z => hn0 (gi.sub p z)
  refine hr σ H1 ρ S1 B0 (p :: B) _ _ (fr.hold ev gi.sub hp0 hn0) gi1' (fun ds S' vs H' B' ow' ps e2 ev2 gi2 fr2 it hp ex hB hn => ?_) (fun x S' e2 cls dd H' ev2 gi2 xr => ?_) (fun e2 => kb (by unfold dCons; rw [e1]; simp only [R.bind_ok]; rw [e2]; rfl))
  · have hBp := hB p (List.mem_cons_self ..)
    have nps : p ∉ ps := fun z => ht.some (hp p z).2.1
    refine k (d :: ds) S' (.ref p :: vs) H' B' ow' (p :: ps) (by unfold dCons; rw [e1]; simp only [R.bind_ok]; rw [e2]; rfl) (ev.trans ev2) gi2 fr2 (.own (ht.mono ex fun o q => ev2 p o hpG q) nps it) (fun q hq => ?_) (exP.trans ex) (fun a ha => ?_) (fun a ha n => ?_)
    · rcases List.mem_cons.mp hq with rfl | hq
      · exact ⟨hBp.1, hp0, hBp.2.trans (if_pos rfl)⟩
      · exact ⟨(hp q hq).1, free_back ev gi1 (hp q hq).2.1, (hp q hq).2.2⟩
    · have q := hB a (List.mem_cons_of_mem _ ha)
      exact ⟨q.1, q.2.trans (if_neg fun (z : a = p) => hn0 (z ▸ ha))⟩
    · by_cases z : a = p
      · rw [z]; exact hp0
      · exact free_back ev gi1 (hn a ha fun q => (List.mem_cons.mp q).elim z n)
  · exact kx x S' (by unfold dCons; rw [e1]; simp only [R.bind_ok]; rw [e2]; rfl) cls dd H' (ev.trans ev2) (gi2.less (fun a h => List.mem_cons_of_mem _ h) gi.sub) (xr.mono (fz_anti fun a h => List.mem_cons_of_mem _ h))
def dPar (is : List Nat) (as : DA) : DS := fun ρ S => (as ρ S).st ρ fun ds S1 => match setAll ρ is ds with | some ρ1 => .nx ρ1 S1 | none => .bad
theorem sv_parG {is : List Nat} {as : DA} {st : Stmt} {F : Ends → L2.St → List V → Hp → Prop} (ha : EQ c m ks es as) (hi : ∀ i ∈ is, i < m.length) (hl : is.length = ks.length)
    (hp : ∀ ta, PA c.X es ta → PS c.X st (fun D σ H => ta σ H (F D σ)))
    (hF : ∀ D σ vs H1, vs.length = is.length → (∀ Hx, (∀ a o, H1 a = some o → Hx a = some o) → D.nx ((is.zip vs).foldl (fun s p => s.set p.1 (some p.2)) σ) Hx) → F D σ vs H1)
    (hx : WkX m x.mx = true := by rfl) : SV c x m (setMds m is ks) st (dPar is as) := by
  intro He B0 B ow ρ σ H S D i1 w
  refine WS.of (hp _ wa) ?_
  refine ha σ H ρ S B0 B ow _ i1.fr i1.gi (fun ds S' vs H' B' ow' ps e ev gi' fr' it hps ex hB hn => hF _ _ _ _ (by rw [it.len, hl]) fun Hx hxx => ?_) (fun xc S' e => xok i1 hx w xc S' e) (fun e => w.nb (by unfold dPar; rw [e]; rfl))
  cases es' : setAll ρ is ds with
  | none => exact absurd (by unfold dPar; rw [e]; simp only [R.st_ok, es']) w.nb
  | some ρ1 =>
    have exx : Ex H' Hx := hxx
    have frx := fr'.evo exx.evo
    have itx : Its c.X.K B' Hx ks vs ds ps := it.mono exx.fz exx
    obtain ⟨ow2, fr2⟩ := Frame.puts itx frx hi (fun p hq => ⟨(hps p hq).1, fun z => by
      have := i1.gi.kn p (i1.fr.sub p z)
      exact this (hps p hq).2.1, (hps p hq).2.2⟩) es'
    refine w.nx ρ1 S' (by unfold dPar; rw [e]; simp only [R.st_ok, es']) _ Hx B' ow2 ⟨fr2, gi'.ex exx, i1.ev.trans (ev.trans exx.evo), fun p hq hq0 => ?_⟩ (ex.trans exx.fz)
    by_cases hb : p ∈ B
    · exact i1.nw p hb hq0
    · exact free_back i1.ev i1.gi (hn p hq hb)
/-- two, three at once -/
theorem sv_par2 {i j : Nat} {as : DA} {tgs : List Expr} {kt k0 : Nat} {q1 q2 q3 : Pos} {k1 k2 : Bool} (ha : EQ c m [k1, k2] es as) (hi : ∀ k ∈ [i, j], k < m.length) (hp : ∀ ta, PA c.X es ta → PS c.X (.Assign [.Tuple tgs kt q1] (.Tuple es k0 q2) q3) (tPar i j ta)) (hx : WkX m x.mx = true := by rfl) : SV c x m (setMds m [i, j] [k1, k2]) (.Assign [.Tuple tgs kt q1] (.Tuple es k0 q2) q3) (dPar [i, j] as) :=
  sv_parG (F := fun D σ vs H1 => ∃ v w, vs = [v, w] ∧ D.nx ((σ.set i (some v)).set j (some w)) H1) ha hi rfl hp (fun D σ vs H1 hl k => by
    match vs, hl with
    | [v, w], _ => exact ⟨v, w, rfl, k H1 fun _ _ h => h⟩) hx
theorem sv_par3 {i j l : Nat} {as : DA} {tgs : List Expr} {kt k0 : Nat} {q1 q2 q3 : Pos} {k1 k2 k3 : Bool} (ha : EQ c m [k1, k2, k3] es as) (hi : ∀ k ∈ [i, j, l], k < m.length) (hp : ∀ ta, PA c.X es ta → PS c.X (.Assign [.Tuple tgs kt q1] (.Tuple es k0 q2) q3) (tPar3 i j l ta)) (hx : WkX m x.mx = true := by rfl) : SV c x m (setMds m [i, j, l] [k1, k2, k3]) (.Assign [.Tuple tgs kt q1] (.Tuple es k0 q2) q3) (dPar [i, j, l] as) :=
  sv_parG (F := fun D σ vs H1 => ∃ u v w, vs = [u, v, w] ∧ D.nx (((σ.set i (some u)).set j (some v)).set l (some w)) H1) ha hi rfl hp (fun D σ vs H1 hl k => by
    match vs, hl with
    | [u, v, w], _ => exact ⟨u, v, w, rfl, k H1 fun _ _ h => h⟩) hx
/-- .. by a tuple that is made and taken apart -/
theorem sv_parT {is : List Nat} {as : DA} {tgs : List Expr} {kt k0 : Nat} {q1 q2 q3 : Pos} (ha : EQ c m ks es as) (hi : ∀ i ∈ is, i < m.length) (hl : is.length = ks.length) (hz : is.length ≤ 1000) (hp : ∀ ta, PA c.X es ta → PS c.X (.Assign [.Tuple tgs kt q1] (.Tuple es k0 q2) q3) (tAsg (tTup ta) (gTup c.X.K is.length (is.foldr (fun i u => gCons (gName i) u) gNil)))) (hx : WkX m x.mx = true := by rfl) :
    SV c x m (setMds m is ks) (.Assign [.Tuple tgs kt q1] (.Tuple es k0 q2) q3) (dPar is as) :=
  sv_parG (F := fun D σ xs H1 => xs.length ≤ sizeLine ∧ ∀ p, H1 p = none → gTup c.X.K is.length (is.foldr (fun i u => gCons (gName i) u) gNil) (.ref p) σ (upd H1 p (.tup xs)) D.nx) ha hi hl hp (fun D σ vs H1 hlen k => by
    refine ⟨by rw [hlen]; exact Nat.le_trans hz (by decide), fun p hp => ⟨p, vs, rfl, .inl (.inl upd_same), hlen, gfold hlen (k _ fun a o h => Ex.new hp a o h)⟩⟩) hx
end
end PD
/-! PDr: enumerate of a list, a tuple, a text, from 0 or from a start. -/
namespace PD
open PySem PySem.Spec PyProof.Rows L2
open Sem (wp)
theorem meets_enum1 {v : Value} {o : Obj} {Hq : Heap → Prop} (Bg : Begins v o Hq) :
    Meets (Builtin.«enumerate.__new__» ⟨[.type "enumerate", v], []⟩) (fun _ R s => Hq s.heap ∧
      R (.ok (.ret (.ref (s.heap.push o).objs.size))) { s with heap := (s.heap.push o).push { cls := .type "enumerate", data := .fields #[.none, .bool false, .ref s.heap.objs.size, rawInt 0, .none, .none] } }) :=
  .of_wp fun prog w A R s h => by
    obtain ⟨hp, gg, dd, tk, os⟩ := s; obtain ⟨a1, h⟩ := h
    have hsubE := sub_enumerate
    have step1 : ∀ {A' : Around} {E : Value → Shared → Prop} {Q : Value → Shared → Prop}, Q (.ref hp.objs.size) ⟨hp.push o, gg, dd, tk, os⟩ → wpAny (model prog w) A' (pyIter v) Q E ⟨hp, gg, dd, tk, os⟩ :=
      fun q => Bg.iter prog w _ _ ⟨hp, gg, dd, tk, os⟩ _ a1 q
    wp_walk using step1
    refine wpAny_stack_any fun st => wpAny_pure ?_
    split
    · rename_i c _ _ _ _ _
      cases (c == Value.type "enumerate")
      · wp_walk using step1
        exact ⟨_, rfl, h⟩
      · wp_walk using step1
        exact ⟨_, rfl, h⟩
    · wp_walk using step1
      exact ⟨_, rfl, h⟩
theorem enum_begins1 {prog : Program} {w : World} {A : Around} {E : Value → Shared → Prop} {s : Shared} {v : Value} {o : Obj} {Hq : Heap → Prop} {Q : Value → Shared → Prop} (Bg : Begins v o Hq) (h1 : Hq s.heap)
    (h : ∀ h', IsEnum h' (s.heap.objs.size + 1) s.heap.objs.size 0 .none → h'.get? s.heap.objs.size = some o → h'.objs.size = s.heap.objs.size + 2 →
      (∀ b o, s.heap.get? b = some o → h'.get? b = some o) → Q (.ref (s.heap.objs.size + 1)) { s with heap := h' }) :
    wpAny (model prog w) A (call (.type "enumerate") [v]) Q E s := by
  refine callType_new F.called_enumerate (by decide) (F.typeCall_enumerate_1 _) (F.newCall_enumerate_1 _) (fun obj => F.args_object_init_2 obj _) F.entry_enumerate_new
    (meets_enum1 Bg) ⟨h1, ?_⟩
  have z1 : (s.heap.push o).objs.size = s.heap.objs.size + 1 := Heap.size_push ..
  show _ ∧ _
  rw [z1]
  have ie : IsEnum ((s.heap.push o).push { cls := .type "enumerate", data := .fields #[.none, .bool false, .ref s.heap.objs.size, rawInt 0, .none, .none] }) (s.heap.objs.size + 1) s.heap.objs.size 0 .none := by
    have q := Heap.get?_push_size (s.heap.push o) (o := { cls := .type "enumerate", data := .fields #[.none, .bool false, .ref s.heap.objs.size, rawInt 0, .none, .none] }) rfl
    rw [z1] at q; exact q
  refine ⟨⟨_, ie, rfl⟩, h _ ie (Heap.get?_push_of_some _ (Heap.get?_push_size _ Bg.free)) (by rw [Heap.size_push, z1]) fun b o x => Heap.get?_push_of_some _ (Heap.get?_push_of_some _ x)⟩
/-- what is gone through -/
inductive Src where
  | l (a : Addr) | t (a : Addr) | s (z : Str)
def Src.v : Src → V | .l a => .ref a | .t a => .ref a | .s z => .str z
def Src.At (K : PySem.W.Frag) (r : Src) (H : Hp) (xs : List V) : Prop := match r with | .l a => SqL K H a xs | .t a => SqT K H a xs | .s z => xs = signs z
def Src.it (r : Src) (it : Addr) (i : Nat) (h : Heap) : Prop := match r with | .l a => h.IsListIter it a i | .t a => h.IsTupleIter it a i | .s z => ∃ t, h.IsStrIter it (strIterType z) z t i
/-- each item in a new pair, counted from k -/
def Ien (K : PySem.W.Frag) (k : Int) (r : Src) (n : Nat) : It :=
  ⟨fun i H => ∃ (xs : List V) (x : V), r.At K H xs ∧ xs.length = n ∧ xs[i]? = some x, fun i H v H' => ∃ T x, v = .ref T ∧ H T = none ∧ H' = upd H T (.tup [.int (k + (i : Nat)), x]) ∧ ∀ xs, r.At K H xs → xs[i]? = some x, fun i H => ∃ xs : List V, r.At K H xs ∧ xs.length = n ∧ n ≤ i⟩
theorem src_draws {X : Cx} {pins : List (Addr × Obj)} {σ : L2.St} {H : Hp} {s : Shared} (I : Inv X pins σ H s) (hc : X.calm = true) {r : Src} {xs : List V} {it e : Addr} {i : Nat} {k : Int} {old : Value} (hs : r.At X.K H xs) (hit : r.it it i s.heap) (he : IsEnum s.heap e it k old) (hne : e ≠ it) :
    ∃ (fp : List Addr) (P : Nat → Value → Prop) (St : Nat → Heap → Prop), Draws X.prog X.w X.A.in1 it fp xs.length P St ∧ St i s.heap ∧ e ∉ fp ∧ (∀ u, P i u → ∃ x, xs[i]? = some x ∧ RelV x u) ∧ ∀ j h', St j h' → r.it it j h' := by
  have hd : X.A.in1.handled = none := I.ok.hd hc
  cases r with
  | l a =>
    obtain ⟨its, rv, p, hz⟩ := I.list hs
    have el := rv.length
    have nai : a ≠ it := fun z => by
      obtain ⟨o, h1, h2, h3⟩ := hit
      obtain ⟨o', h4, h5, _⟩ := p.isList
      rw [z, h1] at h4
      cases h4
      rw [h2] at h5
      exact absurd h5 (by decide)
    refine ⟨_, _, _, (show xs.length = its.toArray.size by simpa using el) ▸ Draws.list hd it a nai its.toArray, ⟨hit, p.isList⟩, fun z => ?_, fun u hu => ?_, fun j h' st => st.1⟩
    · rcases List.mem_cons.mp z with z | z
      · exact hne z
      · obtain rfl := List.mem_singleton.mp z
        obtain ⟨o', h4, h5, _⟩ := p.isList
        rw [he] at h4
        cases h4
        exact absurd (show Value.type "enumerate" = Value.type "list" from h5) (by decide)
    · have hu : its.toArray[i]? = some u := hu
      have hi : i < xs.length := by
        have := (Array.getElem?_eq_some_iff.mp hu).1
        simpa [el] using this
      obtain ⟨w, hw, rw'⟩ := rv.get (List.getElem?_eq_getElem hi)
      rw [List.getElem?_toArray, hw] at hu
      cases hu
      exact ⟨_, List.getElem?_eq_getElem hi, rw'⟩
  | t a =>
    obtain ⟨its, rv, p, hz⟩ := I.tuple hs
    have p' : s.heap.IsTuple a its.toArray := p
    have el := rv.length
    have nai : a ≠ it := fun z => by
      obtain ⟨o, h1, h2, h3⟩ := hit
      obtain ⟨o', h4, h5, _⟩ := p'
      rw [z, h1] at h4
      cases h4
      rw [h2] at h5
      exact absurd h5 (by decide)
    refine ⟨_, _, _, (show xs.length = its.toArray.size by simpa using el) ▸ Draws.tuple hd it a nai its.toArray, ⟨hit, p'⟩, fun z => ?_, fun u hu => ?_, fun j h' st => st.1⟩
    · rcases List.mem_cons.mp z with z | z
      · exact hne z
      · obtain rfl := List.mem_singleton.mp z
        obtain ⟨o', h4, h5, _⟩ := p'
        rw [he] at h4
        cases h4
        exact absurd (show Value.type "enumerate" = Value.type "tuple" from h5) (by decide)
    · have hu : its.toArray[i]? = some u := hu
      have hi : i < xs.length := by
        have := (Array.getElem?_eq_some_iff.mp hu).1
        simpa [el] using this
      obtain ⟨w, hw, rw'⟩ := rv.get (List.getElem?_eq_getElem hi)
      rw [List.getElem?_toArray, hw] at hu
      cases hu
      exact ⟨_, List.getElem?_eq_getElem hi, rw'⟩
  | s z =>
    obtain ⟨t, hit⟩ := hit
    have hs : xs = signs z := hs
    subst hs
    have el : (signs z).length = z.cps.size := by unfold signs; rw [List.length_map, Array.length_toList]
    refine ⟨_, _, _, el ▸ Draws.text hd it z t, hit, fun q => hne (List.mem_singleton.mp q), fun u hu => ?_, fun j h' st => ⟨t, st⟩⟩
    obtain ⟨cc, t2, h1, rfl⟩ := hu
    refine ⟨.str ⟨#[cc]⟩, ?_, ⟨t2, rfl⟩⟩
    unfold signs
    rw [List.getElem?_map, Array.getElem?_toList, h1]
    rfl
theorem Src.it_keep {r : Src} {it : Addr} {i : Nat} {h h' : Heap} (st : r.it it i h) (k : ∀ o, h.get? it = some o → h'.get? it = some o) : r.it it i h' := by
  cases r with
  | l a => exact Heap.IsListIter.at st fun o e => k o e
  | t a => exact Heap.IsTupleIter.at st fun o e => k o e
  | s z => obtain ⟨t, o, ho, q⟩ := st; exact ⟨t, o, k o ho, q⟩
theorem Src.it_obj {r : Src} {it : Addr} {i : Nat} {h : Heap} (st : r.it it i h) : ∃ o, h.get? it = some o ∧ ∀ v, o.data ≠ .cell v := by
  cases r with
  | l a => obtain ⟨o, ho, _, hd⟩ := st; exact ⟨o, ho, fun v z => by rw [hd] at z; cases z⟩
  | t a => obtain ⟨o, ho, _, hd⟩ := st; exact ⟨o, ho, fun v z => by rw [hd] at z; cases z⟩
  | s z => obtain ⟨t, o, ho, _, hd⟩ := st; exact ⟨o, ho, fun v z => by rw [hd] at z; cases z⟩
theorem Src.At_inj {X : Cx} {pins : List (Addr × Obj)} {σ : L2.St} {H : Hp} {s : Shared} (I : Inv X pins σ H s) {r : Src} {xs ys : List V} (h1 : r.At X.K H xs) (h2 : r.At X.K H ys) : xs = ys := by
  cases r with
  | l a => exact I.list_inj h1 h2
  | t a => exact I.tuple_inj h1 h2
  | s z => exact (show xs = signs z from h1).trans (show ys = signs z from h2).symm
theorem turn_en {P : Program} {w : World} {K : PySem.W.Frag} {elts : List Expr} {kk : Nat} {tpos : Pos} (r : Src) (k : Int) (n : Nat) (e it : Addr) :
    Turn P w K (.Tuple elts kk tpos) (Ien K k r n) [e, it] e (fun i h => (∃ old, IsEnum h e it (k + ((i : Nat) : Int)) old) ∧ r.it it i h ∧ e ≠ it ∧ i ≤ n) where
  mem := by simp
  obj := fun i h st b hb => by
    obtain ⟨⟨old, he⟩, hi, _⟩ := st
    rcases (show b = e ∨ b = it by simpa using hb) with z | z
    · rw [z]; exact ⟨_, he, fun v q => nomatch q⟩
    · rw [z]; exact Src.it_obj hi
  keep := fun i h h' st q => let ⟨⟨old, he⟩, hi, hne, hn⟩ := st; ⟨⟨old, q e (by simp) _ he⟩, Src.it_keep hi fun o z => q it (by simp) o z, hne, hn⟩
  item := by
    intro X hP hw hK hc i pins s σ H E I hf st hg
    subst hP hw hK
    obtain ⟨⟨old, he⟩, hit, hne, hin⟩ := st
    obtain ⟨xs, x, hq, hxl, hx⟩ := hg
    obtain ⟨fp, P, St, D, st0, hef, hP, hSt⟩ := src_draws I hc hq hit he hne
    have hlt : i < xs.length := (List.getElem?_eq_some_iff.mp hx).1
    have hel : e < s.heap.objs.size := Heap.lt_size he
    have hil : it < s.heap.objs.size := by obtain ⟨_, q, _⟩ := Src.it_obj hit; exact Heap.lt_size q
    refine wpAny_pyNext_enum_itemC D he st0 hlt hne hef fun u h' tk hPu ho st' hT hsz hk => ?_
    obtain ⟨x', hx', ru⟩ := hP u hPu
    rw [hx] at hx'
    cases hx'
    refine ⟨_, rfl, wpAny_letOwnedTupleGo_enum (s := { s with heap := h', toks := tk + 1 }) ho fun h'' he' sb => ?_⟩
    have hT2 : h''.get? s.heap.objs.size = some { cls := .type "tuple", data := .seq #[.int (k + (i : Nat)) tk, u] } := (sb.2 _ (Nat.ne_of_gt hel)).trans hT
    have new : ObjOk X.prog X.w (upd H s.heap.objs.size (.tup [.int (k + (i : Nat)), x])) h'' s.heap.objs.size (.tup [.int (k + (i : Nat)), x]) :=
      ⟨by show 2 ≤ sizeLine; decide, [.int (k + (i : Nat)) tk, u], .cons ⟨_, rfl⟩ (.cons ru .nil), ⟨_, hT2, rfl, _, rfl⟩⟩
    have I1 : Inv X pins σ (upd H s.heap.objs.size (.tup [.int (k + (i : Nat)), x])) { s with heap := h'', toks := tk + 1 } :=
      I.turnedNew (ch := [e, it]) (fun b ob hb q => (sb.2 b (fun z => hb (by simp [z]))).trans (hk b ob (fun z => hb (by simp [z])) (fun z => hb (by simp [z])) q)) hf (Nat.le_refl _) new
    refine ⟨.ref s.heap.objs.size, _, I1, rfl, ⟨_, x, rfl, I.hok.fresh (Nat.le_refl _), rfl, fun ys hy => by rw [Src.At_inj I hy hq]; exact hx⟩, ⟨⟨u, ?_⟩, Src.it_keep (hSt _ _ st') fun o q => (sb.2 it (Ne.symm hne)).trans q, hne, by omega⟩, fun b hb => ?_⟩
    · have e1 : k + ((i + 1 : Nat) : Int) = k + (i : Int) + 1 := by omega
      rw [e1]; exact he'
    · have hb' : b < s.heap.objs.size := by
        rcases (show b = e ∨ b = it by simpa using hb) with z | z
        · rw [z]; exact hel
        · rw [z]; exact hil
      rw [upd_ne (Nat.ne_of_lt hb')]
      exact (hf b hb).1
  done := by
    intro X hP hw hK hc i pins s σ H E I hf st hg
    subst hP hw hK
    obtain ⟨⟨old, he⟩, hit, hne, hin⟩ := st
    obtain ⟨xs, hq, hxl, hx⟩ := hg
    obtain ⟨fp, P, St, D, st0, hef, hP, hSt⟩ := src_draws I hc hq hit he hne
    obtain ⟨f0, f1, f2, f3, f4, f5⟩ := hf it (by simp)
    obtain rfl : i = xs.length := by omega
    exact wpAny_pyNext_enum_endD D he st0 fun h' eb => ⟨rfl, I.turned (t' := s.toks) (fun b o hb q => eb b o hb q) f0 f1 f3 f4 f5⟩
  self := fun A i s Q E st h => let ⟨⟨_, he⟩, _⟩ := st; wpAny_pyIter_enum he h
theorem src_begins {X : Cx} {pins : List (Addr × Obj)} {σ : L2.St} {H : Hp} {s : Shared} (I : Inv X pins σ H s) {r : Src} {xs : List V} {u : Value} (hs : r.At X.K H xs) (ru : RelV r.v u) :
    ∃ (o : Obj) (Hq : Heap → Prop), Begins u o Hq ∧ Hq s.heap ∧ ∀ (h' : Heap) (it : Addr), h'.get? it = some o → r.it it 0 h' := by
  cases r with
  | l a =>
    obtain rfl : u = Value.ref a := ru
    obtain ⟨its, rv, p, hz⟩ := I.list hs
    exact ⟨_, _, begins_list a its.toArray, p.isList, fun h' it e => ⟨_, e, rfl, rfl⟩⟩
  | t a =>
    obtain rfl : u = Value.ref a := ru
    obtain ⟨its, rv, p, hz⟩ := I.tuple hs
    exact ⟨_, _, begins_tuple a its.toArray, p, fun h' it e => ⟨_, e, rfl, rfl⟩⟩
  | s z =>
    obtain ⟨t, rfl⟩ := ru
    exact ⟨_, _, begins_text z t, trivial, fun h' it e => ⟨t, _, e, rfl, rfl⟩⟩
/-- behind the call's argument -/
theorem en_iter {X : Cx} {pins : List (Addr × Obj)} {σ : L2.St} {H : Hp} {s : Shared} {elts : List Expr} {kk : Nat} {tpos : Pos} (I : Inv X pins σ H s) {r : Src} {xs : List V} {k : Int} {R : It → Hp → Prop} {h' : Heap}
    (he : IsEnum h' (s.heap.objs.size + 1) s.heap.objs.size k .none) (hit : r.it s.heap.objs.size 0 h') (hk : ∀ b o, s.heap.get? b = some o → h'.get? b = some o) (q : R (Ien X.K k r xs.length) H) :
    wpAny (model X.prog X.w) X.A (pyIter (.ref (s.heap.objs.size + 1))) (PIE X pins σ (.Tuple elts kk tpos) R) X.xe { s with heap := h' } := by
  refine wpAny_pyIter_enum he ?_
  have I2 : Inv X pins σ H { s with heap := h' } := I.kept (t' := s.toks) hk
  refine ⟨s.heap.objs.size + 1, [s.heap.objs.size + 1, s.heap.objs.size], _, _, H, rfl, I2, turn_en r k xs.length (s.heap.objs.size + 1) s.heap.objs.size, ⟨⟨.none, by rw [show k + ((0 : Nat) : Int) = k from by omega]; exact he⟩, hit, Nat.succ_ne_self _, Nat.zero_le _⟩, fun b hb => ?_, q⟩
  have hle : s.heap.objs.size ≤ b := by
    rcases (show b = s.heap.objs.size + 1 ∨ b = s.heap.objs.size by simpa using hb) with z | z
    · rw [z]; exact Nat.le_add_right _ _
    · rw [z]; exact Nat.le_refl _
  exact I.fpOk hle (I.hok.fresh hle)
def iEn1 (K : PySem.W.Frag) (ta : TA) : TI := fun σ H R => ta σ H fun vs H1 => ∃ (r : Src) (xs : List V), vs = [r.v] ∧ r.At K H1 xs ∧ R (Ien K 0 r xs.length) H1
def iEn2 (K : PySem.W.Frag) (ta : TA) : TI := fun σ H R => ta σ H fun vs H1 => ∃ (r : Src) (xs : List V) (k : Int), vs = [r.v, .int k] ∧ -(2 ^ 63) ≤ k ∧ k < 2 ^ 63 ∧ r.At K H1 xs ∧ R (Ien K k r xs.length) H1
theorem pi_en1 {X : Cx} {e : Expr} {ta : TA} {p pos tpos : Pos} {elts : List Expr} {kk : Nat} (hg : Gl X "enumerate") (hm : X.mg "enumerate" = none) (ha : PA X [e] ta) (hs : starEach [e] X.env = [(false, eval e X.env)] := by rfl) :
    PI X (.Tuple elts kk tpos) (.Call (.Name "enumerate" p) [e] [] pos) (iEn1 X.K ta) := by
  refine ⟨fun pins s σ H R I h => Call_ (ld_blt I hg hm boot_enumerate (PyProof.Rows.callWith_type1 (thn (ha.run pos pins s σ H _ I h) fun us s1 hh => ?_) hs rfl))⟩
  obtain ⟨vs, H1, I1, r1, r, xs, rfl, ha, q⟩ := hh
  cases r1 with
  | cons ru rr =>
    cases rr
    obtain ⟨o, Hq, Bg, hq, hit⟩ := src_begins I1 ha ru
    exact enum_begins1 Bg hq fun h' he ho hsz hk => en_iter I1 he (hit _ _ ho) hk q
theorem pi_en2 {X : Cx} {e e2 : Expr} {ta : TA} {p pos tpos : Pos} {elts : List Expr} {kk : Nat} (hg : Gl X "enumerate") (hm : X.mg "enumerate" = none) (ha : PA X [e, e2] ta) (hs : starEach [e, e2] X.env = (false, eval e X.env) :: starEach [e2] X.env := by rfl) (hpl : (backTo pos (starEach [e2] X.env)).any (·.1) = false := by rfl) :
    PI X (.Tuple elts kk tpos) (.Call (.Name "enumerate" p) [e, e2] [] pos) (iEn2 X.K ta) := by
  refine ⟨fun pins s σ H R I h => Call_ (ld_blt I hg hm boot_enumerate (PyProof.Rows.callWith_type1 (thn (ha.run pos pins s σ H _ I h) fun us s1 hh => ?_) hs hpl))⟩
  obtain ⟨vs, H1, I1, r1, r, xs, k, rfl, hk0, hk1, ha, q⟩ := hh
  cases r1 with
  | cons ru rr =>
    cases rr with
    | cons rk rr =>
      cases rr
      obtain ⟨t, rfl⟩ := rk
      obtain ⟨o, Hq, Bg, hq, hit⟩ := src_begins I1 ha ru
      exact enum_begins Bg hq hk0 hk1 fun h' he ho hsz hk => en_iter I1 he (hit _ _ ho) hk q
section
variable {c : Cc} {m : List Md} {a b : Expr} {da db : DE} {p pos tpos : Pos} {elts : List Expr} {kk : Nat}
def fEnum (k : Int) (x : PyData) : Option (List PyData) := (seqD x).map (enumD k)
theorem src_of {K : PySem.W.Frag} {B : List Addr} {H : Hp} {v : V} {d : PyData} {ds : List PyData} (h : Is K (Fz B H) v d) (e : seqD d = some ds) : ∃ (r : Src) (xs : List V), r.v = v ∧ r.At K (Fz B H) xs ∧ IsAll K (Fz B H) xs ds ∧ xs.length ≤ sizeLine := by
  unfold seqD at e
  split at e
  · cases e
    cases h with
    | lst h1 z r => exact ⟨.l _, _, rfl, .inl (.inl h1), r, z⟩
  · cases e
    cases h with
    | tup h1 z r => exact ⟨.t _, _, rfl, h1, r, z⟩
  · split at e
    · rename_i z hz
      cases e
      cases h
      exact ⟨.s _, signs _, rfl, rfl, signs_is _, by unfold signs; rw [List.length_map, Array.length_toList]; exact sz_le hz⟩
    · cases e
  · cases e
theorem Src.At_mono {K : PySem.W.Frag} {H H' : Hp} {r : Src} {xs : List V} (e : Ex H H') (h : r.At K H xs) : r.At K H' xs := by
  cases r with
  | l a => exact e.l h
  | t a => exact e.t h
  | s z => exact h
theorem itF_en {K : PySem.W.Frag} {B : List Addr} {H : Hp} {r : Src} {xs : List V} {ds : List PyData} {k : Int} (ha : r.At K (Fz B H) xs) (hi : IsAll K (Fz B H) xs ds) (hz : xs.length ≤ sizeLine) : ItF K B H (Ien K k r xs.length) (enumD k ds) := by
  refine ⟨by rw [enumD_len, ← hi.length]; exact hz, fun B' H' e kn => ⟨fun i d hd => ?_, fun i hl => ?_⟩⟩
  · obtain ⟨x, e1, rfl⟩ := enumD_get _ _ _ _ hd
    obtain ⟨v, hv, iv⟩ := hi.get e1
    have s1 : r.At K H' xs := Src.At_mono fz_le (Src.At_mono e ha)
    refine ⟨⟨xs, v, s1, rfl, hv⟩, fun q H3 ⟨T, x', e3, hT, e4, k1⟩ => ?_⟩
    subst e3 e4
    have q1 := k1 xs s1
    rw [hv] at q1
    cases q1
    exact ⟨Ex.new hT, pair_is kn hT (.int _) (iv.mono e)⟩
  · rw [enumD_len, ← hi.length] at hl
    exact ⟨xs, Src.At_mono fz_le (Src.At_mono e ha), rfl, hl⟩
theorem if_enum (hg : Gl c.X "enumerate") (hm : c.X.mg "enumerate" = none) (ha : EV c m a da) (hs : Pl a := by intro _ _; rfl) : IFo c m (.Tuple elts kk tpos) (.Call (.Name "enumerate" p) [a] [] pos) (dIt (fEnum 0) da) := by
  intro σ H ρ S B0 B ow Q fr gi g
  refine WI.of (pi_en1 hg hm (pa_cons we pa_nil (hs _ _)) (hs _ _)) (ha σ H ρ S B0 B ow _ fr gi (g.bind fun d S1 v H1 _ ev1 gi1 gd1 g1 => ?_))
  unfold fEnum at g1
  cases e : seqD d with
  | none => rw [e] at g1; exact absurd rfl g1.not_bad
  | some ds =>
    rw [e] at g1
    obtain ⟨r, xs, rfl, h1, h2, h3⟩ := src_of gd1 e
    exact ⟨r, xs, rfl, Src.At_mono fz_le h1, g1.ok0 gi1 (itF_en h1 h2 h3)⟩
def fEnum2 (x y : PyData) : Option (List PyData) := match y with | .int k => if decide (-(2 ^ 63) ≤ k) && decide (k < 2 ^ 63) then fEnum k x else none | _ => none
theorem if_enum2 (hg : Gl c.X "enumerate") (hm : c.X.mg "enumerate" = none) (ha : EV c m a da) (hb : EV c m b db) (hs : Pl a := by intro _ _; rfl) (hs2 : Pl b := by intro _ _; rfl) : IFo c m (.Tuple elts kk tpos) (.Call (.Name "enumerate" p) [a, b] [] pos) (dIt2 fEnum2 da db) := by
  intro σ H ρ S B0 B ow Q fr gi g
  refine WI.of (pi_en2 hg hm (pa_cons we (pa_cons we pa_nil (hs2 _ _)) (hs _ _)) (hs _ _) (by rw [hs2 _ _]; rfl)) (ha σ H ρ S B0 B ow _ fr gi (g.bind fun d S1 v H1 _ ev1 gi1 gd1 g1 => ?_))
  refine hb σ H1 ρ S1 B0 B ow _ (fr.evo ev1) gi1 (g1.bind fun d2 S2 v2 H2 _ ev2 gi2 gd2 g2 => ?_)
  have gd1 := gd1.mono (ev2.fz gi2.sub)
  cases d2 with
  | int k =>
    simp only [fEnum2] at g2
    split at g2
    · rename_i hc
      rw [Bool.and_eq_true] at hc
      unfold fEnum at g2
      cases e : seqD d with
      | none => rw [e] at g2; exact absurd rfl g2.not_bad
      | some ds =>
        rw [e] at g2
        obtain ⟨r, xs, rfl, h1, h2, h3⟩ := src_of gd1 e
        cases gd2
        exact ⟨r, xs, k, rfl, of_decide_eq_true hc.1, of_decide_eq_true hc.2, Src.At_mono fz_le h1, g2.ok0 gi2 (itF_en h1 h2 h3)⟩
    · exact absurd rfl g2.not_bad
  | _ => exact absurd rfl g2.not_bad
end
end PD
/-! PDs: texts: as often as told, turned round, split, joined; an empty dict. -/
namespace PD
open PySem PySem.Spec PyProof.Rows L2
def repS (z : Str) (k : Int) : Str := ⟨(List.replicate k.toNat z.cps.toList).flatten.toArray⟩
def fRepS : PyData → PyData → Option PyData
  | .str z, .int k => if decide (-1000 ≤ k ∧ k ≤ 1000 ∧ z.length ≤ 1000) then some (.str (repS z k)) else none
  | _, _ => none
def rRepS : R2 := fun x y H Q => ∃ (z : Str) (k : Int), x = .str z ∧ y = .int k ∧ -1000 ≤ k ∧ k ≤ 1000 ∧ z.length ≤ 1000 ∧ Q (.str (repS z k)) H
theorem foldl_arr (l : List Nat) : ∀ (m : Nat) (acc : List Nat), (List.replicate m l.toArray).foldl (· ++ ·) acc.toArray = (acc ++ (List.replicate m l).flatten).toArray
  | 0, acc => by simp
  | m + 1, acc => by
    rw [List.replicate_succ, List.foldl_cons, List.append_toArray, foldl_arr l m (acc ++ l), List.replicate_succ, List.flatten_cons, List.append_assoc]
theorem repS_len (z : Str) (k : Int) (h1 : k ≤ 1000) (h2 : z.length ≤ 1000) : (repS z k).length ≤ 1000000 := by
  show ((List.replicate k.toNat z.cps.toList).flatten.toArray).size ≤ 1000000
  rw [List.size_toArray, lm_len_rep_flat, Array.length_toList]
  have h2 : z.cps.size ≤ 1000 := h2
  have a1 : k.toNat * z.cps.size ≤ 1000 * 1000 := Nat.mul_le_mul (by omega) h2
  omega
theorem op_repS {X : Cx} : OpR X (binaryOp .Mult) rRepS := by
  intro pins s σ H x y v u Q I rx ry h
  obtain ⟨z, k, rfl, rfl, k0, k1, hz, q⟩ := h
  obtain ⟨t, rfl⟩ := rx
  obtain ⟨t2, rfl⟩ := ry
  have hz' : z.cps.size ≤ 1000 := hz
  refine P.mul_str (by rw [decide_eq_false (by omega), decide_eq_false (by omega)]; rfl) (fun h1 _ => ?_) (fun h1 _ => ?_) ?_
  · have : (1000 : Int) ≤ (2 ^ 63 - 1) / k := by
      rw [Int.le_ediv_iff_mul_le (by omega)]
      omega
    omega
  · have a1 : z.length * k.toNat ≤ 1000 * 1000 := Nat.mul_le_mul hz (by omega)
    unfold Builtin.Str.tooLong
    exact decide_eq_false (by rw [sizeLine_eq]; omega)
  · by_cases h1 : k < 1
    · rw [if_pos h1]
      refine ⟨by decide, .str _, H, I.tok _, ⟨_, rfl⟩, ?_⟩
      have e : repS z k = Str.empty := by
        unfold repS
        rw [show k.toNat = 0 from by omega]
        rfl
      rw [e] at q
      exact q
    · rw [if_neg h1]
      by_cases h2 : (k == 1 || z.length == 0) = true
      · rw [if_pos h2]
        have e : repS z k = z := by
          unfold repS
          rcases Bool.or_eq_true _ _ ▸ h2 with h | h
          · rw [beq_iff_eq.mp h]
            simp
          · have h : z.cps.size = 0 := beq_iff_eq.mp h
            have e0 : z.cps = #[] := Array.eq_empty_of_size_eq_zero h
            cases z with
            | mk a => subst e0; simp
        rw [e] at q
        exact ⟨.str z, H, I, ⟨t, rfl⟩, q⟩
      · rw [if_neg h2]
        have e : (⟨(List.replicate k.toNat z.cps).foldl (· ++ ·) #[]⟩ : Str) = repS z k := by
          unfold repS
          have := foldl_arr z.cps.toList k.toNat []
          simp only [List.nil_append, Array.toArray_toList] at this
          rw [this]
        rw [e]
        exact ⟨Nat.le_trans (repS_len z k k1 hz) (by rw [sizeLine_eq]; decide), .str _, H, I.tok _, ⟨_, rfl⟩, q⟩
theorem opd_repS {K : PySem.W.Frag} {g : Gx} : OpD K g rRepS fRepS := by
  intro B H x y dx dy d Q hn hg hx hy e k
  unfold fRepS at e
  split at e
  · split at e
    · rename_i hc
      cases e
      have hc := of_decide_eq_true hc
      obtain rfl := hx.str
      obtain rfl := hy.int
      exact ⟨_, _, rfl, rfl, hc.1, hc.2.1, hc.2.2, k _ _ (Ex.refl _) (.str _)⟩
    · cases e
  · cases e
/-- z[::-1] -/
def revS (z : Str) : Str := ⟨z.cps.toList.reverse.toArray⟩
theorem rev_pick (z : Str) : ((Builtin.Str.strSliceIndices none none (-1) z.length).filterMap (z.cps[·]?)).toArray = (revS z).cps := by
  have e : Builtin.Str.strSliceIndices none none (-1) z.length = (List.range z.length).map fun k => z.length - 1 - k := by
    unfold Builtin.Str.strSliceIndices
    exact PySem.W.krv_sliceRange z.length
  rw [e, PySem.W.krv_range]
  show _ = z.cps.toList.reverse.toArray
  rw [show z.length = z.cps.size from rfl, List.filterMap_reverse, PySem.W.krv_all]
theorem pe_revS {X : Cx} {e : Expr} {te : TE} {k : Nat} {p1 p2 p3 pos : Pos} (he : PE X e te) : PE X (.Subscript e (.Slice none none (some (.UnaryOp .USub (.Constant (.int 1) k p1) p2)) p3) pos) (fun σ H Q => te σ H fun x H1 => ∃ z, x = .str z ∧ z.length ≤ sizeLine ∧ Q (.str (revS z)) H1) := by
  refine ⟨fun pins s σ H Q I h => Subscript_ (thn (he.run pins s σ H _ I h) fun v s1 hh => ?_)⟩
  obtain ⟨x, H1, I1, r1, z, rfl, hz, q⟩ := hh
  obtain ⟨t, rfl⟩ := r1
  have part : PO X (some (.UnaryOp .USub (.Constant (.int 1) k p1) p2)) (tPart (tUn (rU fun i => .int (-i)) (tC (.int 1)))) := po_some (pe_un un_neg pe_int)
  refine wpAny_Slice (thn (po_none.run pins s1 σ H1 (fun o H2 => o = none ∧ H2 = H1) I1 ⟨rfl, rfl⟩) fun vl s2 hl => ?_)
  obtain ⟨l, H2, I2, pl, rfl, rfl⟩ := hl
  refine thn (po_none.run pins s2 σ _ (fun o H3 => o = none ∧ H3 = _) I2 ⟨rfl, rfl⟩) fun vu s3 hu => ?_
  obtain ⟨u, H3, I3, pu, rfl, rfl⟩ := hu
  refine thn (part.run pins s3 σ _ (fun o H4 => o = some (-1) ∧ H4 = _) I3 ⟨1, rfl, -1, rfl, rfl, rfl⟩) fun vs s4 hs => ?_
  obtain ⟨o, H4, I4, ps, rfl, rfl⟩ := hs
  obtain ⟨l', rfl, el⟩ := IsPart.raw pl
  obtain ⟨u', rfl, eu⟩ := IsPart.raw pu
  obtain ⟨s', rfl, es⟩ := IsPart.raw ps
  have I5 := I4.kept (t' := s4.toks) (h' := s4.heap.push { cls := .type "slice", data := .fields #[partValue l', partValue u', partValue s'] }) fun b ob q => Heap.get?_push_of_some _ q
  show wpAny (model X.prog X.w) X.A (subscriptTail e (.Slice none none (some (.UnaryOp .USub (.Constant (.int 1) k p1) p2)) p3) (.str z t) (.ref s4.heap.objs.size)) (EP X pins σ Q) X.xe { s4 with heap := s4.heap.push { cls := .type "slice", data := .fields #[partValue l', partValue u', partValue s'] } }
  refine tail_any (ops := [.str z t, .ref s4.heap.objs.size]) (typeIs_str _ _ _) F.slot_str_getitem.lookup ?_ (by with_unfolding_all rfl)
  have e1 : l'.map (·.1) = none := el
  have e2 : u'.map (·.1) = none := eu
  have e3 : s'.map (·.1) = some (-1) := es
  refine wpAny_getItem_str_slice (l := l') (u := u') (st := s') ⟨_, Heap.get?_push_size _ rfl, rfl, rfl⟩ (by rw [e3]; rfl) ?_
  unfold sliceMade slicePicked
  rw [e1, e2, e3]
  rw [if_neg (by simp)]
  have e4 : (⟨((Builtin.Str.strSliceIndices none none ((some (-1 : Int)).getD 1) z.length).filterMap (z.cps[·]?)).toArray⟩ : Str) = revS z := by
    rw [show (some (-1 : Int)).getD 1 = -1 from rfl, rev_pick]
  rw [e4]
  refine ⟨?_, .str _, _, I5.tok _, ⟨_, rfl⟩, q⟩
  show (z.cps.toList.reverse.toArray).size ≤ sizeLine
  rw [List.size_toArray, List.length_reverse, Array.length_toList]
  exact hz
section
variable {c : Cc} {m : List Md} {a b : Expr} {da db : DE} {pos apos p p1 p2 p3 : Pos} {k : Nat}
def fRevS : PyData → Option PyData | .str z => if sz z.length then some (.str (revS z)) else none | _ => none
theorem ev_revS (ha : EV c m a da) : EV c m (.Subscript a (.Slice none none (some (.UnaryOp .USub (.Constant (.int 1) k p1) p2)) p3) pos) (d1 fRevS da) := by
  intro σ H ρ S B0 B ow Q fr gi g
  refine PD.WE.of (pe_revS we) (ha σ H ρ S B0 B ow _ fr gi (g.bind fun d S1 v H1 _ ev1 gi1 gd1 g1 => ?_))
  unfold fRevS at g1
  split at g1
  · split at g1
    · rename_i hz
      cases gd1
      exact ⟨_, rfl, sz_le hz, g1.ok0 gi1 (.str _)⟩
    · exact absurd rfl g1.not_bad
  · exact absurd rfl g1.not_bad
def fTimes : PyData → PyData → Option PyData := orF fMul fRepS
theorem ev_times (ha : EB c m a da) (hb : EB c m b db) : EV c m (.BinOp a .Mult b pos) (d2 fTimes da db) :=
  ev_op (OpR.or (OpR.or op_mul (OpR.or op_repT op_rep)) op_repS) (OpD.or (OpD.or (opd_I cMul_ok) (OpD.or opd_repT opo_repL.d orF_or) orF_or) opd_repS orF_or) ha hb
/-- a text's method with one argument -/
def dM1 (F : Str → PyData → Option PyData) (a b : DE) : DE := fun ρ S => (a ρ S).bind fun x S1 => match x with | .str z => (b ρ S1).bind fun y S2 => ofO (F z y) S2 | _ => .bad
def fSplit (z : Str) : PyData → Option PyData
  | .str b => if b.length != 0 && decide (z.length + 2 ≤ sizeLine) then some (.list ((Txt.split z b).map .str)) else none
  | _ => none
theorem eo_split (ha : EV c m a da) (hb : EV c m b db) (hs : Pl b := by intro _ _; rfl) (hbase : attributeBase a "split" c.X.env (eval a c.X.env) = eval a c.X.env := by rfl) (hline : (apos.endLine == pos.line) = true := by rfl) : EO c m (.Call (.Attribute a "split" apos) [b] [] pos) (dM1 fSplit da db) := by
  intro σ H ρ S B0 B ow Q fr gi g
  refine PD.WE.of (pe_split we we (hs _ _) hbase hline) (ha σ H ρ S B0 B ow _ fr gi (g.bind fun d S1 v H1 _ ev1 gi1 gd1 g1 => ?_))
  cases gd1 with
  | str z =>
    refine ⟨⟨z, rfl⟩, hb σ H1 ρ S1 B0 B ow _ (fr.evo ev1) gi1 (g1.bind fun e S2 w H2 _ ev2 gi2 gd2 g2 => ?_)⟩
    cases gd2 with
    | str bb =>
      simp only [fSplit] at g2
      split at g2
      · rename_i hc
        rw [Bool.and_eq_true] at hc
        have hz := of_decide_eq_true hc.2
        refine ⟨z, bb, rfl, rfl, by simpa using hc.1, hz, fun p hp => g2.ok (Ex.new hp).evo (gi2.ex (Ex.new hp)) ⟨p, rfl, free_back ev1 gi1 (free_back ev2 gi2 hp), ?_, gi2.fresh (Ex.new hp) hp (by rw [upd_same]; intro z; cases z)⟩⟩
        exact top_newL hp (by rw [List.length_map]; exact Nat.le_trans (PyProof.Rows.split_le z bb) hz) IsAll.of_strs
      · exact absurd rfl g2.not_bad
    | _ => exact absurd rfl g2.not_bad
  | _ => exact absurd rfl g1.not_bad
def strsOf : List PyData → Option (List Str)
  | [] => some []
  | .str i :: r => (strsOf r).map (i :: ·)
  | _ :: _ => none
theorem strsOf_eq : ∀ {ds : List PyData} {ns : List Str}, strsOf ds = some ns → ds = ns.map .str
  | [], ns, h => by cases h; rfl
  | d :: r, ns, h => by
    cases d with
    | str i =>
      unfold strsOf at h
      cases e : strsOf r with
      | none => rw [e] at h; cases h
      | some ms => rw [e] at h; cases h; rw [strsOf_eq e]; rfl
    | _ => cases h
@[simp] theorem strsOf_strs : ∀ {ns : List Str}, strsOf (ns.map .str) = some ns
  | [] => rfl
  | n :: ns => by
    show (strsOf (ns.map .str)).map (n :: ·) = _
    rw [strsOf_strs]
    rfl
def fJoin (z : Str) : PyData → Option PyData
  | .list xs => (strsOf xs).bind fun ys => if decide ((ys.map (·.length)).sum + ys.length * z.length ≤ 16777216) then some (.str (Txt.join z ys)) else none
  | _ => none
theorem ev_join (ha : EV c m a da) (hb : EB c m b db) (hs : Pl b := by intro _ _; rfl) (hbase : attributeBase a "join" c.X.env (eval a c.X.env) = eval a c.X.env := by rfl) (hline : (apos.endLine == pos.line) = true := by rfl) : EV c m (.Call (.Attribute a "join" apos) [b] [] pos) (dM1 fJoin da db) := by
  intro σ H ρ S B0 B ow Q fr gi g
  refine PD.WE.of (pe_join we we (hs _ _) hbase hline) (ha σ H ρ S B0 B ow _ fr gi (g.bind fun d S1 v H1 _ ev1 gi1 gd1 g1 => ?_))
  cases gd1 with
  | str z =>
    refine ⟨⟨z, rfl⟩, hb σ H1 ρ S1 B0 B ow _ (fr.evo ev1) gi1 (g1.bind fun e S2 w H2 _ ev2 gi2 gd2 g2 => ?_)⟩
    cases e with
    | list xs =>
      simp only [fJoin] at g2
      cases q : strsOf xs with
      | none => rw [q] at g2; exact absurd rfl g2.not_bad
      | some ys =>
        rw [q] at g2
        simp only [Option.bind_some] at g2
        split at g2
        · rename_i hc
          obtain rfl := strsOf_eq q
          obtain ⟨p, vs, rfl, h1, s1, z1⟩ := Rb.lst gd2 gi2.sub
          obtain rfl := h1.strs
          exact ⟨z, p, ys, rfl, rfl, .inl (.inl (.inl (s1 H2 (Evo.refl _ _)))), of_decide_eq_true hc, g2.ok0 gi2 (.str _)⟩
        · exact absurd rfl g2.not_bad
    | _ => exact absurd rfl g2.not_bad
  | _ => exact absurd rfl g1.not_bad
/-- {} -/
theorem eo_dnew : EO c m (.Dict [] [] pos) (dC (.dict [])) := fun σ H ρ S B0 B ow Q fr gi g =>
  PD.WE.of pe_dnewK fun p hp => g.ok (Ex.new hp).evo (gi.ex (Ex.new hp)) ⟨p, rfl, hp, .inr (.inl ⟨[], [], rfl, upd_same, rfl, .nil⟩), gi.fresh (Ex.new hp) hp (by rw [upd_same]; intro z; cases z)⟩
end
end PD
/-! PDt: shorthands for printed derivations. -/
namespace PD
open PySem PySem.Spec PyProof.Rows L2
/-- what holds of a context -/
structure Kx (c : Cc) (k : Nat) : Prop where
  hr : Room k c.X.A
  tk : Takes c.X c.W
  hc : c.X.calm = true
  hN : c.X.N.Nodup
/-- the units that comparisons want -/
structure Ux (c : Cc) : Prop where
  u65 : c.X.A.units + 65 < cLine
theorem Ux.u64 {c : Cc} (h : Ux c) : c.X.A.units + 64 < cLine := by have := h.u65; omega
theorem Ux.u {c : Cc} (h : Ux c) : c.X.A.units < cLine := by have := h.u65; omega
theorem Kx.ux {c : Cc} {k : Nat} (h : Kx c k) : Ux c := ⟨by have := h.hr.un; omega⟩
/-- what holds in an except suite -/
structure Kxs (c : Cc) : Prop where
  hN : c.X.N.Nodup
  ux : Ux c
theorem Kx.sx {c : Cc} {k : Nat} {a : Addr} {oe : Obj} {d : Option Addr} {pn : List (Addr × Obj)} {xc : Xc} (h : Kx c k) : Kxs (c.suite a oe d pn xc) := ⟨h.hN, ⟨h.ux.u65⟩⟩
theorem Kx.u64 {c : Cc} {k : Nat} (h : Kx c k) : c.X.A.units + 64 < cLine := by have := h.hr.un; omega
theorem Kx.u65 {c : Cc} {k : Nat} (h : Kx c k) : c.X.A.units + 65 < cLine := by have := h.hr.un; omega
theorem Kx.u {c : Cc} {k : Nat} (h : Kx c k) : c.X.A.units < cLine := by have := h.hr.un; omega
theorem Kx.inn {c : Cc} {k : Nat} (h : Kx c k) (scope : Scope) (s : Shared) (H : Hp) (C : Addr) (cl : List (Str × Addr)) (fp : List Addr) : Kx (c.in scope s H C cl fp) k := ⟨h.hr, LamX.takes0, h.hc, h.hN⟩
theorem kx_fn {g : Gx} {P : Program} {w : World} {K : PySem.W.Frag} {mg : Str → Option Value} {base : Heap} {N ps : List Str} {qual : Str} {st : Stmt} {f : Addr} {cdv : Value} {A : Around} {outer : List PySem.Env} {s : Shared} {H : Hp} {E : XK} {k : Nat}
    (S : FnScope N ps (defScope st)) (hr : Room k (A.deeper (envOfC qual (defScope st) s.heap.objs.size f cdv))) : Kx (fnC g P w K mg base N qual st f cdv A outer s H E) k := ⟨hr, takes_of rfl rfl rfl rfl, rfl, S.nd⟩
section
variable {c : Cc} {m : List Md} {a b e : Expr} {da db de : DE} {pos : Pos} {k : Nat}
theorem vv (i : Nat) {x : Str} {pos : Pos} (hm : m[i]? = some .fz := by rfl) (hN : c.X.N[i]? = some x := by rfl) (hv : Vis c.X.env.scope x := by first | exact Or.inl rfl | exact Or.inr (Or.inl rfl) | exact Or.inr (Or.inr rfl)) (hd : (x == ("__debug__" : Str)) = false := by decide)
    (hcd : (x == ("__classdict__" : Str)) = false := by decide) : EV c m (.Name x pos) (dVar i) := ev_var hm (pe_var hN hv hd hcd)
theorem vo (i : Nat) {x : Str} {pos : Pos} (hm : m[i]? = some .own := by rfl) (hN : c.X.N[i]? = some x := by rfl) (hv : Vis c.X.env.scope x := by first | exact Or.inl rfl | exact Or.inr (Or.inl rfl) | exact Or.inr (Or.inr rfl)) (hd : (x == ("__debug__" : Str)) = false := by decide)
    (hcd : (x == ("__classdict__" : Str)) = false := by decide) : EB c m (.Name x pos) (dVar i) := eb_own hm (pe_var hN hv hd hcd)
/-- a comparison by its relation -/
def Rel (c : Cc) (op : CmpOp) (F : PyData → PyData → Option PyData) : Prop := ∃ r, OpR c.X (compareOp op) r ∧ OpD c.X.K c.g r F
theorem rel_eq (h : Ux c) : Rel c .Eq fEq := ⟨_, OpR.or op_eq (op_eqD h.u64), OpD.or opd_eqS opd_eqD orF_or⟩
theorem rel_ne (h : Ux c) : Rel c .NotEq fNe := ⟨_, OpR.or op_ne (op_neD h.u64), OpD.or opd_neS opd_neD orF_or⟩
theorem rel_lt (h : Ux c) : Rel c .Lt fLt := ⟨_, OpR.or op_lt (op_ltT h.u), OpD.or opd_B (opd_TT fun _ _ _ _ => rfl) orF_or⟩
theorem rel_le (h : Ux c) : Rel c .LtE fLe := ⟨_, OpR.or op_le (op_leT h.u), OpD.or opd_B (opd_TT (f := lexLeI) fun x y H Q => by simp only [rLeT, lexLe_eq]) orF_or⟩
def fGt : PyData → PyData → Option PyData := fB fun i j => decide (j < i)
def fGe : PyData → PyData → Option PyData := fB fun i j => decide (j ≤ i)
theorem rel_gt (h : Ux c) : Rel c .Gt fGt := ⟨_, op_gt, opd_B⟩
theorem rel_ge (h : Ux c) : Rel c .GtE fGe := ⟨_, op_ge, opd_B⟩
theorem rel_is (h : Ux c) : Rel c .Is (fIsN false) := ⟨_, OpR.or op_isN op_isBl, opd_is false⟩
theorem rel_isNot (h : Ux c) : Rel c .IsNot (fIsN true) := ⟨_, OpR.or op_notN op_notBl, opd_is true⟩
theorem rel_in (h : Ux c) : Rel c .In (fIn false) := ⟨_, OpR.or op_in_seq (OpR.or (op_inS h.u65) op_in_sign), opd_in false⟩
theorem rel_notIn (h : Ux c) : Rel c .NotIn (fIn true) := ⟨_, OpR.or op_notIn_seq (OpR.or (op_notInS h.u65) op_notIn_sign), opd_in true⟩
theorem c1 {op : CmpOp} {F : PyData → PyData → Option PyData} (r : Rel c op F) (ha : EB c m a da) (hb : EB c m b db) (hm : behindInMarks op b = false := by with_unfolding_all rfl) : EV c m (.Compare a [op] [b] pos) (d2 F da db) :=
  let ⟨_, h1, h2⟩ := r
  ev_cmp h1 h2 ha hb hm
theorem c2 {op op' : CmpOp} {F F' : PyData → PyData → Option PyData} (r : Rel c op F) (r' : Rel c op' F') (ha : EB c m a da) (hb : EB c m b db) (hc : EB c m e de) (hm : lastMarks [op, op'] [b, e] = false := by with_unfolding_all rfl) : EV c m (.Compare a [op, op'] [b, e] pos) (dChain F F' da db de) :=
  let ⟨_, h1, h2⟩ := r
  let ⟨_, h3, h4⟩ := r'
  ev_chain h1 h3 h2 h4 ha hb hc hm
theorem t1 {op : CmpOp} {F : PyData → PyData → Option PyData} (r : Rel c op F) (ha : EB c m a da) (hb : EB c m b db) (hm : behindInMarks op b = false := by with_unfolding_all rfl) : ET c m (.Compare a [op] [b] pos) (dTest (d2 F da db)) :=
  let ⟨_, h1, h2⟩ := r
  et_cmp h1 h2 ha hb hm
theorem t2 {op op' : CmpOp} {F F' : PyData → PyData → Option PyData} (r : Rel c op F) (r' : Rel c op' F') (ha : EB c m a da) (hb : EB c m b db) (hc : EB c m e de) (hm : lastMarks [op, op'] [b, e] = false := by with_unfolding_all rfl) : ET c m (.Compare a [op, op'] [b, e] pos) (dTest (dChain F F' da db de)) :=
  let ⟨_, h1, h2⟩ := r
  let ⟨_, h3, h4⟩ := r'
  et_chain h1 h3 h2 h4 ha hb hc hm
/-- a list, a tuple, a text gone through -/
theorem if_any {tg : Expr} (ha : EV c m a da) : IFo c m tg a (dIt seqD da) := by
  intro σ H ρ S B0 B ow Q fr gi g
  cases e : da ρ S with
  | bad => exact absurd (by unfold dIt; rw [e]; rfl) g.2.2
  | exc x S1 =>
    refine WI.of (pi_list we) (ha σ H ρ S B0 B ow _ fr gi (g.bind fun d S1 v H1 q ev1 gi1 gd1 g1 => ?_))
    rw [e] at q; cases q
  | ok d S1 =>
    cases d with
    | list xs =>
      refine if_seq ha σ H ρ S B0 B ow Q fr gi ?_
      have e2 : dIt sqD da ρ S = dIt seqD da ρ S := by unfold dIt; rw [e]; rfl
      rw [e2]; exact g
    | tuple xs =>
      refine if_seq ha σ H ρ S B0 B ow Q fr gi ?_
      have e2 : dIt sqD da ρ S = dIt seqD da ρ S := by unfold dIt; rw [e]; rfl
      rw [e2]; exact g
    | str z =>
      refine if_str ha σ H ρ S B0 B ow Q fr gi ?_
      have e2 : dIt strD da ρ S = dIt seqD da ρ S := by unfold dIt; rw [e]; rfl
      rw [e2]; exact g
    | _ => exact absurd (by unfold dIt; rw [e]; rfl) g.2.2
/-- targets -/
theorem pgn {X : Cx} (i : Nat) {x : Str} {pos : Pos} (hN : X.N.Nodup) (hi : X.N[i]? = some x := by rfl) (hx : Loc X.env.scope x := by first | exact Or.inl rfl | exact Or.inr rfl) (hf : X.fn x = true ∨ X.env.scope.names.lookup x = some .local := by first | exact .inl rfl | exact .inr rfl) : PG X (.Name x pos) (gName i) := pg_name hN hi hx hf
end
end PD
/-! PDu: exceptions by tables of their classes; the rest that printed derivations want. -/
namespace PD
open PySem PySem.Spec PyProof.Rows L2
def inS (l : List Str) (n : Str) : Bool := l.contains n
/-- all that is asked of a class of exceptions -/
def excB (K : PySem.W.Frag) (C : Addr) : Bool :=
  PySem.W.keepIn K (.ref C) && (decide (PySem.W.subIn K (.ref C) (.type "BaseException") = some true) && (decide (PySem.W.typeIn K (.ref C) = some (.type "type")) && (decide (PySem.W.findIn K (.ref C) "__getattribute__" = some (some (.builtin "BaseException.__getattribute__"))) &&
  (decide (PySem.W.findIn K (.ref C) "__getattr__" = some none) && (PySem.W.hasDictIn K C && (decide (PySem.W.findIn K (.ref C) "__class__" = some (some (.builtin "object.__class__"))) && (decide (PySem.W.specialIn K (.builtin "object.__class__") "__get__" = some (some (.builtin "getset_descriptor.__get__"))) &&
  (decide (PySem.W.takesIn K (.builtin "object.__class__") = some true) && decide (PySem.W.mroIn K C (.type "object") = some true)))))))))
structure ExcT (K : PySem.W.Frag) (C : Addr) : Prop where
  k : PySem.W.keepIn K (.ref C) = true
  b : PySem.W.subIn K (.ref C) (.type "BaseException") = some true
  t : PySem.W.typeIn K (.ref C) = some (.type "type")
  c : ExcC K C
  f : XfC K C
theorem excB_ok {K : PySem.W.Frag} {C : Addr} (h : excB K C = true) : ExcT K C := by
  unfold excB at h
  simp only [Bool.and_eq_true, decide_eq_true_eq] at h
  obtain ⟨h1, h2, h3, h4, h5, h6, h7, h8, h9, h10⟩ := h
  exact ⟨h1, h2, h3, ⟨h4, h5, h2, h6, h7, h8, h9, h10⟩, ⟨h4, h5, h2, h6⟩⟩
/-- what is said of each class of the table -/
theorem by_cls {mg : Str → Option Value} {F : Str → Addr → Prop} {l : List (Str × Addr)} (hg : ∀ p ∈ l, mg p.1 = some (.ref p.2)) (h : ∀ p ∈ l, F p.1 p.2) : ∀ n ∈ l.map (·.1), ∀ E, mg n = some (.ref E) → F n E := fun n hn E e => by
  obtain ⟨p, hp, rfl⟩ := List.mem_map.mp hn
  have := hg p hp
  rw [e] at this
  cases this
  exact h p hp
theorem all_cls {q : Str × Addr → Bool} {l : List (Str × Addr)} (h : l.all q = true) : ∀ p ∈ l, q p = true := List.all_eq_true.mp h
theorem Kx.tr {c : Cc} {k : Nat} (h : Kx c k) {pn : List (Addr × Obj)} {xe : Value → Shared → Prop} {W : WX} (t : Takes (c.X.tr pn xe) W) : Kx ⟨c.g, c.X.tr pn xe, W⟩ k := ⟨h.hr, t, h.hc, h.hN⟩
section
variable {c : Cc} {m : List Md} {a : Addr} {oe : Obj} {d : Option Addr} {pn : List (Addr × Obj)} {xc : Xc} {E : Addr} {cs : List Str} {p1 p2 p pos : Pos} {y C : Str}
theorem ev_isK (i : Nat) {D : Addr} {tb : Str → Bool} (hx : ∀ n ∈ cs, ∀ E, c.X.mg n = some (.ref E) → ExcT c.X.K E) (ht : ∀ n ∈ cs, ∀ E, c.X.mg n = some (.ref E) → PySem.W.kitOne c.X.K (.ref E) (.ref D) = some (tb n)) (hz : Zc (.ref E) d oe) (hf : ∃ vs, oe.data = .fields vs) (hE : c.X.mg xc.cls = some (.ref E)) (hcs : xc.cls ∈ cs)
    (hD : c.X.mg C = some (.ref D)) (hmg : c.X.mg "isinstance" = none) (hm : m[i]? = some .ea := by rfl) (hp : PE (c.suite a oe d pn xc).X (.Name y p1) (tVar i) := by exact pv _) (hg : Gl (c.suite a oe d pn xc).X "isinstance" := by rfl) (hgC : Gl (c.suite a oe d pn xc).X C := by rfl) (hdb : (C == ("__debug__" : Str)) = false := by decide) :
    EV (c.suite a oe d pn xc) m (.Call (.Name "isinstance" p) [.Name y p1, .Name C p2] [] pos) (dXc (some (.bool (tb xc.cls)))) :=
  ev_isX (v := .ref D) (hx _ hcs _ hE).c hz hf hm hp (pe_glob hgC hD rfl hdb) (fun u h => h) (ht _ hcs _ hE) hg hmg
theorem ev_isKb (i : Nat) {T : String} {tb : Str → Bool} (hx : ∀ n ∈ cs, ∀ E, c.X.mg n = some (.ref E) → ExcT c.X.K E) (ht : ∀ n ∈ cs, ∀ E, c.X.mg n = some (.ref E) → PySem.W.kitOne c.X.K (.ref E) (.type T) = some (tb n)) (hz : Zc (.ref E) d oe) (hf : ∃ vs, oe.data = .fields vs) (hE : c.X.mg xc.cls = some (.ref E)) (hcs : xc.cls ∈ cs)
    (hD : c.X.mg C = none) (hb : bootBuiltins C = some (.type T)) (hmg : c.X.mg "isinstance" = none) (hm : m[i]? = some .ea := by rfl) (hp : PE (c.suite a oe d pn xc).X (.Name y p1) (tVar i) := by exact pv _) (hg : Gl (c.suite a oe d pn xc).X "isinstance" := by rfl) (hgC : Gl (c.suite a oe d pn xc).X C := by rfl) (hn : C ≠ "__name__" := by decide) (hdb : (C == ("__debug__" : Str)) = false := by decide) :
    EV (c.suite a oe d pn xc) m (.Call (.Name "isinstance" p) [.Name y p1, .Name C p2] [] pos) (dXc (some (.bool (tb xc.cls)))) :=
  ev_isX (v := .ty T) (hx _ hcs _ hE).c hz hf hm hp (pe_bltn (v := .ty T) hgC hD hb rfl hn hdb) (fun u h => h) (ht _ hcs _ hE) hg hmg
theorem ev_fldK (i : Nat) {f : Str} (hx : ∀ n ∈ cs, ∀ E, c.X.mg n = some (.ref E) → ExcT c.X.K E) (hno : ∀ n ∈ cs, ∀ E, c.X.mg n = some (.ref E) → PySem.W.findIn c.X.K (.ref E) f = some none) (hz : Zc (.ref E) d oe) (hf : ∃ vs, oe.data = .fields vs) (hE : c.X.mg xc.cls = some (.ref E)) (hcs : xc.cls ∈ cs)
    (hm : m[i]? = some .ea := by rfl) (hp : PE (c.suite a oe d pn xc).X (.Name y p1) (tVar i) := by exact pv _) (hb : attributeBase (.Name y p1) f c.X.env (eval (.Name y p1) c.X.env) = eval (.Name y p1) c.X.env := by rfl) : EV (c.suite a oe d pn xc) m (.Attribute (.Name y p1) f pos) (dXc (xc.fs.lookup f)) :=
  ev_fld (hx _ hcs _ hE).f (hno _ hcs _ hE) hz hf hm hp hb
end
/-! the kinds that isinstance may be asked for -/
theorem isT_int : IsTOk "int" := by unfold IsTOk; decide +kernel
theorem isT_str : IsTOk "str" := by unfold IsTOk; decide +kernel
theorem isT_bool : IsTOk "bool" := by unfold IsTOk; decide +kernel
theorem isT_list : IsTOk "list" := by unfold IsTOk; decide +kernel
theorem isT_tuple : IsTOk "tuple" := by unfold IsTOk; decide +kernel
theorem isT_dict : IsTOk "dict" := by unfold IsTOk; decide +kernel
theorem ev_gstr {c : Cc} {m : List Md} {x z : Str} {pos : Pos} (hg : Gl c.X x) (h : ∃ t, c.X.mg x = some (.str z t)) (hd : (x == ("__debug__" : Str)) = false := by decide) : EV c m (.Name x pos) (dC (.str z)) := by
  obtain ⟨t, h⟩ := h
  exact ev_glob (v := .str z) hg h ⟨t, rfl⟩ (fun _ => .str z) hd
theorem ev_gint {c : Cc} {m : List Md} {x : Str} {z : Int} {pos : Pos} (hg : Gl c.X x) (h : ∃ t, c.X.mg x = some (.int z t)) (hd : (x == ("__debug__" : Str)) = false := by decide) : EV c m (.Name x pos) (dC (.int z)) := by
  obtain ⟨t, h⟩ := h
  exact ev_glob (v := .int z) hg h ⟨t, rfl⟩ (fun _ => .int z) hd
/-! blocks -/
def blkB (N : List Str) (sc scope : Scope) (own : List (Str × Nat)) : Bool :=
  decide (scope.kind = .function) && (scope.names.all (fun y => decide (scope.names.lookup y.1 = some y.2)) && (own.all (fun p => decide (N[p.2]? = some p.1)) && (scope.names.all (fun y => !decide (y.2 = .free) || decide (sc.names.lookup y.1 = some .cell) || decide (sc.names.lookup y.1 = some .free)) &&
    scope.names.all fun y => !(decide (y.2 = .local) || decide (y.2 = .cell)) || decide (y.1 ∈ own.map (·.1)) || !decide (y.1 ∈ N))))
theorem blk_by {N : List Str} {sc scope : Scope} {own : List (Str × Nat)} (h : blkB N sc scope own = true) : BlkOk N sc scope own := by
  unfold blkB at h
  simp only [Bool.and_eq_true, decide_eq_true_eq, List.all_eq_true, Bool.or_eq_true, Bool.not_eq_true', decide_eq_false_iff_not] at h
  obtain ⟨h1, h2, h3, h4, h5⟩ := h
  refine ⟨h1, fun y hy => h2 y hy, h3, fun y hy e => ?_, fun y hy e => ?_⟩
  · rcases h4 y hy with (z | z) | z
    · exact absurd e z
    · exact .inl z
    · exact .inr z
  · rcases h5 y hy with (z | z) | z
    · have z : (decide (y.2 = .local) || decide (y.2 = .cell)) = false := z
      simp only [Bool.or_eq_false_iff, decide_eq_false_iff_not] at z
      exact (e.elim z.1 z.2).elim
    · exact .inl z
    · exact .inr z
/-- turns that a while may have -/
def fuel : Nat := 1000000000
theorem kx_lam {c : Cc} {k j : Nat} (h : Kx c k) {A : Around} {outer : List PySem.Env} {s : Shared} {H : Hp} {E : XK} {scope : Scope} {f c' : Addr} (hr : Room j (A.deeper (LamX.lamEnv c.X scope s.heap.objs.size f c'))) : Kx ⟨c.g, LamX.lamCx c.X A outer s H E scope f c', fun cls d _ H' => E cls d H'⟩ j :=
  ⟨hr, takes_of rfl rfl rfl rfl, rfl, h.hN⟩
/-- a list or a text turned round -/
def fRevA : PyData → Option PyData := fun d => match d with | .list xs => some (.list xs.reverse) | .str z => if sz z.length then some (.str (revS z)) else none | _ => none
theorem ev_revA {c : Cc} {m : List Md} {e : Expr} {da : DE} {k : Nat} {p1 p2 p3 pos : Pos} (ha : EV c m e da) : EV c m (.Subscript e (.Slice none none (some (.UnaryOp .USub (.Constant (.int 1) k p1) p2)) p3) pos) (d1 fRevA da) := by
  intro σ H ρ S B0 B ow Q fr gi g
  cases e : da ρ S with
  | bad => exact absurd (by unfold d1; rw [e]; rfl) g.2.2
  | exc x S1 =>
    refine ev_revS ha σ H ρ S B0 B ow Q fr gi ?_
    have e2 : d1 fRevS da ρ S = d1 fRevA da ρ S := by unfold d1; rw [e]; rfl
    rw [e2]; exact g
  | ok d S1 =>
    cases d with
    | list xs =>
      refine (eo_revL ha.eb).ev σ H ρ S B0 B ow Q fr gi ?_
      have e2 : d1 fRev da ρ S = d1 fRevA da ρ S := by unfold d1; rw [e]; rfl
      rw [e2]; exact g
    | str z =>
      refine ev_revS ha σ H ρ S B0 B ow Q fr gi ?_
      have e2 : d1 fRevS da ρ S = d1 fRevA da ρ S := by unfold d1; rw [e]; rfl
      rw [e2]; exact g
    | _ => exact absurd (by unfold d1; rw [e]; rfl) g.2.2
end PD
/-! PDv: defs that make lambdas; classes by what their text is; the frame of a law. -/
namespace PD
open PySem PySem.Spec PyProof.Rows L2 LamX
theorem fn_denC {P : Program} {w : World} {K : PySem.W.Frag} {mg : Str → Option Value} {base : Heap} {g : Gx} {x qual : Str} {st : Stmt} {f cA : Addr} {fd : FuncData} {N ps : List Str} {k : Nat} {ks : List Md} {fr : Bool} {m1 : List Md} {db : DS}
    (F : FunC K x qual st f fd cA) (S : FnScope N ps (defScope st)) (hks : ks.length = ps.length) (ha : ks.all argMd = true) (hn : ks.length ≤ N.length)
    (hbody : ∀ (A : Around) (outer : List PySem.Env) (s : Shared) (H : Hp) (E : XK), Room k (A.deeper (envOfC qual (defScope st) s.heap.objs.size f (.ref cA))) →
      SVs (fnC g P w K mg base N qual st f (.ref cA) A outer s H E) ⟨fr, [], none⟩ (mds0 N.length ks) m1 (defBody st) db) :
    FnOk P w K mg base (L2.CX P w) (k + 1) f fd ps (spD K mg g ks fr (dFn fr N.length db)) := by
  refine F.okX S (fun vs H Q E h => ?_) (fun A outer s H vs Q E hr h => ⟨_, wss, ?_⟩)
  · obtain ⟨ds, S0, B, a, _⟩ := h
    rw [a.length, hks]
  · obtain ⟨ds, S0, B, a, gi, h1, h2, h3⟩ := h
    refine hbody A outer s H E hr H B B (fun _ => 0) _ _ H S0 _ ⟨frame0 gi a ha hn, gi, Evo.refl _ _, fun p h n => absurd h n⟩ ⟨fun ρ' S' e σ' H' B' ow' i ex => ?_, fun d S' e v H' ev gi' rs => ?_, fun ρ' S' e => ?_, fun xc ρ' S' e σ' H' B' ow' cls dd mx gi' ev nw sb ex xr => ?_, fun e => ?_⟩
    · cases fr with
      | true => exact absurd (by unfold dFn; rw [e]; rfl) h3
      | false => exact h1 .none S' .non H' (by unfold dFn; rw [e]; rfl) i.ev (i.gi.less i.fr.sub i.fr.gsub) Is.non
    · exact h1 d S' v H' (by unfold dFn; rw [e]; rfl) ev gi' rs
    · exact absurd (by unfold dFn; rw [e]; rfl) h3
    · exact h2 xc S' cls dd H' (by unfold dFn; rw [e]; rfl) ev (gi'.less sb gi.sub) (xr.mono (fz_anti sb))
    · exact absurd (by unfold dFn; rw [e]; rfl) h3
/-- a table's name by its place -/
theorem tab_name {T : List (Addr × Str)} {P : Addr} {q : Str} (nd : (T.map (·.1)).Nodup) (h : (P, q) ∈ T) : ∀ p ∈ T, p.1 = P → p.2 = q := by
  induction T with
  | nil => cases h
  | cons a T ih =>
    rw [List.map_cons, List.nodup_cons] at nd
    intro p hp e
    rcases List.mem_cons.mp h with h1 | h1
    · rcases List.mem_cons.mp hp with rfl | h2
      · rw [← h1]
      · exact absurd (List.mem_map.mpr ⟨p, h2, by rw [e, ← h1]⟩) nd.1
    · rcases List.mem_cons.mp hp with rfl | h2
      · exact absurd (List.mem_map.mpr ⟨_, h1, e.symm⟩) nd.1
      · exact ih nd.2 h1 p h2 e
/-- x(lambda: body), x a def of the text -/
theorem ev_lamF {c : Cc} {m m' : List Md} {x a : Str} {st : Stmt} {gA cA P : Addr} {fd : FuncData} {k : Nat} {Ng : List Str}
    {params : Arguments} {body : Expr} {scope : Scope} {db : (Store → R PyData) → DS} {dl : DE} {p lpos pos : Pos} (F : Fun c.X.K x x st gA fd) (b : Binds c.X.K fd [a] []) (hm : c.X.mg x = some (.ref gA)) (Sg : FnScope Ng [a] (defScope st)) (hNg : Ng[0]? = some a) (hva : Vis (defScope st) a)
    (hG : ∀ cdv, LamFn c.X.prog c.X.w c.X.K c.X.mg c.X.base c.g x a Ng (defScope st) gA cdv (defBody st) db)
    (TB : TabB c.X.base c.X.mg cA P) (hmT : (P, c.X.env.qual ++ "<lambda>") ∈ c.g.T) (nd : (c.g.T.map (·.1)).Nodup) (hL : c.g.L = none) (hw : Wk m m' = true) (hno : noOwn m' = true) (hg : Gl c.X x) (hcode : c.X.env.code = .ref cA) (hr : Room (k + 2) c.X.A) (L : LamS c.X.env.scope scope)
    (hbody : ∀ (A : Around) (outer : List PySem.Env) (s : Shared) (H : Hp) (E : XK) (f c' : Addr), Room k (A.deeper (lamEnv c.X scope s.heap.objs.size f c')) → EV ⟨c.g, lamCx c.X A outer s H E scope f c', fun cls d _ H' => E cls d H'⟩ m' body dl)
    (hdef : defaultsOf params c.X.env = ([], []) := by rfl)
    (hbind : ∀ (q : Str) (cl : List (Str × Addr)) (pm cv ctv : Value), bindArgs (PySem.W.kla_fn "<lambda>" q params body scope cl pm cv ctv) ⟨[], []⟩ = pure [] := by intros; rfl)
    (hdb : (x == ("__debug__" : Str)) = false := by decide) (hd : (a == ("__debug__" : Str)) = false := by decide) (hcd : (a == ("__classdict__" : Str)) = false := by decide) :
    EV c m (.Call (.Name x p) [.Lambda params body scope lpos] [] pos) (dLam Ng.length db dl) := by
  obtain ⟨⟨oc, od, kV, doc, pm, an, cdv, ct, osl, rfl, lk, hcc⟩, kp⟩ := F
  exact ev_lam hL hw hno hg hm kp lk hcc b Sg hNg hva (hG cdv) TB hcode hmT (tab_name nd hmT) hr L hdef hbind hbody hdb hd hcd
/-- the body of a class's one def -/
def clsInit (s : Stmt) : Stmt := match s with
  | .ClassDef (body := b) .. => b.headD (.Pass ⟨0, 0, 0, 0⟩)
  | _ => .Pass ⟨0, 0, 0, 0⟩
/-- as Ex1, no context -/
structure Ex1f (P : Program) (w : World) (K : PySem.W.Frag) (mg : Str → Option Value) (base : Heap) (k : Nat) (n : Str) (C fI : Addr) (fd : FuncData) (f : Str) (ps : List Str) : Prop where
  T : OexC K C
  g : mg n = some (.ref C)
  i : PySem.W.findIn K (.ref C) "__init__" = some (some (.ref fI))
  ti : PySem.W.typeIn K (.ref fI) = some (.type "function")
  no : PySem.W.findIn K (.ref C) f = some none
  F : FnOk P w K mg base CX0 k fI fd ps (spInit K C f)
  b : Binds K fd ps []
theorem Ex1f.x {X : Cx} {k : Nat} {n : Str} {C fI : Addr} {fd : FuncData} {f : Str} {ps : List Str} (h : Ex1f X.prog X.w X.K X.mg X.base k n C fI fd f ps) : Ex1 X k n C fI fd f ps := ⟨h.T, h.g, h.i, h.ti, h.no, h.F, h.b⟩
/-- where a def stands -/
theorem at_mk {X : Cx} {x qual : Str} {st : Stmt} {f : Addr} {fd : FuncData} {ps : List Str} (F : Fun X.K x qual st f fd) (g : X.mg x = some (.ref f)) (b : Binds X.K fd ps []) : At X x f fd ps := ⟨g, F.kp, b⟩
/-- the frame of a law: the tables, the lists that all share -/
abbrev gW (T : List (Addr × Str)) (SA : List Addr) : Gx := ⟨SA, T, none, none⟩
theorem kx_nx {g : Gx} {P : Program} {w : World} {K : PySem.W.Frag} {mg : Str → Option Value} {base : Heap} {Ng ps : List Str} {x : Str} {st : Stmt} {gA : Addr} {cdg : Value} {A : Around} {stack : List PySem.Env} {s : Shared} {H : Hp} {k : Nat} (S : FnScope Ng ps (defScope st)) (hr : Room k (A.deeper (envOfC x (defScope st) s.heap.objs.size gA cdg))) :
    Kx ⟨g, (nxCx P w K mg base Ng x (defScope st) gA cdg A stack s H).nox, fun _ _ _ _ => False⟩ k := ⟨hr, LamX.takes0, rfl, S.nd⟩
end PD
/-! PDw: the combinators at work, for plain proofs. -/
namespace PD
open PySem PySem.Spec PyProof.Rows L2
variable {a b : DE} {ρ : Env} {S : Store}
@[simp] theorem ap_seq {a b : DS} : dSeq a b ρ S = (a ρ S).bind b := rfl
@[simp] theorem ap_nx : dNx ρ S = .nx ρ S := rfl
@[simp] theorem ap_brk : dBrk ρ S = .brk ρ S := rfl
@[simp] theorem ap_var {i : Nat} : dVar i ρ S = ofO (ρ.getD i none) S := rfl
@[simp] theorem ap_c {d : PyData} : dC d ρ S = .ok d S := rfl
@[simp] theorem ap_nil : dNil ρ S = .ok [] S := rfl
@[simp] theorem ap_cons {r : DA} : dCons a r ρ S = (a ρ S).bind fun x S1 => (r ρ S1).bind fun xs S2 => .ok (x :: xs) S2 := rfl
@[simp] theorem ap_tup {r : DA} : dTup r ρ S = (r ρ S).bind fun xs S1 => if sz xs.length then .ok (.tuple xs) S1 else .bad := rfl
@[simp] theorem ap_lst {r : DA} : dLst r ρ S = (r ρ S).bind fun xs S1 => if sz xs.length then .ok (.list xs) S1 else .bad := rfl
@[simp] theorem ap_d1 {F : PyData → Option PyData} : d1 F a ρ S = (a ρ S).bind fun x S1 => ofO (F x) S1 := rfl
@[simp] theorem ap_d2 {F : PyData → PyData → Option PyData} : d2 F a b ρ S = (a ρ S).bind fun x S1 => (b ρ S1).bind fun y S2 => ofO (F x y) S2 := rfl
@[simp] theorem ap_sl {F : PyData → Option Int → Option Int → Option PyData} {l h : DP} : dSl F a l h ρ S = (a ρ S).bind fun x S1 => (l ρ S1).bind fun l S2 => (h ρ S2).bind fun h S3 => ofO (F x l h) S3 := rfl
@[simp] theorem ap_pno : pNo ρ S = .ok none S := rfl
@[simp] theorem ap_psm : pSm a ρ S = (a ρ S).bind fun x S1 => match x with | .int i => .ok (some i) S1 | _ => .bad := rfl
@[simp] theorem ap_test : dTest a ρ S = (a ρ S).bind fun x S1 => match x with | .bool b => .ok b S1 | _ => .bad := rfl
@[simp] theorem ap_chain {F F' : PyData → PyData → Option PyData} {e : DE} : dChain F F' a b e ρ S = (a ρ S).bind fun x S1 => (b ρ S1).bind fun y S2 => match F x y with
  | some (.bool true) => (e ρ S2).bind fun z S3 => ofO (F' y z) S3
  | some (.bool false) => .ok (.bool false) S2
  | _ => .bad := rfl
@[simp] theorem ap_and {a b : DT} : dAnd a b ρ S = (a ρ S).bind fun x S1 => if x = true then b ρ S1 else .ok false S1 := rfl
@[simp] theorem ap_or {a b : DT} : dOr a b ρ S = (a ρ S).bind fun x S1 => if x = true then .ok true S1 else b ρ S1 := rfl
@[simp] theorem ap_not {a : DT} : dNot a ρ S = (a ρ S).bind fun x S1 => .ok (!x) S1 := rfl
@[simp] theorem ap_ife {t : DT} : dIfE t a b ρ S = (t ρ S).bind fun x S1 => if x = true then a ρ S1 else b ρ S1 := rfl
@[simp] theorem ap_st : dSt ρ S = .ok .none S := rfl
@[simp] theorem ap_call {f : List PyData → Store → R PyData} {r : DA} : dCall f r ρ S = (r ρ S).bind fun ds S1 => f ds S1 := rfl
@[simp] theorem ap_it {F : PyData → Option (List PyData)} : dIt F a ρ S = (a ρ S).bind fun x S1 => ofO (F x) S1 := rfl
@[simp] theorem ap_it2 {F : PyData → PyData → Option (List PyData)} : dIt2 F a b ρ S = (a ρ S).bind fun x S1 => (b ρ S1).bind fun y S2 => ofO (F x y) S2 := rfl
@[simp] theorem ap_comp {di : DI} {t : Tg} {tt : DT} {de : DE} : dComp di t tt de ρ S = (di ρ S).bind fun ds S1 => compL t tt de ρ [] ds S1 := rfl
@[simp] theorem ap_yes : dYes ρ S = .ok true S := rfl
@[simp] theorem ap_set {i : Nat} : dSet i a ρ S = (a ρ S).st ρ fun d S1 => .nx (ρ.set i (some d)) S1 := rfl
@[simp] theorem ap_tupset {is : List Nat} : dTupSet is a ρ S = (a ρ S).st ρ fun d S1 => match (Tg.tup is).bind d ρ with | some ρ1 => .nx ρ1 S1 | none => .bad := rfl
@[simp] theorem ap_ifs {t : DT} {a b : DS} : dIfS t a b ρ S = (t ρ S).st ρ fun q S1 => if q = true then a ρ S1 else b ρ S1 := rfl
@[simp] theorem ap_ret : dRet a ρ S = (a ρ S).st ρ fun d S1 => .ret d S1 := rfl
@[simp] theorem ap_drop : dDrop a ρ S = (a ρ S).st ρ fun _ S1 => .nx ρ S1 := rfl
@[simp] theorem ap_for {di : DI} {t : Tg} {body : DS} : dFor di t body ρ S = (di ρ S).st ρ fun ds S1 => forL t body ds ρ S1 := rfl
@[simp] theorem ap_app {i : Nat} : dApp i a ρ S = onLst ρ i fun xs => (a ρ S).st ρ fun d S1 => putO ρ i (fApp xs d) S1 := rfl
@[simp] theorem ap_ext {i : Nat} : dExt i a ρ S = onLst ρ i fun xs => (a ρ S).st ρ fun d S1 => putO ρ i (fExt xs d) S1 := rfl
@[simp] theorem ap_stix {k : Nat} : dStIx k a ρ S = (a ρ S).bind fun y S1 => match S1[k]? with | some xs => ofO (fIx (.list xs) y) S1 | none => .bad := rfl
@[simp] theorem ap_par {is : List Nat} {as : DA} : dPar is as ρ S = (as ρ S).st ρ fun ds S1 => match setAll ρ is ds with | some ρ1 => .nx ρ1 S1 | none => .bad := rfl
@[simp] theorem ap_m1 {F : Str → PyData → Option PyData} : dM1 F a b ρ S = (a ρ S).bind fun x S1 => match x with | .str z => (b ρ S1).bind fun y S2 => ofO (F z y) S2 | _ => .bad := rfl
@[simp] theorem ap_stset {k : Nat} : dStSet k b a ρ S = (a ρ S).st ρ fun d S1 => (b ρ S1).st ρ fun y S2 => match S2[k]? with
  | some xs => (match fSetI xs y d with | some (.list ys) => .nx ρ (S2.set k ys) | _ => .bad)
  | none => .bad := rfl
/-! values at work -/
@[simp] theorem f_add {i j : Int} : fAdd (.int i) (.int j) = some (.int (i + j)) := rfl
@[simp] theorem f_I {C : Int → Int → Bool} {f : Int → Int → Int} {i j : Int} : fI C f (.int i) (.int j) = if C i j then some (.int (f i j)) else none := rfl
@[simp] theorem f_B {f : Int → Int → Bool} {i j : Int} : fB f (.int i) (.int j) = some (.bool (f i j)) := rfl
@[simp] theorem f_gt {i j : Int} : fGt (.int i) (.int j) = some (.bool (decide (j < i))) := rfl
@[simp] theorem f_ge {i j : Int} : fGe (.int i) (.int j) = some (.bool (decide (j ≤ i))) := rfl
@[simp] theorem f_lt {i j : Int} : fLt (.int i) (.int j) = some (.bool (decide (i < j))) := rfl
@[simp] theorem f_le {i j : Int} : fLe (.int i) (.int j) = some (.bool (decide (i ≤ j))) := rfl
@[simp] theorem f_int {i : Int} : fInt (.int i) = some (.int i) := rfl
@[simp] theorem f_lenL {xs : List PyData} : fLen (.list xs) = some (.int xs.length) := rfl
@[simp] theorem f_lenT {xs : List PyData} : fLen (.tuple xs) = some (.int xs.length) := rfl
theorem f_times {i j : Int} (h : cMul i j = true) : fTimes (.int i) (.int j) = some (.int (i * j)) := by
  unfold fTimes fMul orF
  simp [h]
theorem cMul_l {i j : Int} (h1 : -(2 ^ 64) < i) (h2 : i < 2 ^ 64) : cMul i j = true := by unfold cMul; simp; omega
theorem cMul_r {i j : Int} (h1 : -(2 ^ 64) < j) (h2 : j < 2 ^ 64) : cMul i j = true := by unfold cMul; simp; omega
/-! comprehensions and loops at work -/
theorem comp_map {t : Tg} {de : DE} {ρ : Env} {S : Store} {f : PyData → PyData} : ∀ {ds acc : List PyData}, (∀ d ∈ ds, ∃ ρ1, t.bind d ρ = some ρ1 ∧ de ρ1 S = .ok (f d) S) → compL t dYes de ρ acc ds S = .ok (.list (acc ++ ds.map f)) S
  | [], acc, _ => by rw [compL_nil]; simp
  | d :: ds, acc, h => by
    obtain ⟨ρ1, e1, e2⟩ := h d (List.mem_cons_self ..)
    rw [compL_cons, e1]
    simp only [ap_yes, R.calm_ok, R.bind_ok, if_true, e2]
    rw [comp_map fun d' hd => h d' (List.mem_cons_of_mem _ hd)]
    simp
/-- with a state -/
theorem comp_inv {t : Tg} {tt : DT} {de : DE} {ρ : Env} {I : Store → Prop} {E : PyData → Prop} : ∀ {ds acc : List PyData} {S : Store}, I S → (∀ x ∈ acc, E x) → (∀ d ∈ ds, ∀ S, I S → ∃ ρ1, t.bind d ρ = some ρ1 ∧ ∃ b S1, tt ρ1 S = .ok b S1 ∧ I S1 ∧ (b = true → ∃ x S2, de ρ1 S1 = .ok x S2 ∧ I S2 ∧ E x)) →
    ∃ xs S', compL t tt de ρ acc ds S = .ok (.list xs) S' ∧ I S' ∧ (∀ x ∈ xs, E x) ∧ xs.length ≤ acc.length + ds.length
  | [], acc, S, hi, ha, _ => ⟨acc, S, compL_nil .., hi, ha, by simp⟩
  | d :: ds, acc, S, hi, ha, h => by
    obtain ⟨ρ1, e1, b, S1, e2, i1, hb⟩ := h d (List.mem_cons_self ..) S hi
    rw [compL_cons, e1]
    simp only [e2, R.calm_ok, R.bind_ok]
    cases b with
    | false =>
      rw [if_neg (by simp)]
      obtain ⟨xs, S', q1, q2, q3, q4⟩ := comp_inv (acc := acc) i1 ha fun d' hd => h d' (List.mem_cons_of_mem _ hd)
      exact ⟨xs, S', q1, q2, q3, by simp; omega⟩
    | true =>
      rw [if_pos rfl]
      obtain ⟨x, S2, e3, i2, ex⟩ := hb rfl
      simp only [e3, R.calm_ok, R.bind_ok]
      obtain ⟨xs, S', q1, q2, q3, q4⟩ := comp_inv (acc := acc ++ [x]) i2 (fun y hy => by
        rcases List.mem_append.mp hy with hy | hy
        · exact ha y hy
        · rw [List.mem_singleton.mp hy]; exact ex) fun d' hd => h d' (List.mem_cons_of_mem _ hd)
      exact ⟨xs, S', q1, q2, q3, by simp at q4; simp; omega⟩
/-- as many items as are gone through -/
theorem comp_invY {t : Tg} {de : DE} {ρ : Env} {I : Store → Prop} {E : PyData → Prop} : ∀ {ds acc : List PyData} {S : Store}, I S → (∀ x ∈ acc, E x) → (∀ d ∈ ds, ∀ S, I S → ∃ ρ1, t.bind d ρ = some ρ1 ∧ ∃ x S2, de ρ1 S = .ok x S2 ∧ I S2 ∧ E x) →
    ∃ xs S', compL t dYes de ρ acc ds S = .ok (.list xs) S' ∧ I S' ∧ (∀ x ∈ xs, E x) ∧ xs.length = acc.length + ds.length
  | [], acc, S, hi, ha, _ => ⟨acc, S, compL_nil .., hi, ha, by simp⟩
  | d :: ds, acc, S, hi, ha, h => by
    obtain ⟨ρ1, e1, x, S2, e3, i2, ex⟩ := h d (List.mem_cons_self ..) S hi
    rw [compL_cons, e1]
    simp only [ap_yes, R.calm_ok, R.bind_ok, if_true, e3]
    obtain ⟨xs, S', q1, q2, q3, q4⟩ := comp_invY (acc := acc ++ [x]) i2 (fun y hy => by
      rcases List.mem_append.mp hy with hy | hy
      · exact ha y hy
      · rw [List.mem_singleton.mp hy]; exact ex) fun d' hd => h d' (List.mem_cons_of_mem _ hd)
    exact ⟨xs, S', q1, q2, q3, by simp at q4; simp; omega⟩
/-- a loop that goes on: what holds of slots and state stays -/
theorem for_inv {t : Tg} {body : DS} {I : Env → Store → Prop} : ∀ {ds : List PyData} {ρ : Env} {S : Store}, I ρ S → (∀ d ∈ ds, ∀ ρ S, I ρ S → ∃ ρ1, t.bind d ρ = some ρ1 ∧ ∃ ρ2 S2, body ρ1 S = .nx ρ2 S2 ∧ I ρ2 S2) → ∃ ρ' S', forL t body ds ρ S = .nx ρ' S' ∧ I ρ' S'
  | [], ρ, S, hi, _ => ⟨ρ, S, forL_nil .., hi⟩
  | d :: ds, ρ, S, hi, h => by
    obtain ⟨ρ1, e1, ρ2, S2, e2, i2⟩ := h d (List.mem_cons_self ..) ρ S hi
    rw [forL_cons, e1]
    simp only [e2]
    exact for_inv i2 fun d' hd => h d' (List.mem_cons_of_mem _ hd)
end PD
/-! PDx: lists of own lists: made by a comprehension, grown by x[k].append(e), frozen. -/
namespace PD
open PySem PySem.Spec PyProof.Rows L2
/-- what a comprehension of new empty lists leaves -/
def New2 (c : Cc) (B : List Addr) (H : Hp) (S' : Store) (H' : Hp) (v : V) (d : PyData) : Prop :=
  ∃ (T : Addr) (qs : List Addr), v = .ref T ∧ d = .list (qs.map fun _ => PyData.list []) ∧ (∀ a ∈ T :: qs, H a = none) ∧ ((T :: qs).Nodup ∧ qs.length ≤ sizeLine) ∧ H' T = some (.lst (qs.map V.ref)) ∧ (∀ a ∈ qs, H' a = some (.lst [])) ∧ GI c.X.K c.g ((T :: qs) ++ B) H' S'
section
variable {c : Cc} {m : List Md} {tg iter : Expr} {own : List (Str × Nat)} {di : DI} {t : Tg}
theorem comp_new2 (hi : ICo c m tg iter di) (hsub : ∀ i ∈ t.slots, i ∈ own.map (·.2)) (hlen : ∀ i ∈ own.map (·.2), i < m.length)
    {σ : L2.St} {H : Hp} {ρ : PD.Env} {S : Store} {B0 B : List Addr} {ow : Addr → Nat} {Q : VK} (fr : Frame c.X.K c.g B0 B ow m ρ σ H) (gi : GI c.X.K c.g B H S)
    (g : Goal c B H σ (dComp di t dYes (dLst dNil) ρ S) (New2 c B H) Q) : tLc (WI c.X tg iter) (gT c.X.K t) tYes (tLst tNil) (own.map (·.2)) σ H Q := by
  refine hi σ H ρ S B0 B ow _ fr gi (g.bind (G1 := fun _ H' J ds => ItC c.X.K c.g.G B H' J ds) fun ds S1 J H1 _ ev1 gi1 it g1 => ?_)
  intro T hT
  have nG : T ∉ c.g.G := fun z => gi1.kn T (gi1.sub T z) hT
  refine ⟨fun i k H2 => k = ds.length - i ∧ i ≤ ds.length ∧ ∃ qs : List Addr, qs.length = i ∧ (T :: qs).Nodup ∧ (∀ a ∈ T :: qs, H1 a = none) ∧ H2 T = some (.lst (qs.map V.ref)) ∧ (∀ a ∈ qs, H2 a = some (.lst [])) ∧
    Evo c.g.G H1 H2 ∧ Ex (Fz B H1) (Fz ((T :: qs) ++ B) H2) ∧ GI c.X.K c.g ((T :: qs) ++ B) H2 S1 ∧ compL t dYes (dLst dNil) ρ [] ds S1 = compL t dYes (dLst dNil) ρ (qs.map fun _ => PyData.list []) (ds.drop i) S1,
    ⟨ds.length, by simp, Nat.zero_le _, [], rfl, by simp, by simpa using hT, upd_same, (fun a ha => by cases ha), (Ex.new hT).evo, ?_, gi1.under hT, rfl⟩, ?_⟩
  · intro a u q
    obtain ⟨q1, q2⟩ := fz_some.mp q
    exact fz_some.mpr ⟨fun z => (List.mem_cons.mp z).elim (ne_of_none q2 hT) q1, (Ex.new hT) a u q2⟩
  rintro i k H2 ⟨rfl, hile, qs, hql, hnd, hnew, h2T, h2q, ev2, ex2, gi2, eq⟩
  obtain ⟨go, stop⟩ := it.2 _ H2 ev2 ex2 gi2.kn
  by_cases hlt : i < ds.length
  · refine .inr ⟨(go i ds[i] (List.getElem?_eq_getElem hlt)).1, fun H3 => ∃ qs : List Addr, qs.length = i + 1 ∧ (T :: qs).Nodup ∧ (∀ a ∈ T :: qs, H1 a = none) ∧ H3 T = some (.lst (qs.map V.ref)) ∧ (∀ a ∈ qs, H3 a = some (.lst [])) ∧
      Evo c.g.G H1 H3 ∧ Ex (Fz B H1) (Fz ((T :: qs) ++ B) H3) ∧ GI c.X.K c.g ((T :: qs) ++ B) H3 S1 ∧ compL t dYes (dLst dNil) ρ [] ds S1 = compL t dYes (dLst dNil) ρ (qs.map fun _ => PyData.list []) (ds.drop (i + 1)) S1,
      fun H3 h3 => ⟨ds.length - (i + 1), by omega, rfl, hlt, h3⟩, fun x H3 hy => ?_⟩
    obtain ⟨ex3, ix⟩ := (go i ds[i] (List.getElem?_eq_getElem hlt)).2 x H3 hy
    have gi3 := gi2.ex ex3
    rw [List.drop_eq_getElem_cons hlt, compL_cons] at eq
    cases eb : t.bind ds[i] ρ with
    | none =>
      rw [eb] at eq
      exact absurd eq g1.not_bad
    | some ρ1 =>
      rw [eb] at eq
      have eq1 : compL t dYes (dLst dNil) ρ [] ds S1 = compL t dYes (dLst dNil) ρ ((qs.map fun _ => PyData.list []) ++ [.list []]) (ds.drop (i + 1)) S1 := eq
      have exB3 : Ex (Fz B H1) (Fz ((T :: qs) ++ B) H3) := ex2.trans ex3.fz
      have ev3 : Evo c.g.G H1 H3 := ev2.trans ex3.evo
      have fr3 : Frame c.X.K c.g B0 ((T :: qs) ++ B) ow (blkM m (own.map (·.2))) ρ (L2.wipe σ (own.map (·.2))) H3 := by
        refine Frame.wipe ⟨fr.lm, fr.ls, fun a h => List.mem_append_right _ (fr.sub a h), fr.gsub, fun j md h => ?_⟩ _ hlen
        exact ((fr.evo ev1).slot j md h).step exB3 (fun a h => List.mem_append_right _ h.1) fun a o h q => ev3 a o (fun z => h.2.1 (fr.gsub a z)) q
      refine Tg.put (X := c.X) (t := t) (tg := tg) rfl fr3 (fun j hj => by rw [blkM_len]; exact hlen j (hsub j hj)) ix eb fun σ2 _ ⟨ws, hws, e2⟩ => ?_
      refine ⟨by rw [e2]; exact wipe_put hsub, ?_⟩
      unfold tYes
      dsimp only
      rw [if_pos rfl]
      refine ⟨Nat.zero_le _, fun p hp => ⟨qs.map V.ref, ?_, ?_, qs ++ [p], ?_⟩⟩
      · have : T ≠ p := fun z => by rw [← z, ex3 _ _ h2T] at hp; cases hp
        rw [upd_ne this]
        exact ex3 _ _ h2T
      · rw [List.length_map, hql]
        have := it.1
        omega
      have h3T := ex3 _ _ h2T
      have pT : p ≠ T := fun z => by rw [z, h3T] at hp; cases hp
      have pq : p ∉ qs := fun z => by rw [ex3 _ _ (h2q p z)] at hp; cases hp
      have pB : p ∉ (T :: qs) ++ B := new_notin gi3.kn hp
      have Tq : T ∉ qs := (List.nodup_cons.mp hnd).1
      have gi4 : GI c.X.K c.g (p :: ((T :: qs) ++ B)) (upd H3 p (.lst [])) S1 := gi3.under hp
      have h4T : upd H3 p (.lst []) T = some (.lst (qs.map V.ref)) := by rw [upd_ne (Ne.symm pT)]; exact h3T
      have gi5 := gi4.grow (D := T) (o := .lst (qs.map V.ref ++ [.ref p])) (List.mem_cons_of_mem _ (List.mem_append_left _ (List.mem_cons_self ..))) nG (lst_code h4T)
      have hmem : ∀ a, a ∈ (T :: (qs ++ [p])) ++ B ↔ a ∈ p :: ((T :: qs) ++ B) := fun a => by
        simp only [List.mem_append, List.mem_cons, List.not_mem_nil, or_false]
        constructor
        · rintro ((h | h | h) | h)
          · exact .inr (.inl (.inl h))
          · exact .inr (.inl (.inr h))
          · exact .inl h
          · exact .inr (.inr h)
        · rintro (h | (h | h) | h)
          · exact .inl (.inr (.inr h))
          · exact .inl (.inl h)
          · exact .inl (.inr (.inl h))
          · exact .inr h
      have p1 : H1 p = none := by
        cases q : H1 p with
        | none => rfl
        | some o =>
          exfalso
          by_cases hG : p ∈ c.g.G
          · exact gi3.kn p (gi3.sub p hG) hp
          · rw [ev3 p o hG q] at hp; cases hp
      refine ⟨by simp [hql], ?_, ?_, ?_, ?_, ?_, ?_, ?_, ?_⟩
      · rw [List.nodup_cons]
        refine ⟨fun z => ?_, ?_⟩
        · rcases List.mem_append.mp z with z | z
          · exact Tq z
          · exact pT (List.mem_singleton.mp z).symm
        · rw [List.nodup_append]
          refine ⟨(List.nodup_cons.mp hnd).2, by simp, fun a ha b hb => ?_⟩
          rw [List.mem_singleton.mp hb]
          exact fun (z : a = p) => pq (z ▸ ha)
      · intro a ha
        rcases List.mem_cons.mp ha with rfl | ha
        · exact hT
        · rcases List.mem_append.mp ha with ha | ha
          · exact hnew a (List.mem_cons_of_mem _ ha)
          · rw [List.mem_singleton.mp ha]; exact p1
      · rw [upd_same, List.map_append]
        rfl
      · intro a ha
        have aT : a ≠ T := by
          rintro rfl
          rcases List.mem_append.mp ha with ha | ha
          · exact Tq ha
          · exact pT (List.mem_singleton.mp ha).symm
        rw [upd_ne aT]
        rcases List.mem_append.mp ha with ha | ha
        · rw [upd_ne (show a ≠ p from fun z => pq (z ▸ ha))]
          exact ex3 _ _ (h2q a ha)
        · rw [List.mem_singleton.mp ha, upd_same]
      · intro a o n q
        have aT : a ≠ T := ne_of_none q hT
        have ap : a ≠ p := ne_of_none q p1
        rw [upd_ne aT, upd_ne ap]
        exact ev3 a o n q
      · intro a o q
        obtain ⟨q1, q2⟩ := fz_some.mp (exB3 a o q)
        have ap : a ≠ p := ne_of_none q2 hp
        have aT : a ≠ T := fun z => q1 (List.mem_append_left _ (by rw [z]; exact List.mem_cons_self ..))
        refine fz_some.mpr ⟨fun z => ?_, by rw [upd_ne aT, upd_ne ap]; exact q2⟩
        rcases List.mem_cons.mp ((hmem a).mp z) with z | z
        · exact ap z
        · exact q1 z
      · exact gi5.less (fun a ha => (hmem a).mp ha) fun a ha => (hmem a).mpr (List.mem_cons_of_mem _ (gi3.sub a ha))
      · rw [List.map_append]
        exact eq1
  · have e : i = ds.length := by omega
    subst e
    refine .inl ⟨stop _ (Nat.le_refl _), ?_⟩
    rw [List.drop_length, compL_nil] at eq
    rw [eq] at g1
    refine g1.ok ev2 (gi2.less (fun a ha => List.mem_append_right _ ha) gi1.sub) ⟨T, qs, rfl, rfl, fun a ha => free_back ev1 gi1 (hnew a ha), ⟨hnd, by rw [hql]; exact it.1⟩, h2T, h2q, gi2⟩
end
section
variable {c : Cc} {x : Fx} {m m' m1 m2 : List Md} {He : Hp} {B0 B : List Addr} {ow : Addr → Nat} {ρ : PD.Env} {σ : L2.St} {H : Hp} {S : Store} {D : Ends}
/-- the holder of a list of new lists -/
theorem In.own2 {H0 : Hp} {S0 : Store} (i : In c He B0 B ow m ρ σ H0 S0) (ev : Evo c.g.G H0 H) {j : Nat} (hj : j < m.length) {v : V} {d : PyData} (hn : New2 c B H0 S H v d) :
    ∃ B' ow', In c He B0 B' ow' (m.set j .own2) (ρ.set j (some d)) (σ.set j (some v)) H S ∧ Ex (Fz B H0) (Fz B' H) := by
  obtain ⟨T, qs, rfl, rfl, hnew, hnd, hT, hq, gi⟩ := hn
  have hB : ∀ a ∈ T :: qs, a ∉ B := fun a ha => new_notin i.gi.kn (hnew a ha)
  have ex : Ex (Fz B H0) (Fz ((T :: qs) ++ B) H) := fun a u q => by
    obtain ⟨q1, q2⟩ := fz_some.mp q
    refine fz_some.mpr ⟨fun z => ?_, ev a u (fun z => q1 (i.gi.sub a z)) q2⟩
    rcases List.mem_append.mp z with z | z
    · rw [hnew a z] at q2; cases q2
    · exact q1 z
  have hρ : j < ρ.length := by rw [← i.fr.lm]; exact hj
  have hσ : j < σ.length := by rw [i.fr.ls]; exact hρ
  have key : ∀ a ∈ B, (if a ∈ T :: qs then j else ow a) = ow a := fun a ha => if_neg fun z => hB a z ha
  refine ⟨(T :: qs) ++ B, fun a => if a ∈ T :: qs then j else ow a, ⟨⟨by simp [i.fr.lm], by simp [i.fr.ls], fun a ha => List.mem_append_right _ (i.fr.sub a ha), i.fr.gsub, fun k md hk => ?_⟩, gi, i.ev.trans ev, fun q hq hq0 => ?_⟩, ex⟩
  · rw [getD_set hρ, getD_set hσ]
    by_cases e : j = k
    · subst e
      rw [List.getElem?_set_self hj] at hk
      cases hk
      rw [if_pos rfl, if_pos rfl]
      refine ⟨_, T, qs, rfl, rfl, fun q hqm => ⟨List.mem_append_left _ hqm, fun z => hB q hqm (i.fr.sub q z), if_pos hqm⟩, hnd, hT, ?_⟩
      have aux : ∀ l : List Addr, (∀ a ∈ l, H a = some (.lst [])) → Paired (fun q d => Top c.X.K ((T :: qs) ++ B) H q d) l (l.map fun _ => PyData.list []) := by
        intro l
        induction l with
        | nil => exact fun _ => .nil
        | cons a r ih => exact fun h => .cons (.inl ⟨[], [], rfl, h a (List.mem_cons_self ..), Nat.zero_le _, .nil⟩) (ih fun b hb => h b (List.mem_cons_of_mem _ hb))
      exact aux qs hq
    · rw [List.getElem?_set_ne e] at hk
      rw [if_neg e, if_neg e]
      have s0 := i.fr.slot k md hk
      have st := s0.step (B' := (T :: qs) ++ B) (H' := H) ex (fun a ha => List.mem_append_right _ ha.1) fun a o ha q => ev a o (fun z => ha.2.1 (i.fr.gsub a z)) q
      have own' : ∀ a, Own B0 B ow k a → Own B0 ((T :: qs) ++ B) (fun a => if a ∈ T :: qs then j else ow a) k a := fun a h => ⟨List.mem_append_right _ h.1, h.2.1, by show (if a ∈ T :: qs then j else ow a) = k; rw [key a h.1]; exact h.2.2⟩
      cases md with
      | un => trivial
      | fz => exact st
      | st q => exact st
      | ea => exact st
      | lm => exact st
      | cs => exact st
      | own =>
        obtain ⟨d', p', h1, h2, h3, h4⟩ := s0
        exact ⟨d', p', h1, h2, own' _ h3, h4.mono ex fun o q => ev p' o (fun z => h3.2.1 (i.fr.gsub p' z)) q⟩
      | own2 =>
        obtain ⟨ds', p', qs', h1, h2, h3, h4, h5, h6⟩ := s0
        refine ⟨ds', p', qs', h1, h2, fun q hq => own' _ (h3 q hq), h4, ev p' _ (fun z => (h3 p' (List.mem_cons_self ..)).2.1 (i.fr.gsub p' z)) h5, ?_⟩
        have h3' : ∀ q ∈ qs', Own B0 B ow k q := fun q hq => h3 q (List.mem_cons_of_mem _ hq)
        clear h1 h2 h3 h4 h5
        induction h6 with
        | nil => exact .nil
        | cons r t ih => exact .cons (r.mono ex fun o q => ev _ o (fun z => (h3' _ (List.mem_cons_self ..)).2.1 (i.fr.gsub _ z)) q) (ih fun q hq => h3' q (List.mem_cons_of_mem _ hq))
  · rcases List.mem_append.mp hq with hq | hq
    · exact free_back i.ev i.gi (hnew q hq)
    · exact i.nw q hq hq0
/-- x = [[] for .. in ..] -/
theorem sv_new2 {i : Nat} {y : Str} {py pos pe spos : Pos} {tg iter : Expr} {scope : Scope} {own : List (Str × Nat)} {di : DI} {t : Tg} (hi' : i < m.length) (hy : c.X.N[i]? = some y) (hyl : c.X.env.scope.names.lookup y = some .local)
    (hsw : swapsWith (.ListComp (.List [] pe) [⟨tg, iter, [], 0⟩] scope pos) (some (.Name y py)) spos.line c.X.env = pure true)
    (hc : c.X.calm = true) (hN : c.X.N.Nodup) (hi : ICo c m tg iter di) (ok : BlkOk c.X.N c.X.env.scope scope own) (hsub : ∀ i ∈ t.slots, i ∈ own.map (·.2)) (hlen : ∀ i ∈ own.map (·.2), i < m.length)
    (hg : ∀ s H C cl fp, PG (c.in scope s H C cl fp).X tg (gT c.X.K t))
    (hs : ∀ x, foldedSetIterable iter c.X.env x = pure x := by intro _; rfl) (hx : WkX m x.mx = true := by rfl) : SV c x m (m.set i .own2) (.Assign [.Name y py] (.ListComp (.List [] pe) [⟨tg, iter, [], 0⟩] scope pos) spos) (dSet i (dComp di t dYes (dLst dNil))) := by
  intro He B0 B ow ρ σ H S D i1 w
  refine WS.of (ps_setLc (tt := tYes) (te := tLst tNil) hc hN hy hyl hsw wi ok hg (fun _ _ _ _ _ => pts_nil) (fun _ _ _ _ _ => pe_lst pa_nil) hs) ?_
  refine comp_new2 hi hsub hlen i1.fr i1.gi (goalS i1 hx w fun d S' v H' e ev i2 w2 gd => ?_)
  obtain ⟨B', ow', i3, ex⟩ := i1.own2 ev hi' gd
  refine w.nx _ _ ?_ _ H' _ _ i3 ex
  show (dComp di t dYes (dLst dNil) ρ S).st ρ _ = _
  rw [e]
  rfl
/-- a list of own lists is frozen -/
theorem In.freeze2 (i : In c He B0 B ow m ρ σ H S) {j : Nat} (hj : m[j]? = some .own2) : ∃ B', In c He B0 B' ow (m.set j .fz) ρ σ H S ∧ Ex (Fz B H) (Fz B' H) := by
  obtain ⟨ds, p, qs, e1, e2, hown, hnd, hT, hq⟩ := i.fr.slot j _ hj
  have hjl : j < m.length := (List.getElem?_eq_some_iff.mp hj).1
  let P : Addr → Bool := fun a => decide (a ∉ p :: qs)
  have sub : ∀ a ∈ B.filter P, a ∈ B := fun a ha => (List.mem_filter.mp ha).1
  have ex : Ex (Fz B H) (Fz (B.filter P) H) := fz_anti sub
  have keep : ∀ a ∈ B, a ∉ p :: qs → a ∈ B.filter P := fun a ha ne => List.mem_filter.mpr ⟨ha, decide_eq_true ne⟩
  have out : ∀ a ∈ p :: qs, a ∉ B.filter P := fun a ha z => of_decide_eq_true (List.mem_filter.mp z).2 ha
  have n0 : ∀ a ∈ B0, a ∉ p :: qs := fun a ha z => (hown a z).2.1 ha
  refine ⟨B.filter P, ⟨⟨by rw [List.length_set]; exact i.fr.lm, i.fr.ls, fun a ha => keep a (i.fr.sub a ha) (n0 a ha), i.fr.gsub, fun k md hk => ?_⟩, i.gi.less sub (fun a ha => keep a (i.fr.sub a (i.fr.gsub a ha)) (n0 a (i.fr.gsub a ha))), i.ev, fun q hq => i.nw q (sub q hq)⟩, ex⟩
  by_cases e : j = k
  · subst e
    rw [List.getElem?_set_self hjl] at hk
    cases hk
    intro d' hd'
    rw [e1] at hd'
    cases hd'
    refine ⟨_, e2, .lst (fz_some.mpr ⟨out p (List.mem_cons_self ..), hT⟩) (by rw [List.length_map]; exact hnd.2) ?_⟩
    have aux : ∀ (Z : List Addr), Ex (Fz B H) (Fz Z H) → ∀ (l : List Addr) (es : List PyData), Paired (fun q d => Top c.X.K B H q d) l es → (∀ a ∈ l, a ∉ Z) → IsAll c.X.K (Fz Z H) (l.map V.ref) es := by
      intro Z exZ l es hp
      induction hp with
      | nil => exact fun _ => .nil
      | cons r _ ih => exact fun o => .cons (r.is exZ fun u q => fz_some.mpr ⟨o _ (List.mem_cons_self ..), q⟩) (ih fun a ha => o a (List.mem_cons_of_mem _ ha))
    exact aux _ ex qs ds hq fun a ha => out a (List.mem_cons_of_mem _ ha)
  · rw [List.getElem?_set_ne e] at hk
    exact (i.fr.slot k md hk).step ex (fun a ha => keep a ha.1 fun z => e (by rw [← (hown a z).2.2, ha.2.2])) fun a o _ q => q
theorem svs_freeze2 {st : List Stmt} {d : DS} {j : Nat} (hj : m[j]? = some .own2) (h1 : SVs c x (m.set j .fz) m2 st d) : SVs c x m m2 st d := fun He B0 B ow ρ σ H S D i w => by
  obtain ⟨B', i', ex⟩ := i.freeze2 hj
  exact h1 He B0 B' ow ρ σ H S D i' (w.from ex)
/-- .. behind -/
theorem svs_freeze2B {st : List Stmt} {d : DS} {j : Nat} (hj : m1[j]? = some .own2) (h1 : SVs c x m m1 st d) : SVs c x m (m1.set j .fz) st d := fun He B0 B ow ρ σ H S D i w => h1 He B0 B ow ρ σ H S D i
  ⟨fun ρ' S' e σ' H' B' ow' i' ex => by
    obtain ⟨B2, i2, ex2⟩ := i'.freeze2 hj
    exact w.nx ρ' S' e σ' H' B2 ow' i2 (ex.trans ex2), w.rt, w.bk, w.ex, w.nb⟩
end
end PD
/-! PDy: x[k].append(e) for a list of own lists. -/
namespace PD
open PySem PySem.Spec PyProof.Rows L2
theorem paired_set2 {α β : Type} {F G : α → β → Prop} {q : α} {b' : β} : ∀ {l₁ : List α} {l₂ : List β} {n : Nat}, Paired F l₁ l₂ → l₁.Nodup → l₁[n]? = some q → G q b' → (∀ a b, a ≠ q → F a b → G a b) → Paired G l₁ (l₂.set n b')
  | _, _, n, .nil, _, h, _, _ => by simp at h
  | _, _, 0, .cons r t, hn, h, g, k => by
    simp at h
    subst h
    have hn := (List.nodup_cons.mp hn).1
    have aux : ∀ (p : α) (k : ∀ a b, a ≠ p → F a b → G a b) {l₁ : List α} {l₂ : List β}, Paired F l₁ l₂ → p ∉ l₁ → Paired G l₁ l₂ := by
      intro p k l₁ l₂ hp
      induction hp with
      | nil => exact fun _ => .nil
      | cons r t ih => exact fun o => .cons (k _ _ (fun z => o (z ▸ List.mem_cons_self ..)) r) (ih fun z => o (List.mem_cons_of_mem _ z))
    exact .cons g (aux _ k t hn)
  | a :: l₁, _, n + 1, .cons r t, hn, h, g, k => by
    have hn := List.nodup_cons.mp hn
    have h : l₁[n]? = some q := by simpa using h
    exact .cons (k _ _ (fun z => hn.1 (z ▸ List.mem_of_getElem? h)) r) (paired_set2 (n := n) t hn.2 h g k)
theorem paired_len {α β : Type} {F : α → β → Prop} : ∀ {l₁ : List α} {l₂ : List β}, Paired F l₁ l₂ → l₁.length = l₂.length
  | _, _, .nil => rfl
  | _, _, .cons _ t => by simp [paired_len t]
section
variable {c : Cc} {x : Fx} {m m' m1 m2 : List Md} {He : Hp} {B0 B : List Addr} {ow : Addr → Nat} {ρ : PD.Env} {σ : L2.St} {H : Hp} {S : Store} {D : Ends}
theorem In.write2 (i : In c He B0 B ow m ρ σ H S) {j n : Nat} (hj : m[j]? = some .own2) {ds : List PyData} {p q : Addr} {qs : List Addr} {d' : PyData} {o : HO} (hv : σ.getD j none = some (.ref p)) (hown : ∀ a ∈ p :: qs, Own B0 B ow j a) (hnd : (p :: qs).Nodup ∧ qs.length ≤ sizeLine)
    (hT : H p = some (.lst (qs.map V.ref))) (hq : Paired (fun q d => Top c.X.K B H q d) qs ds) (hn : qs[n]? = some q) (hc : ∀ z, H q ≠ some (LamX.CodeO q z)) (ht : Top c.X.K B (upd H q o) q d') :
    In c He B0 B ow m (ρ.set j (some (.list (ds.set n d')))) σ (upd H q o) S ∧ Ex (Fz B H) (Fz B (upd H q o)) := by
  have hjl : j < m.length := (List.getElem?_eq_some_iff.mp hj).1
  have hρ : j < ρ.length := by rw [← i.fr.lm]; exact hjl
  have hqm : q ∈ qs := List.mem_of_getElem? hn
  have hw := hown q (List.mem_cons_of_mem _ hqm)
  have qG : q ∉ c.g.G := fun z => hw.2.1 (i.fr.gsub q z)
  have efz : Fz B (upd H q o) = Fz B H := fz_upd hw.1
  have ex : Ex (Fz B H) (Fz B (upd H q o)) := by rw [efz]; exact Ex.refl _
  have nd := List.nodup_cons.mp hnd.1
  have pq : p ≠ q := fun z => nd.1 (z ▸ hqm)
  refine ⟨⟨⟨by simp [i.fr.lm], by simp [i.fr.ls], i.fr.sub, i.fr.gsub, fun k md hk => ?_⟩, i.gi.grow hw.1 qG hc, fun a u na qa => ?_, i.nw⟩, ex⟩
  · rw [getD_set hρ]
    by_cases e : j = k
    · subst e
      rw [hj] at hk
      cases hk
      rw [if_pos rfl]
      exact ⟨_, p, qs, rfl, hv, hown, hnd, by rw [upd_ne pq]; exact hT, paired_set2 (F := fun q d => Top c.X.K B H q d) (G := fun a d => Top c.X.K B (upd H q o) a d) hq nd.2 hn ht fun a b ne t => Top.mono t ex fun u z => by rw [upd_ne ne]; exact z⟩
    · rw [if_neg e]
      exact (i.fr.slot k md hk).step ex (fun a ha => ha.1) fun a u ha qa => by
        rw [upd_ne fun z => e (by rw [← hw.2.2, ← ha.2.2, z])]
        exact qa
  · rw [upd_ne fun z => by rw [z, i.nw q hw.1 hw.2.1] at qa; cases qa]
    exact i.ev a u na qa
def fSub2 (xss : List PyData) (j : PyData) : Option (Nat × List PyData) := match j with
  | .int j => (ixN xss.length j).bind fun n => match xss[n]? with
    | some (.list xs) => some (n, xs)
    | _ => none
  | _ => none
def dApp2 (i : Nat) (k a : DE) : DS := fun ρ S => onLst ρ i fun xss => (k ρ S).st ρ fun j S1 => match fSub2 xss j with
  | some (n, xs) => (a ρ S1).st ρ fun d S2 => putO ρ i ((fApp xs d).map fun z => .list (xss.set n z)) S2
  | none => .bad
theorem paired_at {α β : Type} {F : α → β → Prop} : ∀ {l₁ : List α} {l₂ : List β} {n : Nat} {b : β}, Paired F l₁ l₂ → l₂[n]? = some b → ∃ a, l₁[n]? = some a ∧ F a b
  | _, _, _, _, .nil, h => by simp at h
  | _, _, 0, _, .cons r _, h => by simp at h; subst h; exact ⟨_, rfl, r⟩
  | _, _, n + 1, _, .cons _ t, h => by
    obtain ⟨a, h1, h2⟩ := paired_at (n := n) t (by simpa using h)
    exact ⟨a, by simpa using h1, h2⟩
theorem ref_inj : ∀ l k : List Addr, l.map V.ref = k.map V.ref → l = k
  | [], [], _ => rfl
  | [], _ :: _, h => by simp at h
  | _ :: _, [], h => by simp at h
  | a :: l, b :: k, h => by
    simp only [List.map_cons, List.cons.injEq, V.ref.injEq] at h
    rw [h.1, ref_inj l k h.2]
/-- x[k].append(e), x a list of own lists -/
theorem sv_app2 {i : Nat} {e k : Expr} {a dk : DE} {y : Str} {p1 p2 p3 pos pos' : Pos} (hm : m[i]? = some .own2) (hk : EV c m k dk) (ha : EV c m e a) (hp : PE c.X (.Name y p1) (tVar i)) (hpx : PlainIx k)
    (hs : Pl e := by intro _ _; rfl) (hw : swapsWith (.Call (.Attribute (.Subscript (.Name y p1) k p3) "append" p2) [e] [] pos') none pos.line c.X.env = pure false := by rfl)
    (hbase : attributeBase (.Subscript (.Name y p1) k p3) "append" c.X.env (eval (.Subscript (.Name y p1) k p3) c.X.env) = eval (.Subscript (.Name y p1) k p3) c.X.env := by rfl)
    (hfew : ((backTo pos' (starEach [e] c.X.env)).all (fun x => !x.1) && (backToKw pos' (keywordEach [] c.X.env)).all (fun x => x.1.isSome) && decide ([e].length + ([] : List Keyword).length + (if ([] : List Keyword).isEmpty then 0 else 1) < 30)) = true := by rfl)
    (hline : (p2.endLine == pos'.line) = true := by rfl) (hx : WkX m x.mx = true := by rfl) :
    SV c x m m (.Expr (.Call (.Attribute (.Subscript (.Name y p1) k p3) "append" p2) [e] [] pos') pos) (dApp2 i dk a) := by
  intro He B0 B ow ρ σ H S D i1 w
  refine WS.of (ps_expr (pe_bm PySem.F.plainAttrs_list PySem.F.slot_list_append PySem.F.type_list_append mt_append (pe_ix ix_list hp we hpx) (pa_cons we pa_nil (hs _ _)) hbase hfew hline (hs _ _) (by rw [show starEach [] c.X.env = [] from rfl]; rfl)) hw) ?_
  obtain ⟨ds, p, qs, e0, hv, hown, hnd, hT, hq⟩ := i1.fr.slot i _ hm
  obtain ⟨xs', e1, w⟩ := on_lst e0 w
  cases e1
  refine ⟨.ref p, ?_, ?_⟩
  · rw [List.getD_eq_getElem?_getD] at hv
    cases h2 : σ[i]? with
    | none => rw [h2] at hv; cases hv
    | some o => rw [h2] at hv; rw [show o = some _ from hv]
  refine hk σ H ρ S B0 B ow _ i1.fr i1.gi (goalS i1 hx w fun d S' v H' e ev i2 w2 gd => ?_)
  cases ef : fSub2 ds d with
  | none => rw [ef] at w2; exact absurd rfl w2.nb
  | some r =>
    obtain ⟨n, xs⟩ := r
    rw [ef] at w2
    cases gd with
    | int z =>
      have ef : ((ixN ds.length z).bind fun n => match ds[n]? with | some (.list xs) => some (n, xs) | _ => none) = some (n, xs) := ef
      cases hz : ixN ds.length z with
      | none => rw [hz] at ef; cases ef
      | some n' =>
        rw [hz] at ef
        simp only [Option.bind_some] at ef
        have hdn : n' = n ∧ ds[n]? = some (.list xs) := by
          split at ef
          · rename_i xs' hx'
            cases ef
            exact ⟨rfl, hx'⟩
          · cases ef
        obtain ⟨rfl, hdn⟩ := hdn
        obtain ⟨ds2, p2', qs2, e02, hv2, hown2, hnd2, hT2, hq2⟩ := i2.fr.slot i _ hm
        rw [e0] at e02
        cases e02
        rw [hv] at hv2
        cases hv2
        have hlen := paired_len hq2
        obtain ⟨q, hqn, tq⟩ := paired_at hq2 hdn
        refine ⟨p, qs2.map V.ref, z, .ref q, rfl, rfl, .inl (.inl hT2), ?_, ?_⟩
        · unfold L2.atI
          rw [List.length_map, hlen, hz]
          simp [hqn]
        obtain ⟨vs, h1, hz1, r1⟩ := top_lst tq
        refine ⟨.inl ⟨rfl, vs, .inl (.inl h1)⟩, ?_⟩
        refine ha σ H' ρ S' B0 B ow _ i2.fr i2.gi (goalS i2 hx w2 fun d3 S3 v3 H3 e3 ev3 i3 w3 gd3 => ?_)
        obtain ⟨ds3, p3', qs3, e03, hv3, hown3, hnd3, hT3, hq3⟩ := i3.fr.slot i _ hm
        rw [e0] at e03
        cases e03
        rw [hv] at hv3
        cases hv3
        rw [ev3 p _ (fun z => (hown3 p (List.mem_cons_self ..)).2.1 (i3.fr.gsub p z)) hT2] at hT3
        have eqs : qs2 = qs3 := by
          have h := Option.some.inj hT3
          have h : qs2.map V.ref = qs3.map V.ref := by injection h
          exact ref_inj _ _ h
        subst eqs
        have qm : q ∈ qs2 := List.mem_of_getElem? hqn
        have qG : q ∉ c.g.G := fun z => (hown3 q (List.mem_cons_of_mem _ qm)).2.1 (i3.fr.gsub q z)
        have h2 : H3 q = some (.lst vs) := ev3 q _ qG h1
        unfold putO fApp at w3
        by_cases hlt : xs.length < sizeLine
        · rw [if_pos (decide_eq_true hlt)] at w3
          refine ⟨q, vs, v3, rfl, rfl, h2, by rw [r1.length]; exact hlt, ?_⟩
          obtain ⟨i4, ex⟩ := i3.write2 hm hv hown3 hnd3 (ev3 p _ (fun z => (hown3 p (List.mem_cons_self ..)).2.1 (i3.fr.gsub p z)) hT2) hq3 hqn (lst_code h2) (top_upd (vs := vs ++ [v3]) (xs := xs ++ [d3]) (hown3 q (List.mem_cons_of_mem _ qm)).1 (by rw [List.length_append, r1.length]; show _ + 1 ≤ _; omega) ((r1.mono (ev3.fz i2.gi.sub)).append (.cons gd3 .nil)))
          exact w3.nx _ _ rfl σ _ B ow i4 ex
        · rw [if_neg (by simpa using hlt)] at w3
          exact absurd rfl w3.nb
    | _ => cases ef
end
end PD
/-! PDz: sorted(whole numbers); xs.index(y), xs.count(y) by data. -/
namespace PD
open PySem PySem.Spec PyProof.Rows L2
def sortI (ns : List Int) : List Int := ns.mergeSort fun a b => decide (a ≤ b)
theorem sortI_perm (ns : List Int) : (sortI ns).Perm ns := List.mergeSort_perm ..
theorem sortI_up (ns : List Int) : (sortI ns).Pairwise (· ≤ ·) := by
  have h := List.pairwise_mergeSort (le := fun a b : Int => decide (a ≤ b)) (fun a b c h1 h2 => by simp only [decide_eq_true_eq] at *; omega) (fun a b => by simp only [Bool.or_eq_true, decide_eq_true_eq]; omega) ns
  unfold sortI
  exact h.imp fun h => of_decide_eq_true h
theorem sortI_eq {ns ms : List Int} (h : ms.Perm ns) (hs : ms.Pairwise (· ≤ ·)) : ms = sortI ns :=
  List.Perm.eq_of_pairwise (le := (· ≤ ·)) (fun a b _ _ h1 h2 => Int.le_antisymm h1 h2) hs (sortI_up ns) (h.trans (sortI_perm ns).symm)
def fSortI : PyData → Option PyData | .list xs => (intsOf xs).map fun ns => .list ((sortI ns).map .int) | _ => none
section
variable {c : Cc} {m : List Md} {a b : Expr} {da db : DE} {pos apos p : Pos}
theorem cal_sortI {K : PySem.W.Frag} {g : Gx} : CalO K g (rSortedI K) fSortI := by
  intro B H x dx d Q hn hg hx e k
  unfold fSortI at e
  split at e
  · rename_i xs
    cases q : intsOf xs with
    | none => rw [q] at e; cases e
    | some ns =>
      rw [q] at e
      cases e
      obtain rfl := intsOf_eq q
      obtain ⟨p, vs, rfl, h1, s1, z1⟩ := hx.lst hg
      obtain rfl := h1.ints
      refine ⟨p, ns, rfl, .inl (.inl (s1 H (Evo.refl _ _))), fun ns' l hp hs hl => ?_⟩
      rw [sortI_eq hp hs]
      exact k _ _ (Ex.new hl) hl (top_newL hl (by rw [List.length_map, (sortI_perm ns).length_eq]; simpa using z1) IsAll.of_ints)
  · cases e
theorem eo_sortI (hg : Gl c.X "sorted") (hm : c.X.mg "sorted" = none) (ha : EB c m a da) (hs : Pl a := by intro _ _; rfl) : EO c m (.Call (.Name "sorted" p) [a] [] pos) (d1 fSortI da) := eo_callB cr_sortedI cal_sortI hg hm PyProof.Rows.boot_sorted ha hs
/-! index, count -/
def dM2 (F : PyData → PyData → Option PyData) (a b : DE) : DE := fun ρ S => (a ρ S).bind fun x S1 => match x with | .list _ => (b ρ S1).bind fun y S2 => ofO (F x y) S2 | _ => .bad
def shB (x y : PyData) : Bool := SeqAt.shaped x && SeqAt.shaped y
def fIndex (x y : PyData) : Option PyData := match x with
  | .list ds => if shB x y then (ds.findIdx? fun z => PyData.eqv z y).map fun j => .int (j : Nat) else none
  | _ => none
def fCount (x y : PyData) : Option PyData := match x with
  | .list ds => if shB x y then some (.int (ds.countP fun z => PyData.eqv z y : Nat)) else none
  | _ => none
def rCountD (K : PySem.W.Frag) : V → List V → Hp → VK → Prop := fun x xs H Q => ∃ (a : Addr) (y : V) (d : PyData) (ds : List PyData), x = V.ref a ∧ xs = [y] ∧ Dp K H (V.ref a) (.list ds) ∧ Dp K H y d ∧ SeqAt.shaped (.list ds) = true ∧ SeqAt.shaped d = true ∧ Q (.int (ds.countP fun z => PyData.eqv z d : Nat)) H
theorem mt_countD {X : Cx} (hu : X.A.units + 65 < cLine) : MtR X "list.count" (rCountD X.K) := by
  intro pins s σ H x xs v us Q I rx rxs h
  obtain ⟨a, y, d, ds, rfl, rfl, hl, hy, sl, sd, q⟩ := h
  cases rx
  obtain ⟨uy, rfl, ry⟩ := rxs.one
  obtain ⟨bs, r1⟩ := Dp.reads I d y uy hy ry
  have lay : PyData.canLayAll0 ds = true := SeqAt.canLay_of_shaped sl
  have room : X.A.units + 1 + min (PyData.depthAll ds) d.depth < cLine := room_in_shaped sd hu
  cases hl with
  | lst hs ha =>
    obtain ⟨its, rv, ⟨⟨cls, dd, data, sls⟩, n, ho, hc, hdn, hdt⟩, hlen⟩ := I.list hs
    dsimp only at hc hdt
    subst hc hdt
    obtain ⟨as, h4⟩ := Dp.readsAll I ds _ its ha rv
    refine call_meets PySem.F.slot_list_count ⟨_, ho, rfl⟩ PySem.F.entry_list_count (PySem.F.args_list_count_2 _ _)
      (SeqAt.list_countAt a its.toArray n dd sls uy fun u => PyData.eqv (SeqAt.readOf s.heap u) d) ⟨ho, SeqAt.items_eqAt (vs := its.toArray) (show ReadsAll s.heap its.toArray.toList ds as from h4) r1 lay (SeqAt.canLay_of_shaped sd) room, ?_⟩
    have e : its.toArray.toList.countP (fun u => PyData.eqv (SeqAt.readOf s.heap u) d) = ds.countP fun z => PyData.eqv z d := by
      rw [← SeqAt.readsAll_map ds its as lay h4, List.countP_map]
      rfl
    refine ⟨.int (ds.countP fun z => PyData.eqv z d : Nat), H, I.tok _, ⟨s.toks, ?_⟩, q⟩
    show Value.int ((its.toArray.toList.countP _ : Nat) : Int) s.toks = _
    rw [e]
theorem rb_ty {K : PySem.W.Frag} {g : Gx} {B : List Addr} {H : Hp} {v : V} {ds : List PyData} (h : Rb K g B H v (.list ds)) (hg : ∀ a ∈ g.G, a ∈ B) : ∃ a, v = .ref a ∧ tyV K "list" v H := by
  obtain ⟨a, vs, rfl, h1, s1, z1⟩ := h.lst hg
  exact ⟨a, rfl, .inl ⟨rfl, vs, .inl (.inl (s1 H (Evo.refl _ _)))⟩⟩
theorem sh_of {x y : PyData} (h : shB x y = true) : SeqAt.shaped x = true ∧ SeqAt.shaped y = true := by
  unfold shB at h
  exact Bool.and_eq_true_iff.mp h
theorem meth2 {r : V → List V → Hp → VK → Prop} {F : PyData → PyData → Option PyData}
    (hr : ∀ (B : List Addr) (H : Hp) (x y : V) (dx dy d : PyData) (Q : VK), (∀ a ∈ B, H a ≠ none) → (∀ a ∈ c.g.G, a ∈ B) → Rb c.X.K c.g B H x dx → Rb c.X.K c.g B H y dy → F dx dy = some d → (∀ v, Is c.X.K (Fz B H) v d → Q v H) → r x [y] H Q)
    (ha : EB c m a da) (hb : EV c m b db) {σ : L2.St} {H : Hp} {ρ : PD.Env} {S : Store} {B0 B : List Addr} {ow : Addr → Nat} {Q : VK} (fr : Frame c.X.K c.g B0 B ow m ρ σ H) (gi : GI c.X.K c.g B H S)
    (g : Goal c B H σ (dM2 F da db ρ S) (fun _ H' v d => Is c.X.K (Fz B H') v d) Q) : tBM c.X.K "list" r (PD.WE c.X a) (tCons (PD.WE c.X b) tNil) σ H Q := by
  refine ha σ H ρ S B0 B ow _ fr gi (g.bind fun d S1 v H1 _ ev1 gi1 gd1 g1 => ?_)
  cases d with
  | list ds =>
    obtain ⟨q, rfl, ty⟩ := rb_ty gd1 gi1.sub
    refine ⟨ty, hb σ H1 ρ S1 B0 B ow _ (fr.evo ev1) gi1 (g1.bind fun e S2 w H2 _ ev2 gi2 gd2 g2 => ?_)⟩
    cases ef : F (.list ds) e with
    | none => rw [ef] at g2; exact absurd rfl g2.not_bad
    | some z =>
      rw [ef] at g2
      exact hr B H2 _ w _ e z _ gi2.kn gi2.sub (Rb.evo gd1 gi1.sub ev2) (.inl gd2) ef fun u iu => g2.ok0 gi2 iu
  | _ => exact absurd rfl g1.not_bad
theorem ev_count (hu : c.X.A.units + 65 < cLine) (ha : EB c m a da) (hb : EV c m b db) (hs : Pl b := by intro _ _; rfl)
    (hbase : attributeBase a "count" c.X.env (eval a c.X.env) = eval a c.X.env := by rfl)
    (hfew : ((backTo pos (starEach [b] c.X.env)).all (fun x => !x.1) && (backToKw pos (keywordEach [] c.X.env)).all (fun x => x.1.isSome) && decide ([b].length + ([] : List Keyword).length + (if ([] : List Keyword).isEmpty then 0 else 1) < 30)) = true := by rfl)
    (hline : (apos.endLine == pos.line) = true := by rfl) : EV c m (.Call (.Attribute a "count" apos) [b] [] pos) (dM2 fCount da db) := fun σ H ρ S B0 B ow Q fr gi g =>
  PD.WE.of (pe_bm PySem.F.plainAttrs_list PySem.F.slot_list_count PySem.F.type_list_count (mt_countD hu) we (pa_cons we pa_nil (hs _ _)) hbase hfew hline (hs _ _) (by rw [show starEach [] c.X.env = [] from rfl]; rfl))
    (meth2 (fun B H x y dx dy d Q hn hg hx hy e k => by
      unfold fCount at e
      split at e
      · rename_i ds
        split at e
        · rename_i hc
          cases e
          obtain ⟨s1, s2⟩ := sh_of hc
          obtain ⟨q, rfl, _⟩ := rb_ty hx hg
          exact ⟨q, y, dy, ds, rfl, rfl, hx.dp (SeqAt.canLay_of_shaped s1), hy.dp (SeqAt.canLay_of_shaped s2), s1, s2, k _ (.int _)⟩
        · cases e
      · cases e) ha hb fr gi g)
theorem ev_index (hu : c.X.A.units + 65 < cLine) (ha : EB c m a da) (hb : EV c m b db) (hs : Pl b := by intro _ _; rfl)
    (hbase : attributeBase a "index" c.X.env (eval a c.X.env) = eval a c.X.env := by rfl)
    (hfew : ((backTo pos (starEach [b] c.X.env)).all (fun x => !x.1) && (backToKw pos (keywordEach [] c.X.env)).all (fun x => x.1.isSome) && decide ([b].length + ([] : List Keyword).length + (if ([] : List Keyword).isEmpty then 0 else 1) < 30)) = true := by rfl)
    (hline : (apos.endLine == pos.line) = true := by rfl) : EV c m (.Call (.Attribute a "index" apos) [b] [] pos) (dM2 fIndex da db) := fun σ H ρ S B0 B ow Q fr gi g =>
  PD.WE.of (pe_bm PySem.F.plainAttrs_list PySem.F.slot_list_index PySem.F.type_list_index (mt_indexD hu) we (pa_cons we pa_nil (hs _ _)) hbase hfew hline (hs _ _) (by rw [show starEach [] c.X.env = [] from rfl]; rfl))
    (meth2 (fun B H x y dx dy d Q hn hg hx hy e k => by
      unfold fIndex at e
      split at e
      · rename_i ds
        split at e
        · rename_i hc
          cases ej : ds.findIdx? (fun z => PyData.eqv z dy) with
          | none => rw [ej] at e; cases e
          | some j =>
            rw [ej] at e
            cases e
            obtain ⟨s1, s2⟩ := sh_of hc
            obtain ⟨q, rfl, _⟩ := rb_ty hx hg
            obtain ⟨hj, h1, h2⟩ := List.findIdx?_eq_some_iff_getElem.mp ej
            exact ⟨q, y, dy, ds, j, ds[j], rfl, rfl, hx.dp (SeqAt.canLay_of_shaped s1), hy.dp (SeqAt.canLay_of_shaped s2), s1, s2, List.getElem?_eq_getElem hj, h1, fun m' z' hm hz => by
              have hml : m' < ds.length := by omega
              rw [List.getElem?_eq_getElem hml] at hz
              cases hz
              simpa using h2 m' hm, k _ (.int _)⟩
        · cases e
      · cases e) ha hb fr gi g)
end
end PD
/-! PDta: try with several clauses that name what they catch. -/
namespace PD
open PySem PySem.Spec PyProof.Rows L2
/-- a suite's ends: the name goes -/
def nameGone (i : Nat) (D : Ends) : Ends := { nx := fun τ G => D.nx (τ.set i none) G, rt := D.rt, bk := fun τ G => D.bk (τ.set i none) G, ct := fun τ G => D.ct (τ.set i none) G }
abbrev Clause := Nat × Value × (Addr → Value → Option Addr → TS)
def wClauses (K : PySem.W.Frag) (Wo : WX) (D : Ends) : List Clause → WX
  | [] => Wo
  | (i, c, t) :: r => fun cls d τ G => ∃ b, PySem.W.exmOne K cls c = some b ∧ (b = true → ∀ ad, G ad = none → t ad cls d (nameGone i D) (τ.set i (some (.ref ad))) G) ∧ (b = false → wClauses K Wo D r cls d τ G)
inductive Clauses (X : Cx) : List ExceptHandler → List Clause → Prop
  | nil : Clauses X [] []
  | cons {C n : Str} {i : Nat} {cv : Value} {t : Addr → Value → Option Addr → TS} {st : Stmt} {sts : List Stmt} {cp hp : Pos} {rest : List ExceptHandler} {l : List Clause} (hc : Names X C cv) (hi : X.N[i]? = some n) (hk : X.env.kindOf n = some .local)
      (suite : ∀ (ad : Addr) (ob : Obj) (cls : Value) (d : Option Addr) (pn : List (Addr × Obj)), Zc cls d ob → (∃ us, ob.data = .fields us) → PSs (X.suite ad ((ad, ob) :: pn)) (st :: sts) (t ad cls d)) (r : Clauses X rest l) :
      Clauses X (.ExceptHandler (some (.Name C cp)) (some n) (st :: sts) hp :: rest) ((i, cv, t) :: l)
section
variable {X : Cx} {body : List Stmt} {h0 : ExceptHandler} {hs : List ExceptHandler} {l : List Clause} {pos : Pos} {tb : WX → TS} {Wo : WX}
theorem ps_clauses (est : X.stack = X.env :: X.outer) (efr : X.env.frame = some X.env.locals) (nd : X.N.Nodup) (tk : Takes X Wo)
    (hb : ∀ (W : WX) (pn : List (Addr × Obj)) (xe : Value → Shared → Prop), Takes (X.tr pn xe) W → PassesOwn (model X.prog X.w) X.A X.env xe → PSs (X.tr pn xe) body (tb W))
    (hh : Clauses X (h0 :: hs) l) : PS X (.Try body (h0 :: hs) [] [] pos) (fun D τ G => tb (wClauses X.K Wo D l) D τ G) := by
  constructor
  intro pins s τ G D I hyp
  have okX := I.ok
  have fro : X.A.frames = some (X.env :: X.outer) := okX.frames.trans (congrArg some est)
  refine wpAny_Try_except ?_
  have caughtOk : Takes (X.tr (X.pn ++ pins) fun e s1 => wpAny (model X.prog X.w) X.A (noteFrame e X.env) (fun _ s2 => wpAny (model X.prog X.w) X.A (setFlight e none) (fun _ s3 => wpAny (model X.prog X.w) X.A (handleBy e X.env (h0 :: hs)) (SP X pins D) X.xe s3) X.xe s2) X.xe s1) (wClauses X.K Wo D l) := by
    intro u s1 caught
    obtain ⟨ad, B, s0, pins', τ', G', cls, d, rfl, Ib, nb, up, sky, na, os, bare, wish⟩ := caught
    have Iq : Inv X pins τ' G' s0 := Ib.ofTry okX
    have skyX : Sky B (X.env :: X.outer) ad (Zc cls d) X.env.locals s1.heap := est ▸ sky
    show wpAny (model X.prog X.w) X.A (noteFrame (.ref ad) X.env) _ _ _
    refine Sky.land Zc.steady fro efr skyX fun hA flA upA => ?_
    have IA : Inv X pins τ' G' { s1 with heap := hA } := Iq.landed nb flA.1 (up.trans upA) os bare
    obtain ⟨obA, usA, getA, zcA, datA⟩ := flA.there
    have off : ad ∉ frs (X.env :: X.outer) := fun hm => by
      obtain ⟨_, ob2, get2, nf⟩ := flA.2.2.1.mem hm
      cases getA.symm.trans get2
      exact nf _ datA
    have offL : ad ≠ X.env.locals := fun z => off (List.mem_filterMap.mpr ⟨X.env, List.mem_cons_self, efr.trans (congrArg some z.symm)⟩)
    have offF : ad ∉ X.fs := fun hm => by
      obtain ⟨ev, hev, q⟩ := List.mem_filterMap.mp hm
      exact off (List.mem_filterMap.mpr ⟨ev, List.mem_cons_of_mem _ hev, q⟩)
    have suiteA := IA.suite getA datA na offL offF
    suffices walk : ∀ {hs' : List ExceptHandler} {l' : List Clause}, Clauses X hs' l' → wClauses X.K Wo D l' cls d τ' G' → wpAny (model X.prog X.w) X.A (handleBy (.ref ad) X.env hs') (SP X pins D) X.xe { s1 with heap := hA } from walk hh wish
    intro hs' l' hcl
    induction hcl with
    | nil =>
      intro wish
      refine wpAny_handleBy_nil ?_
      obtain ⟨f1, f2, f3, ob3, us3, T3, oT3, ts3, get3, zc3, dat3, fld3, rest3⟩ := id flA
      unfold PySem.passOn
      refine wpAny_bind (wpAny_field get3 dat3 fld3 ?_)
      have ne : ¬ ((Value.ref T3 == Value.none) = true) := by simp
      rw [if_neg ne]
      have out : wpAny (model X.prog X.w) X.A (setFlight (.ref ad) X.env.frame) (fun _ s4 => wpAny (model X.prog X.w) X.A (throw (.ref ad) : Sem Flow) (SP X pins D) X.xe s4) X.xe { s1 with heap := hA } := by
        rw [efr]
        exact HandSPX.setFlight_upZ flA fun hB flB upB => wpAny_throw (tk _ _ ⟨ad, B, s0, pins, τ', G', cls, d, rfl, Iq, nb, (up.trans upA).trans upB, .inr (.inr (est.symm ▸ flB)), na, os, bare, wish⟩)
      first
        | exact wpAny_bind (wpAny_pure (wpAny_bind out))
        | exact wpAny_bind out
    | @cons C n i cv t st sts cp hp rest lr hc hi hk suite _ ih =>
      intro wish
      obtain ⟨b, isIt, yes, no⟩ := wish
      refine wpAny_handleBy_cons (codeAny_handlers_test ?_) (by rintro ⟨⟩)
      have looks : PySem.W.Looks (model X.prog X.w) hA (typeOf (.ref ad)) cls := fun A Q E s k q => wpAny_typeOf_ref (k _ _ getA) (zcA.1.symm ▸ q)
      have name : ∀ {Q : Value → Shared → Prop} {E : Value → Shared → Prop}, Q cv { s1 with heap := hA } → wpAny (model X.prog X.w) (X.A.mark (some (.ref ad))) (eval (.Name C cp) X.env) Q E { s1 with heap := hA } := by
        intro Q E q
        rcases hc with ⟨hg, hdb, hm | ⟨hm, hv, hn⟩⟩
        · exact ld_glob (X := X.suite ad ((ad, obA) :: (X.pn ++ pins))) suiteA hg hm q hdb
        · exact ld_blt (X := X.suite ad ((ad, obA) :: (X.pn ++ pins))) suiteA hg hm hv q hn hdb
      refine name ((PySem.W.exm_one (M := model X.prog X.w) IA.kIn looks isIt).here ?_)
      cases b with
      | false =>
        show wpAny _ X.A (handleBy (.ref ad) X.env rest) _ _ _
        exact ih (no rfl)
      | true =>
        refine codeAny_handlers_suite_as (HandSPX.lands_againZ flA fun hB flB upB => ?_)
        have IB : Inv X pins τ' G' { s1 with heap := hB } := Iq.landed nb flB.1 ((up.trans upA).trans upB) os bare
        obtain ⟨obB, usB, getB, zcB, datB⟩ := flB.there
        have suiteB := IB.suite getB datB na offL offF
        refine store_ok (X := X.suite ad ((ad, obB) :: (X.pn ++ pins))) (v := .ref ad) suiteB nd hi (.inl hk) rfl (fun s5 I5 => ?_) (.inr hk)
        refine wpAny_mono ((suite ad obB cls d (X.pn ++ pins) zcB ⟨_, datB⟩).run [] s5 _ G' _ I5 (yes rfl ad na)) (fun f s6 fin => ?_) (fun _ _ z => z.elim)
        have goes : ∀ {τ6 : L2.St} {G6 : Hp} {Q : Shared → Prop}, Inv (X.suite ad ((ad, obB) :: (X.pn ++ pins))) [] τ6 G6 s6 → (∀ s7, Inv X pins (τ6.set i none) G6 s7 → Q s7) →
            wpAny (model X.prog X.w) X.A (do bindName X.env n .none; unbindBehindTheSuite X.env n hp) (fun _ s7 => Q s7) X.xe s6 := fun I6 hq => gone_ok (I6.unsuite okX) nd hi hk hq
        cases f with
        | ret u =>
          obtain ⟨v6, τ6, G6, I6, r6, q6⟩ := fin
          exact goes I6 fun s7 I7 => ⟨_, _, _, I7, r6, q6⟩
        | next =>
          obtain ⟨τ6, G6, I6, q6⟩ := fin
          exact goes I6 fun s7 I7 => ⟨_, _, I7, q6⟩
        | brk =>
          obtain ⟨τ6, G6, I6, q6⟩ := fin
          exact goes I6 fun s7 I7 => ⟨_, _, I7, q6⟩
        | cont =>
          obtain ⟨τ6, G6, I6, q6⟩ := fin
          exact goes I6 fun s7 I7 => ⟨_, _, I7, q6⟩
  refine wpAny_mono ((hb _ _ _ caughtOk PassesOwn.looking).run [] s τ G D (I.toTry _) hyp) (fun f s1 fin => ?_) fun e s1 he => he
  cases f with
  | ret u =>
    obtain ⟨v', τ', G', I', r', q'⟩ := fin
    exact ⟨v', τ', G', I'.ofTry okX, r', q'⟩
  | next =>
    obtain ⟨τ', G', I', q'⟩ := fin
    exact wpAny_execs_nil ⟨τ', G', I'.ofTry okX, q'⟩
  | brk =>
    obtain ⟨τ', G', I', q'⟩ := fin
    exact ⟨τ', G', I'.ofTry okX, q'⟩
  | cont =>
    obtain ⟨τ', G', I', q'⟩ := fin
    exact ⟨τ', G', I'.ofTry okX, q'⟩
end
end PD
/-! PDtb: try with several clauses, by denotation. -/
namespace PD
open PySem PySem.Spec PyProof.Rows L2
abbrev DCl := List ((Str → Bool) × (Xc → DS))
def pickC : DCl → Xc → DS
  | [], xc => fun ρ S => .exc xc ρ S
  | (sub, dh) :: r, xc => fun ρ S => if sub xc.cls = true then (dh xc ρ S).calm else pickC r xc ρ S
def dTryN (cs : List Str) (db : DS) (l : DCl) : DS := fun ρ S => match db ρ S with
  | .exc xc ρ' S' => if cs.contains xc.cls then pickC l xc ρ' S' else .bad
  | r => r
section
variable {c : Cc} {x : Fx} {m m' m1 m2 : List Md} {He : Hp} {B0 B : List Addr} {ow : Addr → Nat} {ρ : PD.Env} {σ : L2.St} {H : Hp} {S : Store} {D : Ends}
inductive ClsOk (c : Cc) (x : Fx) (cs : List Str) (mh m' : List Md) : List ExceptHandler → DCl → Prop
  | nil : ClsOk c x cs mh m' [] []
  | cons {en n : Str} {CA : Addr} {i : Nat} {sub : Str → Bool} {b₀ : Stmt} {suite : List Stmt} {np hp : Pos} {dh : Xc → DS} {m2 : List Md} {rest : List ExceptHandler} {l : DCl} (hi : c.X.N[i]? = some n) (hln : c.X.env.kindOf n = some .local) (hc : Names c.X en (.ref CA)) (hil : i < mh.length)
      (hsub : ∀ y ∈ cs, ∀ E, c.X.mg y = some (.ref E) → PySem.W.exmOne c.X.K (.ref E) (.ref CA) = some (sub y))
      (hd : ∀ a oe d pn xc E, Zc (.ref E) d oe → (∃ vs, oe.data = .fields vs) → c.X.mg xc.cls = some (.ref E) → xc.cls ∈ cs → SVs (c.suite a oe d pn xc) { x with mx := none } (mh.set i .ea) m2 (b₀ :: suite) (dh xc))
      (hm2 : Wk (m2.set i .un) m' = true) (hno2 : noEa (m2.set i .un) = true) (hi2 : i < m2.length) (r : ClsOk c x cs mh m' rest l) : ClsOk c x cs mh m' (.ExceptHandler (some (.Name en np)) (some n) (b₀ :: suite) hp :: rest) ((sub, dh) :: l)
theorem cls_wish {cs : List Str} {mh : List Md} {hs : List ExceptHandler} {l : DCl} (k : ClsOk c x cs mh m' hs l) (hno : noEa mh = true) (hx : WkX mh x.mx = true) : ∃ cl, Clauses c.X hs cl ∧
    ∀ (He : Hp) (B0 B : List Addr) (H : Hp) (D : Ends) (xc : Xc) (ρ' : PD.Env) (S' : Store) (σ' : L2.St) (H' : Hp) (B' : List Addr) (ow' : Addr → Nat) (E : Addr) (dd : Option Addr), Wants c x He B0 B H m' (pickC l xc ρ' S') D → xc.cls ∈ cs →
      Frame c.X.K c.g B0 B' ow' mh ρ' σ' H' → GI c.X.K c.g B' H' S' → Evo c.g.G He H' → (∀ p ∈ B', p ∉ B0 → He p = none) → (∀ a ∈ B0, a ∈ B') → Ex (Fz B H) (Fz B' H') → c.X.mg xc.cls = some (.ref E) → FsRep c.X.K (Fz B' H') xc dd →
      wClauses c.X.K c.W D cl (.ref E) dd σ' H' := by
  induction k with
  | nil =>
    refine ⟨[], .nil, fun He B0 B H D xc ρ' S' σ' H' B' ow' E dd w hcs fr gi ev nw sb exx g1 fsr => ?_⟩
    exact w.ex xc ρ' S' rfl σ' H' B' ow' _ dd (MxOk.of fr hx) gi ev nw sb exx ⟨E, g1, rfl, fsr⟩
  | @cons en n CA i sub b₀ suite np hp dh m2 rest l hi hln hc hil hsub hd hm2 hno2 hi2 _ ih =>
    obtain ⟨cl, h1, h2⟩ := ih
    refine ⟨(i, .ref CA, fun a cls d D σ H => ∀ oe pn, Zc cls d oe → (∃ vs, oe.data = .fields vs) → WSs (c.X.suite a ((a, oe) :: pn)) (b₀ :: suite) D σ H) :: cl, .cons hc hi hln (fun a oe cls d pn hz hv => ⟨fun pins s σ H D I h => (h oe pn hz hv).go pins s I⟩) h1, fun He B0 B H D xc ρ' S' σ' H' B' ow' E dd w hcs fr gi ev nw sb exx g1 fsr => ?_⟩
    refine ⟨sub xc.cls, hsub _ hcs E g1, fun hs a ha oe pn2 hz hv => ?_, fun hs => ?_⟩
    · have w : Wants c x He B0 B H m' (dh xc ρ' S').calm D := by
        unfold pickC at w
        rw [if_pos hs] at w
        exact w
      have fr' : Frame c.X.K (c.g.withE a xc dd) B0 B' ow' mh ρ' σ' H' := Frame.setE (g := c.g) rfl rfl rfl fr hno
      have gi' : GI c.X.K (c.g.withE a xc dd) B' H' S' := GI.setE (g := c.g) rfl rfl rfl gi
      have hρ : i < ρ'.length := by rw [← fr.lm]; exact hil
      have hσ : i < σ'.length := by rw [fr.ls]; exact hρ
      have fr2 : Frame c.X.K (c.g.withE a xc dd) B0 B' ow' (mh.set i .ea) ρ' (σ'.set i (some (.ref a))) H' := by
        refine ⟨by rw [List.length_set]; exact fr'.lm, by rw [List.length_set]; exact fr'.ls, fr'.sub, fr'.gsub, fun j md hj => ?_⟩
        rw [getD_set hσ]
        by_cases ej : i = j
        · subst ej
          rw [List.getElem?_set_self hil] at hj
          cases hj
          rw [if_pos rfl]
          exact ⟨a, xc, dd, rfl, rfl, fsr⟩
        · rw [List.getElem?_set_ne ej] at hj
          rw [if_neg ej]
          exact fr'.slot j md hj
      refine hd a oe dd pn2 xc E hz hv g1 hcs He B0 B' ow' ρ' _ H' S' _ ⟨fr2, gi', ev, nw⟩ ⟨fun ρ3 S3 e3 σ3 H3 B3 ow3 i3 ex3 => ?_, fun d S3 e3 v H3 ev3 gi3 rs => ?_, fun ρ3 S3 e3 σ3 H3 B3 ow3 i3 ex3 => ?_, fun xc3 ρ3 S3 e3 => ?_, fun e3 => ?_⟩
      · refine w.nx ρ3 S3 (by rw [e3]; rfl) _ H3 B3 ow3 ⟨(Frame.setE (g := c.g.withE a xc dd) (g' := c.g) rfl rfl rfl (i3.fr.unk hi2) hno2).weak hm2, GI.setE (g := c.g.withE a xc dd) (g' := c.g) rfl rfl rfl i3.gi, i3.ev, i3.nw⟩ (exx.trans ex3)
      · refine w.rt d S3 (by rw [e3]; rfl) v H3 ev3 (GI.setE (g := c.g.withE a xc dd) (g' := c.g) rfl rfl rfl gi3) ?_
        unfold ResOk at rs ⊢
        split at rs
        · rename_i q
          rw [if_pos q]
          obtain ⟨p, r1, r2, r3, r4⟩ := rs
          exact ⟨p, r1, r2, r3, GI.setE (g := c.g.withE a xc dd) (g' := c.g) rfl rfl rfl r4⟩
        · rename_i q
          rw [if_neg q]
          exact rs
      · exact absurd (by rw [e3]; rfl) w.nb
      · exact absurd (by rw [e3]; rfl) w.nb
      · exact absurd (by rw [e3]; rfl) w.nb
    · refine h2 He B0 B H D xc ρ' S' σ' H' B' ow' E dd ?_ hcs fr gi ev nw sb exx g1 fsr
      unfold pickC at w
      rw [if_neg (by rw [hs]; simp)] at w
      exact w
/-- try: body / except C as n: .. / except C' as n': .. -/
theorem sv_tryN {cs : List Str} {body : List Stmt} {h0 : ExceptHandler} {hs : List ExceptHandler} {l : DCl} {pos : Pos} {db : DS} {mh : List Md}
    (hst : c.X.stack = c.X.env :: c.X.outer) (hf : c.X.env.frame = some c.X.env.locals) (hN : c.X.N.Nodup) (tk : Takes c.X c.W) (hno : noEa mh = true)
    (hb : ∀ W pn xe, Takes (c.X.tr pn xe) W → PassesOwn (model c.X.prog c.X.w) c.X.A c.X.env xe → SVs ⟨c.g, c.X.tr pn xe, W⟩ { x with mx := some mh } m m' body db)
    (k : ClsOk c x cs mh m' (h0 :: hs) l) (hx : WkX mh x.mx = true) :
    SV c x m m' (.Try body (h0 :: hs) [] [] pos) (dTryN cs db l) := by
  intro He B0 B ow ρ σ H S D i1 w
  obtain ⟨cl, h1, h2⟩ := cls_wish k hno hx
  refine WS.of (ps_clauses (tb := fun W D σ H => ∀ pn xe, Takes (c.X.tr pn xe) W → PassesOwn (model c.X.prog c.X.w) c.X.A c.X.env xe → WSs (c.X.tr pn xe) body D σ H) hst hf hN tk (fun W pn xe t po => ⟨fun pins s σ H D I h => (h pn xe t po).go pins s I⟩) h1) ?_
  intro pn xe t po
  refine hb _ pn xe t po He B0 B ow ρ σ H S _ ⟨i1.fr, i1.gi, i1.ev, i1.nw⟩ ⟨fun ρ' S' e σ' H' B' ow' i2 ex => ?_, fun d S' e => ?_, fun ρ' S' e σ' H' B' ow' i2 ex => ?_, fun xc ρ' S' e σ' H' B' ow' cls dd mxo gi ev nw sb exx xr => ?_, fun e => ?_⟩
  · exact w.nx ρ' S' (by simp only [dTryN, e]) σ' H' B' ow' ⟨i2.fr, i2.gi, i2.ev, i2.nw⟩ ex
  · exact w.rt d S' (by simp only [dTryN, e])
  · exact w.bk ρ' S' (by simp only [dTryN, e]) σ' H' B' ow' ⟨i2.fr, i2.gi, i2.ev, i2.nw⟩ ex
  · obtain ⟨E, g1, rfl, fsr⟩ := xr
    by_cases hcs : xc.cls ∈ cs
    · have er : dTryN cs db l ρ S = pickC l xc ρ' S' := by
        simp only [dTryN, e]
        rw [if_pos (List.contains_iff_mem.mpr hcs)]
      rw [er] at w
      exact h2 He B0 B H D xc ρ' S' σ' H' B' ow' E dd w hcs mxo gi ev nw sb exx g1 fsr
    · exact absurd (by simp only [dTryN, e]; rw [if_neg (fun z => hcs (List.contains_iff_mem.mp z))]) w.nb
  · exact w.nb (by simp only [dTryN, e])
end
end PD
/-! PDtc: sorted(xs), xs a list of data that compare. -/
namespace PD
open PySem PySem.Spec PyProof.Rows L2
open PySem.W (AllAlike Sortable EachIs alike dataLt dataLe)
def sortD (ds : List PyData) : List PyData := ds.mergeSort fun a b => !dataLt b a
def bigTup : PyData → Bool | .tuple (_ :: _) => true | _ => false
def noTup : PyData → Bool | .none => false | .tuple _ => false | _ => true
def sortOk (ds : List PyData) : Bool := decide (ds.length ≤ 1) || (ds.all (fun d => ds.all fun e => alike d e) && (ds.all bigTup || ds.all noTup) && ds.all (fun d => decide (d.depth ≤ 60)) && SeqAt.shaped (.list ds))
def fSortG : PyData → Option PyData | .list ds => if sortOk ds then some (.list (sortD ds)) else none | _ => none
def fSort (x : PyData) : Option PyData := match fSortI x with | some d => some d | none => fSortG x
theorem fSort_I {x d : PyData} (h : fSortI x = some d) : fSort x = some d := by unfold fSort; rw [h]
theorem fSort_or {x d : PyData} (h : fSort x = some d) : fSortI x = some d ∨ fSortG x = some d := by
  unfold fSort at h
  split at h
  · rename_i e; cases h; exact .inl e
  · exact .inr h
theorem sortD_len (ds : List PyData) : (sortD ds).length = ds.length := (List.mergeSort_perm ..).length_eq
theorem sortD_small {ds : List PyData} (h : ds.length ≤ 1) : sortD ds = ds := by
  match ds, h with
  | [], _ => simp [sortD]
  | [x], _ => simp [sortD]
  | _ :: _ :: _, h => simp at h
theorem sortOk_iff {ds : List PyData} (h : sortOk ds = true) (h2 : 2 ≤ ds.length) : AllAlike (ds.map id) ∧ Sortable (ds.map id) ∧ (∀ d ∈ ds, d.depth ≤ 60) ∧ SeqAt.shaped (.list ds) = true := by
  unfold sortOk at h
  have e : decide (ds.length ≤ 1) = false := decide_eq_false (by omega)
  rw [e, Bool.false_or] at h
  obtain ⟨h, h4⟩ := Bool.and_eq_true_iff.mp h
  obtain ⟨h, h3⟩ := Bool.and_eq_true_iff.mp h
  obtain ⟨h1, hb⟩ := Bool.and_eq_true_iff.mp h
  rw [List.map_id]
  refine ⟨fun d hd e he => List.all_eq_true.mp (List.all_eq_true.mp h1 d hd) e he, ?_, fun d hd => of_decide_eq_true (List.all_eq_true.mp h3 d hd), h4⟩
  rcases Bool.or_eq_true_iff.mp hb with hb | hb
  · refine .inl fun d hd => ?_
    have q := List.all_eq_true.mp hb d hd
    unfold bigTup at q
    split at q
    · exact ⟨_, _, rfl⟩
    · cases q
  · refine .inr fun d hd => ?_
    have q := List.all_eq_true.mp hb d hd
    unfold noTup at q
    refine ⟨fun e => ?_, fun xs e => ?_⟩ <;> subst e <;> cases q
/-- what an item stands for -/
def RD (K : PySem.W.Frag) (Hf : Hp) (v : Value) (d : PyData) : Prop := ∃ x, RelV x v ∧ Is K Hf x d
theorem rd_of {K : PySem.W.Frag} {Hf : Hp} : ∀ {xs : List V} {its : List Value} {ds : List PyData}, Vals xs its → IsAll K Hf xs ds → EachIs (RD K Hf) its ds
  | _, _, _, .nil, .nil => .nil
  | _, _, _, .cons r rs, .cons i is => .cons ⟨_, r, i⟩ (rd_of rs is)
theorem rd_back {K : PySem.W.Frag} {Hf : Hp} : ∀ {its : List Value} {ds : List PyData}, EachIs (RD K Hf) its ds → ∃ xs, Vals xs its ∧ IsAll K Hf xs ds
  | _, _, .nil => ⟨[], .nil, .nil⟩
  | _, _, .cons ⟨x, r, i⟩ t => by
    obtain ⟨xs, a, b⟩ := rd_back t
    exact ⟨x :: xs, .cons r a, .cons i b⟩
def rSortG (K : PySem.W.Frag) : List V → Hp → VK → Prop := fun vs H Q => ∃ (a : Addr) (xs : List V) (ds : List PyData) (Hf : Hp), vs = [V.ref a] ∧ SqL K H a xs ∧ IsAll K Hf xs ds ∧ (2 ≤ ds.length → DpAll K H xs ds) ∧ sortOk ds = true ∧
  ∀ (xs' : List V) (p : Addr), IsAll K Hf xs' (sortD ds) → H p = none → Q (.ref p) (upd H p (.lst xs'))
theorem perm_small {α : Type} {a b : List α} (p : a.Perm b) (h : b.length ≤ 1) : a = b := by
  match b, h with
  | [], _ => exact List.perm_nil.mp p
  | [x], _ => exact List.perm_singleton.mp p
  | _ :: _ :: _, h => simp at h
theorem cr_sortG {X : Cx} (hu : X.A.units + 65 < cLine) : CallR X (.builtin "sorted") (rSortG X.K) := by
  intro pins s σ H vs us Q I r h
  obtain ⟨a, xs, ds, Hf, rfl, hs, ia, dp, ok, q⟩ := h
  obtain ⟨its, rv, hl, hz⟩ := I.list hs
  rw [Vals.ref1 r]
  have hlen : ds.length = its.length := ia.length.symm.trans rv.length
  have fin : ∀ out : List Value, EachIs (RD X.K Hf) out (sortD ds) → EP X pins σ Q (.ref (s.heap.objs.size + 1)) { s with heap := PyProof.Rows.sortedAll s.heap its out.toArray } := fun out eo => by
    obtain ⟨xs', v', i'⟩ := rd_back eo
    obtain ⟨ep, he'⟩ := PyProof.Rows.sortedAll_at s.heap its out.toArray
    have hlen' : xs'.length ≤ sizeLine := by rw [i'.length, sortD_len, hlen, ← rv.length]; exact hz
    exact ⟨.ref _, upd H (s.heap.objs.size + 1) (.lst xs'), I.laid (t' := s.toks) (fun _ _ => PyProof.Rows.sortedAll_old) (Nat.le_succ _) ⟨hlen', out, ep, v', he'⟩, rfl, q _ _ i' (I.hok.fresh (Nat.le_succ _))⟩
  by_cases h2 : 2 ≤ ds.length
  · obtain ⟨k1, k2, k3, k4⟩ := sortOk_iff ok h2
    obtain ⟨as, h4⟩ := Dp.readsAll I ds xs its (dp h2) rv
    have er : EachIs (fun v b => ∃ as, Reads s.heap v (id b) as) its ds := PySem.W.readsAll_each (enc := id) (by rw [List.map_id]; exact h4)
    have hL : ds.length ≤ sizeLine := by rw [hlen, ← rv.length]; exact hz
    have hD : ∀ b, b ∈ ds → X.A.units + 2 + (id b : PyData).depth < cLine := fun b hb => by
      have := k3 b hb
      show X.A.units + 2 + b.depth < cLine
      omega
    exact PySem.W.sorted_data (enc := id) (R := RD X.K Hf) hl.isList (rd_of rv ia) er k1 k2 hL hD fun out _ eo => fin out eo
  · refine SrtO.sorted_ord SrtO.swo_int hl.isList (by rw [← rv.length]; exact hz) (fun h2' => absurd (show 2 ≤ ds.length by rw [hlen]; exact h2') h2) fun out h1 h2' => ?_
    have e : out = its := perm_small h2'.perm (by omega)
    subst e
    refine fin out ?_
    rw [sortD_small (by omega)]
    exact rd_of rv ia
section
variable {c : Cc} {m : List Md} {a : Expr} {da : DE} {pos p : Pos}
theorem cal_sortG {K : PySem.W.Frag} {g : Gx} : CalO K g (rSortG K) fSortG := by
  intro B H x dx d Q hn hg hx e k
  unfold fSortG at e
  split at e
  · rename_i ds
    split at e
    · rename_i ok
      cases e
      obtain ⟨p, vs, rfl, h1, s1, z1⟩ := hx.lst hg
      refine ⟨p, vs, ds, Fz B H, rfl, .inl (.inl (s1 H (Evo.refl _ _))), h1, fun h2 => ?_, ok, fun xs' l i hl => ?_⟩
      · have sh := (sortOk_iff ok h2).2.2.2
        exact (h1.mono fz_le).dp (by have := SeqAt.canLay_of_shaped sh; simpa [PyData.canLay0] using this)
      · exact k _ _ (Ex.new hl) hl (top_newL hl (by rw [i.length, sortD_len, ← h1.length]; exact z1) i)
    · cases e
  · cases e
theorem CalO.or {K : PySem.W.Frag} {g : Gx} {r1 r2 : List V → Hp → VK → Prop} {F1 F2 F : PyData → Option PyData} (h1 : CalO K g r1 F1) (h2 : CalO K g r2 F2) (h : ∀ x d, F x = some d → F1 x = some d ∨ F2 x = some d) : CalO K g (fun xs H Q => r1 xs H Q ∨ r2 xs H Q) F := fun B H x dx d Q hn hg hx e k => by
  rcases h dx d e with e | e
  · exact .inl (h1 B H x dx d Q hn hg hx e k)
  · exact .inr (h2 B H x dx d Q hn hg hx e k)
theorem eo_sort (hu : c.X.A.units + 65 < cLine) (hg : Gl c.X "sorted") (hm : c.X.mg "sorted" = none) (ha : EB c m a da) (hs : Pl a := by intro _ _; rfl) : EO c m (.Call (.Name "sorted" p) [a] [] pos) (d1 fSort da) :=
  eo_callB (CallR.or cr_sortedI (cr_sortG hu)) (CalO.or cal_sortI cal_sortG fun _ _ => fSort_or) hg hm PyProof.Rows.boot_sorted ha hs
end
end PD
/-! PDtd: dicts with keys that are whole numbers or texts. -/
namespace PD
open PySem PySem.Spec PyProof.Rows L2
def keyO : PyData → Option Key | .int i => some (.inl i) | .str z => some (.inr z) | _ => none
def sameK (k : Key) (d : PyData) : Bool := decide (keyO d = some k)
def getK (ds : List (PyData × PyData)) (k : Key) : Option PyData := (ds.find? fun p => sameK k p.1).map (·.2)
def putD (ds : List (PyData × PyData)) (k : Key) (v : PyData) : List (PyData × PyData) := if (ds.any fun p => sameK k p.1) = true then ds.map (fun p => if sameK k p.1 = true then (p.1, v) else p) else ds ++ [(keyD k, v)]
def keysK (ds : List (PyData × PyData)) : Bool := ds.all fun p => (keyO p.1).isSome
theorem keyO_D (k : Key) : keyO (keyD k) = some k := by cases k <;> rfl
theorem sameK_D (k j : Key) : sameK k (keyD j) = decide (j = k) := by
  unfold sameK
  rw [keyO_D]
  simp
theorem keyO_eq {d : PyData} {k : Key} (h : keyO d = some k) : d = keyD k := by
  cases d <;> cases h <;> rfl
theorem is_key {K : PySem.W.Frag} {H : Hp} {v : V} {k : Key} (h : Is K H v (keyD k)) : v = kV k := by
  cases k <;> cases h <;> rfl
inductive KR (K : PySem.W.Frag) (H : Hp) : List (Key × V) → List (PyData × PyData) → Prop
  | nil : KR K H [] []
  | cons {k : Key} {v : V} {d : PyData} {ks : List (Key × V)} {ds : List (PyData × PyData)} : Is K H v d → KR K H ks ds → KR K H ((k, v) :: ks) ((keyD k, d) :: ds)
section
variable {K : PySem.W.Frag} {H H' : Hp} {g : Gx} {B : List Addr}
theorem KR.of : ∀ {ks : List (Key × V)} {ds : List (PyData × PyData)}, ds.map (·.1) = ks.map (fun p => keyD p.1) → IsAll K H (ks.map (·.2)) (ds.map (·.2)) → KR K H ks ds
  | [], [], _, _ => .nil
  | [], _ :: _, e, _ => by simp at e
  | _ :: _, [], e, _ => by simp at e
  | (k, v) :: ks, (a, d) :: ds, e, h => by
    simp only [List.map_cons, List.cons.injEq] at e
    obtain ⟨rfl, e⟩ := e
    cases h with
    | cons h1 h2 => exact .cons h1 (KR.of e h2)
theorem KR.back : ∀ {ks : List (Key × V)} {ds : List (PyData × PyData)}, KR K H ks ds → ds.map (·.1) = ks.map (fun p => keyD p.1) ∧ IsAll K H (ks.map (·.2)) (ds.map (·.2))
  | _, _, .nil => ⟨rfl, .nil⟩
  | _, _, .cons h t => ⟨by rw [List.map_cons, List.map_cons, t.back.1], .cons h t.back.2⟩
theorem KR.mono (e : Ex H H') : ∀ {ks : List (Key × V)} {ds : List (PyData × PyData)}, KR K H ks ds → KR K H' ks ds
  | _, _, .nil => .nil
  | _, _, .cons h t => .cons (h.mono e) (t.mono e)
theorem KR.length : ∀ {ks : List (Key × V)} {ds : List (PyData × PyData)}, KR K H ks ds → ks.length = ds.length
  | _, _, .nil => rfl
  | _, _, .cons _ t => congrArg (· + 1) t.length
theorem KR.get (k : Key) : ∀ {ks : List (Key × V)} {ds : List (PyData × PyData)}, KR K H ks ds → (valV ks k = none ∧ getK ds k = none) ∨ ∃ v d, valV ks k = some v ∧ getK ds k = some d ∧ Is K H v d
  | _, _, .nil => .inl ⟨rfl, rfl⟩
  | _, _, .cons (k := j) h t => by
    by_cases e : j = k
    · refine .inr ⟨_, _, valV_pos e, ?_, h⟩
      unfold getK
      rw [List.find?_cons_of_pos (by rw [sameK_D]; exact decide_eq_true e)]
      rfl
    · rw [valV_neg (p := (j, _)) e]
      have : ∀ d ds, getK ((keyD j, d) :: ds) k = getK ds k := fun d ds => by
        unfold getK
        rw [List.find?_cons_of_neg (by rw [sameK_D]; simpa using e)]
      rw [this]
      exact t.get k
theorem KR.any (k : Key) : ∀ {ks : List (Key × V)} {ds : List (PyData × PyData)}, KR K H ks ds → (ks.any fun kv => decide (kv.1 = k)) = (ds.any fun p => sameK k p.1)
  | _, _, .nil => rfl
  | _, _, .cons h t => by rw [List.any_cons, List.any_cons, t.any k, sameK_D]
theorem KR.rep (k : Key) {w : V} {e : PyData} (hw : Is K H w e) : ∀ {ks : List (Key × V)} {ds : List (PyData × PyData)}, KR K H ks ds → KR K H (ks.map fun kv => if kv.1 = k then (kv.1, w) else kv) (ds.map fun p => if sameK k p.1 = true then (p.1, e) else p)
  | _, _, .nil => .nil
  | _, _, .cons (k := j) h t => by
    rw [List.map_cons, List.map_cons]
    simp only [sameK_D, decide_eq_true_eq]
    by_cases ej : j = k
    · rw [if_pos ej, if_pos ej]; exact .cons hw (t.rep k hw)
    · rw [if_neg ej, if_neg ej]; exact .cons h (t.rep k hw)
theorem KR.snoc {k : Key} {w : V} {e : PyData} (hw : Is K H w e) : ∀ {ks : List (Key × V)} {ds : List (PyData × PyData)}, KR K H ks ds → KR K H (ks ++ [(k, w)]) (ds ++ [(keyD k, e)])
  | _, _, .nil => .cons hw .nil
  | _, _, .cons h t => .cons h (t.snoc hw)
theorem KR.put {k : Key} {w : V} {e : PyData} (hw : Is K H w e) {ks : List (Key × V)} {ds : List (PyData × PyData)} (h : KR K H ks ds) : KR K H (putK ks k w) (putD ds k e) := by
  unfold putK putD
  rw [h.any k]
  split
  · exact h.rep k hw
  · exact h.snoc hw
theorem KR.mem : ∀ {ks : List (Key × V)} {ds : List (PyData × PyData)}, KR K H ks ds → ∀ p ∈ ks, ∃ d, (keyD p.1, d) ∈ ds ∧ Is K H p.2 d
  | _, _, .nil, p, h => by cases h
  | _, _, .cons h t, p, hp => by
    rcases List.mem_cons.mp hp with rfl | hp
    · exact ⟨_, List.mem_cons_self, h⟩
    · obtain ⟨d, h1, h2⟩ := t.mem p hp
      exact ⟨d, List.mem_cons_of_mem _ h1, h2⟩
theorem no_tupK {kvs : List (List Key × V)} {ds : List (PyData × PyData)} (h : ds.map (·.1) = kvs.map (fun p => keyT p.1) ∧ ds ≠ []) (hk : keysK ds = true) : False := by
  obtain ⟨e, hne⟩ := h
  match ds, kvs, e, hne with
  | [], _, _, hne => exact hne rfl
  | d :: ds, [], e, _ => simp at e
  | d :: ds, q :: kvs, e, _ =>
    simp only [List.map_cons, List.cons.injEq] at e
    have := List.all_eq_true.mp hk d List.mem_cons_self
    rw [e.1] at this
    cases this
theorem Rb.dic {v : V} {ds : List (PyData × PyData)} (h : Rb K g B H v (.dict ds)) (hg : ∀ a ∈ g.G, a ∈ B) (hk : keysK ds = true) : ∃ a kvs, v = .ref a ∧ KR K (Fz B H) kvs ds ∧ ∀ H', Evo g.G H H' → H' a = some (.dK kvs) := by
  rcases h with h | ⟨p, rfl, hp, t⟩
  · cases h with
    | dK h k r => exact ⟨_, _, rfl, KR.of k r, fun H' e => fz_evo hg e h⟩
    | dT h k r => exact (no_tupK k hk).elim
  · rcases t with ⟨ds, vs, e, _⟩ | ⟨ds, kvs, e, a, k, b⟩ | ⟨ds, kvs, e, a, k, b⟩ <;> cases e
    · exact ⟨p, kvs, rfl, KR.of k b, fun H' e => e p _ hp a⟩
    · exact (no_tupK k hk).elim
theorem KR.keys : ∀ {ks : List (Key × V)} {ds : List (PyData × PyData)}, KR K H ks ds → keysK ds = true
  | _, _, .nil => rfl
  | _, _, .cons (k := k) h t => by
    unfold keysK
    rw [List.all_cons, keyO_D]
    exact t.keys
theorem top_dK {p : Addr} {kvs : List (Key × V)} {ds : List (PyData × PyData)} (hp : H p = none) (h : KR K (Fz B H) kvs ds) : Top K (p :: B) (upd H p (.dK kvs)) p (.dict ds) :=
  .inr (.inl ⟨ds, kvs, rfl, upd_same, h.back.1, (h.mono fun a o q => by
    have q := fz_some.mp q
    have ne : a ≠ p := ne_of_none q.2 hp
    exact fz_some.mpr ⟨fun z => (List.mem_cons.mp z).elim ne q.1, (Ex.new hp) a o q.2⟩).back.2⟩)
end
/-! d[k], k in d -/
def fIxD : PyData → PyData → Option PyData
  | .dict ds, k => if keysK ds then (keyO k).bind (getK ds) else none
  | _, _ => none
def fIxG (x y : PyData) : Option PyData := orF fIx fIxD x y
def rIxDK : R2 := fun x y H Q => ∃ a v, x = .ref a ∧ DGet H a y (some v) ∧ Q v H
theorem ix_dict {X : Cx} (hu : X.A.units + 1 < cLine) : IxR X rIxDK := by
  intro value slice pins s σ H x y v u Q I rx ry h hs
  obtain ⟨a, r, rfl, gt, q⟩ := h
  obtain rfl : v = Value.ref a := rx
  exact tail_any (dict_typeIs I gt) PySem.F.slot_dict_getitem.lookup (d_getItem hu I gt ry fun w' s' I' rw' => ⟨r, H, I', rw', q⟩) hs
theorem opd_ixD {K : PySem.W.Frag} {g : Gx} : OpD K g rIxDK fIxD := by
  intro B H x y dx dy d Q hn hg hx hy e k
  unfold fIxD at e
  split at e
  · split at e
    · rename_i hk
      obtain ⟨kk, ek, eg⟩ := Option.bind_eq_some_iff.mp e
      obtain rfl := keyO_eq ek
      obtain ⟨a, kvs, rfl, h1, s1⟩ := hx.dic hg hk
      rcases h1.get kk with ⟨_, h⟩ | ⟨v, d', e1, e2, iv⟩
      · rw [h] at eg; cases eg
      · rw [e2] at eg
        cases eg
        have hyk : y = kV kk := by
          rcases hy with hy | ⟨p, rfl, _, t⟩
          · exact is_key hy
          · rcases t with ⟨ds, vs, e, _⟩ | ⟨ds, kvs, e, _⟩ | ⟨ds, kvs, e, _⟩ <;> cases kk <;> cases e
        subst hyk
        refine ⟨a, v, rfl, ?_, k _ _ (Ex.refl _) iv⟩
        have := DGet.k (k := kk) (s1 H (Evo.refl _ _))
        rw [e1] at this
        exact this
    · cases e
  · cases e
def fInDK (neg : Bool) : PyData → PyData → Option PyData
  | k, .dict ds => if keysK ds then (keyO k).map fun kk => .bool (if neg then !(getK ds kk).isSome else (getK ds kk).isSome) else none
  | _, _ => none
def fInG (neg : Bool) (x y : PyData) : Option PyData := orF (fIn neg) (fInDK neg) x y
def rInDK (neg : Bool) : R2 := fun y x H Q => ∃ a o, x = .ref a ∧ DGet H a y o ∧ Q (.bl (if neg then !o.isSome else o.isSome)) H
theorem op_inDK {X : Cx} (hu : X.A.units + 1 < cLine) : OpR X (compareOp .In) (rInDK false) := by
  intro pins s σ H x y v u Q I rx ry h
  obtain ⟨a, o, rfl, gt, q⟩ := h
  obtain rfl : u = Value.ref a := ry
  exact d_in hu I gt rx fun s' I' => ⟨.bl o.isSome, H, I', rfl, q⟩
theorem op_notInDK {X : Cx} (hu : X.A.units + 1 < cLine) : OpR X (compareOp .NotIn) (rInDK true) := by
  intro pins s σ H x y v u Q I rx ry h
  obtain ⟨a, o, rfl, gt, q⟩ := h
  obtain rfl : u = Value.ref a := ry
  exact d_notIn hu I gt rx fun s' I' => ⟨.bl (!o.isSome), H, I', rfl, q⟩
theorem rb_key {K : PySem.W.Frag} {g : Gx} {B : List Addr} {H : Hp} {y : V} {kk : Key} (hy : Rb K g B H y (keyD kk)) : y = kV kk := by
  rcases hy with hy | ⟨p, rfl, _, t⟩
  · exact is_key hy
  · rcases t with ⟨ds, vs, e, _⟩ | ⟨ds, kvs, e, _⟩ | ⟨ds, kvs, e, _⟩ <;> cases kk <;> cases e
theorem opd_inDK {K : PySem.W.Frag} {g : Gx} (neg : Bool) : OpD K g (rInDK neg) (fInDK neg) := by
  intro B H x y dx dy d Q hn hg hx hy e k
  unfold fInDK at e
  split at e
  · split at e
    · rename_i ds hk
      obtain ⟨kk, ek, eg⟩ := Option.map_eq_some_iff.mp e
      obtain rfl := keyO_eq ek
      obtain ⟨a, kvs, rfl, h1, s1⟩ := hy.dic hg hk
      obtain rfl := rb_key hx
      refine ⟨a, valV kvs kk, rfl, DGet.k (s1 H (Evo.refl _ _)), ?_⟩
      have es : (valV kvs kk).isSome = (getK ds kk).isSome := by
        rcases h1.get kk with ⟨e1, e2⟩ | ⟨v, d', e1, e2, iv⟩
        · rw [e1, e2]; rfl
        · rw [e1, e2]; rfl
      rw [es]
      subst eg
      exact k _ _ (Ex.refl _) (.bl _)
    · cases e
  · cases e
/-! dicts that are the same -/
def flatS : PyData → PyData → Bool
  | .none, .none => true
  | .bool a, .bool b => decide (a = b)
  | .int a, .int b => decide (a = b)
  | .str a, .str b => decide (a = b)
  | _, _ => false
theorem flatS_eq {d e : PyData} (h : flatS d e = true) : d = e := by
  unfold flatS at h
  split at h <;> first | rfl | (have := of_decide_eq_true h; subst this; rfl) | cases h
theorem flatS_is {K : PySem.W.Frag} {H H' : Hp} {d e : PyData} {v w : V} (h : flatS d e = true) (hv : Is K H v d) (hw : Is K H' w e) : w = v ∧ flatB v = true := by
  obtain rfl := flatS_eq h
  unfold flatS at h
  split at h
  · cases hv; cases hw; exact ⟨rfl, rfl⟩
  · cases hv; cases hw; exact ⟨rfl, rfl⟩
  · cases hv; cases hw; exact ⟨rfl, rfl⟩
  · cases hv; cases hw; exact ⟨rfl, rfl⟩
  · cases h
def sameD (ds es : List (PyData × PyData)) : Bool := keysK ds && keysK es && decide (ds.length = es.length) && ds.all fun p => match keyO p.1 with | some k => (match getK es k with | some v => flatS p.2 v | none => false) | none => false
def fEqDK (b : Bool) : PyData → PyData → Option PyData
  | .dict ds, .dict es => if sameD ds es then some (.bool b) else none
  | _, _ => none
def fEqG (x y : PyData) : Option PyData := orF fEq (fEqDK true) x y
def fNeG (x y : PyData) : Option PyData := orF fNe (fEqDK false) x y
theorem sameD_ok {K : PySem.W.Frag} {g : Gx} {B : List Addr} {H : Hp} {x y : V} {ds es : List (PyData × PyData)} (hg : ∀ a ∈ g.G, a ∈ B) (hx : Rb K g B H x (.dict ds)) (hy : Rb K g B H y (.dict es)) (h : sameD ds es = true) :
    ∃ a b ks ls, x = .ref a ∧ y = .ref b ∧ H a = some (.dK ks) ∧ H b = some (.dK ls) ∧ ks.length = ls.length ∧ ∀ p ∈ ks, valV ls p.1 = some p.2 ∧ flatB p.2 = true := by
  unfold sameD at h
  obtain ⟨h, k4⟩ := Bool.and_eq_true_iff.mp h
  obtain ⟨h, k3⟩ := Bool.and_eq_true_iff.mp h
  obtain ⟨k1, k2⟩ := Bool.and_eq_true_iff.mp h
  obtain ⟨a, ks, rfl, r1, s1⟩ := hx.dic hg k1
  obtain ⟨b, ls, rfl, r2, s2⟩ := hy.dic hg k2
  refine ⟨a, b, ks, ls, rfl, rfl, s1 H (Evo.refl _ _), s2 H (Evo.refl _ _), by rw [r1.length, r2.length]; exact of_decide_eq_true k3, fun p hp => ?_⟩
  obtain ⟨d, hd, iv⟩ := r1.mem p hp
  have q := List.all_eq_true.mp k4 _ hd
  simp only [keyO_D] at q
  rcases r2.get p.1 with ⟨_, e2⟩ | ⟨v, d', e1, e2, iv'⟩
  · rw [e2] at q; cases q
  · rw [e2] at q
    obtain ⟨e, f⟩ := flatS_is q iv iv'
    exact ⟨by rw [e1, e], f⟩
theorem opd_eqDA {K : PySem.W.Frag} {g : Gx} : OpD K g rEqDA (fEqDK true) := by
  intro B H x y dx dy d Q hn hg hx hy e k
  unfold fEqDK at e
  split at e
  · split at e
    · rename_i hs
      cases e
      obtain ⟨a, b, ks, ls, e1, e2, h1, h2, hl, hp⟩ := sameD_ok hg hx hy hs
      exact ⟨a, b, ks, ls, e1, e2, h1, h2, hl, hp, k _ _ (Ex.refl _) (.bl _)⟩
    · cases e
  · cases e
theorem opd_neDA {K : PySem.W.Frag} {g : Gx} : OpD K g rNeDA (fEqDK false) := by
  intro B H x y dx dy d Q hn hg hx hy e k
  unfold fEqDK at e
  split at e
  · split at e
    · rename_i hs
      cases e
      obtain ⟨a, b, ks, ls, e1, e2, h1, h2, hl, hp⟩ := sameD_ok hg hx hy hs
      exact ⟨a, b, ks, ls, e1, e2, h1, h2, hl, hp, k _ _ (Ex.refl _) (.bl _)⟩
    · cases e
  · cases e
section
variable {c : Cc} {m : List Md} {a b : Expr} {da db : DE} {pos p : Pos}
theorem ev_ixG (h : Ux c) (ha : EB c m a da) (hb : EB c m b db) (hs : PlainIx b) : EV c m (.Subscript a b pos) (d2 fIxG da db) := fun σ H ρ S B0 B ow Q fr gi g =>
  WE.of (pe_ix (ix_seq.or (ix_dict (by have := h.u65; omega))) we we hs) (two_read (OpD.or opd_ix opd_ixD orF_or) ha hb fr gi g)
theorem rel_inG (h : Ux c) : Rel c .In (fInG false) := ⟨_, OpR.or (OpR.or op_in_seq (OpR.or (op_inS h.u65) op_in_sign)) (op_inDK (by have := h.u65; omega)), OpD.or (opd_in false) (opd_inDK false) orF_or⟩
theorem rel_notInG (h : Ux c) : Rel c .NotIn (fInG true) := ⟨_, OpR.or (OpR.or op_notIn_seq (OpR.or (op_notInS h.u65) op_notIn_sign)) (op_notInDK (by have := h.u65; omega)), OpD.or (opd_in true) (opd_inDK true) orF_or⟩
theorem rel_eqG (h : Ux c) : Rel c .Eq fEqG := ⟨_, OpR.or (OpR.or op_eq (op_eqD h.u64)) (op_eq_dictA h.u), OpD.or (OpD.or opd_eqS opd_eqD orF_or) opd_eqDA orF_or⟩
theorem rel_neG (h : Ux c) : Rel c .NotEq fNeG := ⟨_, OpR.or (OpR.or op_ne (op_neD h.u64)) (op_ne_dictA h.u), OpD.or (OpD.or opd_neS opd_neD orF_or) opd_neDA orF_or⟩
end
end PD
/-! PDte: dict(pairs), sorted(d), d[k] = v. -/
namespace PD
open PySem PySem.Spec PyProof.Rows L2
def pairsOf : List PyData → Option (List (Key × PyData))
  | [] => some []
  | .tuple [k, v] :: r => (keyO k).bind fun kk => (pairsOf r).map fun ps => (kk, v) :: ps
  | _ :: _ => none
def mergeD (ps : List (Key × PyData)) : List (PyData × PyData) := ps.foldl (fun acc kv => putD acc kv.1 kv.2) []
def fDict : PyData → Option PyData | .list ds => (pairsOf ds).map fun ps => .dict (mergeD ps) | _ => none
section
variable {K : PySem.W.Frag} {H H' : Hp} {g : Gx} {B : List Addr}
theorem pairs_is : ∀ {vs : List V} {ds : List PyData} {ps : List (Key × PyData)}, IsAll K H vs ds → pairsOf ds = some ps → ∃ (as : List Addr) (kvs : List (Key × V)), vs = as.map V.ref ∧ Paired (fun p kv => SqT K H p [kV kv.1, kv.2]) as kvs ∧ Paired (fun (kv : Key × V) (q : Key × PyData) => kv.1 = q.1 ∧ Is K H kv.2 q.2) kvs ps
  | _, _, ps, .nil, h => by cases h; exact ⟨[], [], rfl, .nil, .nil⟩
  | _, _, ps, .cons (d := d) (ds := r) h t, e => by
    unfold pairsOf at e
    split at e
    · rename_i heq; cases heq
    · rename_i k v r' heq
      cases heq
      obtain ⟨kk, ek, e⟩ := Option.bind_eq_some_iff.mp e
      obtain ⟨ps', ep, rfl⟩ := Option.map_eq_some_iff.mp e
      obtain rfl := keyO_eq ek
      obtain ⟨as, kvs, rfl, p1, p2⟩ := pairs_is t ep
      cases h with
      | tup sq z ia =>
        obtain ⟨v1, v2, rfl, i1, i2⟩ := ia.two
        obtain rfl := is_key i1
        exact ⟨_ :: as, (kk, v2) :: kvs, rfl, .cons sq p1, .cons ⟨rfl, i2⟩ p2⟩
    · cases e
theorem merge_kr : ∀ {kvs : List (Key × V)} {ps : List (Key × PyData)} {ks : List (Key × V)} {ds : List (PyData × PyData)}, Paired (fun (kv : Key × V) (q : Key × PyData) => kv.1 = q.1 ∧ Is K H kv.2 q.2) kvs ps → KR K H ks ds → KR K H (mergeK ks kvs) (ps.foldl (fun acc kv => putD acc kv.1 kv.2) ds)
  | _, _, ks, ds, .nil, h => h
  | _, _, ks, ds, .cons (a := kv) (b := q) ⟨e, i⟩ t, h => by
    have h2 := KR.put (k := q.1) i h
    rw [← e] at h2
    have := merge_kr t h2
    rw [e] at this
    show KR K H (mergeK (putK ks kv.1 kv.2) _) _
    rw [e]
    exact this
def rDictP (K : PySem.W.Frag) : List V → Hp → VK → Prop := fun xs H Q => ∃ (a : Addr) (ps : List Addr) (kvs : List (Key × V)), xs = [.ref a] ∧ SqL K H a (ps.map V.ref) ∧ Paired (fun p kv => SqT K H p [kV kv.1, kv.2]) ps kvs ∧
    ∀ p, H p = none → Q (.ref p) (upd H p (.dK (mergeK [] kvs)))
theorem cal_dict : CalO K g (rDictP K) fDict := by
  intro B H x dx d Q hn hg hx e k
  unfold fDict at e
  split at e
  · rename_i ds
    obtain ⟨ps, ep, rfl⟩ := Option.map_eq_some_iff.mp e
    obtain ⟨a, vs, rfl, h1, s1, z1⟩ := hx.lst hg
    obtain ⟨as, kvs, rfl, p1, p2⟩ := pairs_is h1 ep
    refine ⟨a, as, kvs, rfl, .inl (.inl (s1 H (Evo.refl _ _))), Paired.imp p1 fun p kv h => fz_le.t h, fun p hp => ?_⟩
    exact k _ _ (Ex.new hp) hp (top_dK hp (merge_kr p2 .nil))
  · cases e
/-! sorted(d) -/
def intK : List (PyData × PyData) → Option (List Int) := fun ds => intsOf (ds.map (·.1))
def fSortDI : PyData → Option PyData | .dict ds => (intK ds).bind fun ns => if decide (ns.length < 64) then some (.list ((sortI ns).map .int)) else none | _ => none
def fSortX (x : PyData) : Option PyData := match fSort x with | some d => some d | none => fSortDI x
theorem fSortX_or {x d : PyData} (h : fSortX x = some d) : fSort x = some d ∨ fSortDI x = some d := by
  unfold fSortX at h
  split at h
  · rename_i e; cases h; exact .inl e
  · exact .inr h
def rSortDI : List V → Hp → VK → Prop := fun xs H Q => ∃ (a : Addr) (kvs : List (Key × V)) (ks : List Int), xs = [.ref a] ∧ Rd H a (.dK kvs) ∧ kvs.map (·.1) = ks.map Sum.inl ∧ ks.length < 64 ∧
    ∀ (ys : List Int) (p : Addr), ys.Perm ks → ys.Pairwise (· ≤ ·) → H p = none → Q (.ref p) (upd H p (.lst (ys.map V.int)))
theorem ints_keys : ∀ {ds : List (PyData × PyData)} {ns : List Int}, intK ds = some ns → keysK ds = true ∧ ∀ {kvs : List (Key × V)}, KR K H kvs ds → kvs.map (·.1) = ns.map Sum.inl := by
  intro ds ns h
  have e : ds.map (·.1) = ns.map .int := intsOf_eq h
  constructor
  · unfold keysK
    rw [List.all_eq_true]
    intro p hp
    have : p.1 ∈ ns.map PyData.int := by rw [← e]; exact List.mem_map.mpr ⟨p, hp, rfl⟩
    obtain ⟨i, _, hi⟩ := List.mem_map.mp this
    rw [← hi]
    rfl
  · intro kvs r
    have e2 := r.back.1
    rw [e] at e2
    clear h e r
    induction ns generalizing kvs with
    | nil => cases kvs with | nil => rfl | cons a t => simp at e2
    | cons n ns ih =>
      cases kvs with
      | nil => simp at e2
      | cons a t =>
        simp only [List.map_cons, List.cons.injEq] at e2
        rw [List.map_cons, List.map_cons, ih e2.2]
        congr 1
        obtain ⟨k, v⟩ := a
        cases k with
        | inl i => have q := e2.1; cases q; rfl
        | inr z => have q := e2.1; cases q
theorem cal_sortDI : CalO K g rSortDI fSortDI := by
  intro B H x dx d Q hn hg hx e k
  unfold fSortDI at e
  split at e
  · rename_i ds
    obtain ⟨ns, en, e⟩ := Option.bind_eq_some_iff.mp e
    split at e
    · rename_i hl
      cases e
      obtain ⟨hk, hks⟩ := ints_keys (K := K) (H := Fz B H) en
      obtain ⟨a, kvs, rfl, r, s1⟩ := hx.dic hg hk
      have hl := of_decide_eq_true hl
      refine ⟨a, kvs, ns, rfl, .inl (s1 H (Evo.refl _ _)), hks r, hl, fun ys p hp hs hl' => ?_⟩
      rw [sortI_eq hp hs]
      exact k _ _ (Ex.new hl') hl' (top_newL hl' (by rw [List.length_map, (sortI_perm ns).length_eq, sizeLine_eq]; omega) IsAll.of_ints)
    · cases e
  · cases e
/-! d[k] = v -/
theorem top_dic {p : Addr} {ds : List (PyData × PyData)} (t : Top K B H p (.dict ds)) (hk : keysK ds = true) : ∃ kvs, H p = some (.dK kvs) ∧ KR K (Fz B H) kvs ds := by
  rcases t with ⟨ds, vs, e, _⟩ | ⟨ds, kvs, e, a, k, b⟩ | ⟨ds, kvs, e, a, k, b⟩ <;> cases e
  · exact ⟨kvs, a, KR.of k b⟩
  · exact (no_tupK k hk).elim
theorem top_updD {p : Addr} {kvs : List (Key × V)} {ds : List (PyData × PyData)} (hp : p ∈ B) (h : KR K (Fz B H) kvs ds) : Top K B (upd H p (.dK kvs)) p (.dict ds) :=
  .inr (.inl ⟨ds, kvs, rfl, upd_same, h.back.1, by rw [fz_upd hp]; exact h.back.2⟩)
theorem dK_code {D : Addr} {kvs : List (Key × V)} (h : H D = some (.dK kvs)) (q : Str) : H D ≠ some (LamX.CodeO D q) := fun z => by
  rw [h] at z
  unfold LamX.CodeO at z
  cases z
end
def onDic (ρ : Env) (i : Nat) (k : List (PyData × PyData) → RS) : RS := match ρ.getD i none with | some (.dict xs) => k xs | _ => .bad
def fPutD (ds : List (PyData × PyData)) (k d : PyData) : Option PyData := if keysK ds && decide (ds.length < sizeLine) then (keyO k).map fun kk => .dict (putD ds kk d) else none
def dSetD (i : Nat) (k a : DE) : DS := fun ρ S => onDic ρ i fun xs => (a ρ S).st ρ fun d S1 => (k ρ S1).st ρ fun j S2 => putO ρ i (fPutD xs j d) S2
section
variable {c : Cc} {m : List Md} {a b : Expr} {da db : DE} {pos p : Pos}
theorem eo_dict (hc : c.X.calm = true) (hg : Gl c.X "dict") (hm : c.X.mg "dict" = none) (ha : EB c m a da) (hs : Pl a := by intro _ _; rfl) : EO c m (.Call (.Name "dict" p) [a] [] pos) (d1 fDict da) := eo_callT (call_dictP hc) cal_dict hg hm (by rfl) ha hs
theorem eo_sortX (hc : c.X.calm = true) (hu : c.X.A.units + 65 < cLine) (hg : Gl c.X "sorted") (hm : c.X.mg "sorted" = none) (ha : EB c m a da) (hs : Pl a := by intro _ _; rfl) : EO c m (.Call (.Name "sorted" p) [a] [] pos) (d1 fSortX da) :=
  eo_callB (CallR.or (CallR.or cr_sortedI (cr_sortG hu)) (call_sortedDI hc)) (CalO.or (CalO.or cal_sortI cal_sortG fun _ _ => fSort_or) cal_sortDI fun _ _ => fSortX_or) hg hm PyProof.Rows.boot_sorted ha hs
end
section
variable {c : Cc} {x : Fx} {m m' m1 m2 : List Md} {He : Hp} {B0 B : List Addr} {ow : Addr → Nat} {ρ : Env} {σ : L2.St} {H : Hp} {S : Store} {D : Ends}
theorem on_dic {i : Nat} {d0 : PyData} {k : List (PyData × PyData) → RS} (e0 : ρ.getD i none = some d0) (w : Wants c x He B0 B H m' (onDic ρ i k) D) : ∃ xs, d0 = .dict xs ∧ Wants c x He B0 B H m' (k xs) D := by
  unfold onDic at w
  rw [e0] at w
  cases d0 with
  | dict xs => exact ⟨xs, rfl, w⟩
  | _ => exact absurd rfl w.nb
theorem putK_len (kvs : List (Key × V)) (k : Key) (v : V) : (putK kvs k v).length ≤ kvs.length + 1 := by
  unfold putK
  split
  · rw [List.length_map]; omega
  · rw [List.length_append]; exact Nat.le_refl _
theorem sv_setD {i : Nat} {e k : Expr} {a dk : DE} {y : Str} {p1 p2 pos : Pos} (hu : c.X.A.units + 65 < cLine) (hm : m[i]? = some .own) (ha : EV c m e a) (hk : EV c m k dk) (hp : PE c.X (.Name y p1) (tVar i))
    (hq : ∀ te g, PE c.X e te → PG c.X (.Subscript (.Name y p1) k p2) g → PS c.X (.Assign [.Subscript (.Name y p1) k p2] e pos) (tAsg te g)) (hps : PlainSub c.X (.Name y p1) k p2 := by intro _; rfl) (hx : WkX m x.mx = true := by rfl) :
    SV c x m m (.Assign [.Subscript (.Name y p1) k p2] e pos) (dSetD i dk a) := by
  intro He B0 B ow ρ σ H S D i1 w
  refine WS.of (hq _ _ we (pg_sub hp we (set_dict (by omega)) hps)) ?_
  obtain ⟨d0, p, e0, hv, hv', hw', t⟩ := own_read i1 hm
  obtain ⟨ds, rfl, w⟩ := on_dic e0 w
  have pG : p ∉ c.g.G := fun z => hw'.2.1 (i1.fr.gsub p z)
  refine ha σ H ρ S B0 B ow _ i1.fr i1.gi (goalS i1 hx w fun d S1 v H1 e ev i2 w2 gd => ?_)
  refine ⟨.ref p, hv, ?_⟩
  refine hk σ H1 ρ S1 B0 B ow _ i2.fr i2.gi (goalS i2 hx w2 fun d2 S2 v2 H2 e2 ev2 i3 w3 gd2 => ?_)
  unfold putO fPutD at w3
  by_cases hc : (keysK ds && decide (ds.length < sizeLine)) = true
  · obtain ⟨hk1, hl⟩ := Bool.and_eq_true_iff.mp hc
    have hl := of_decide_eq_true hl
    obtain ⟨kvs, h0, r⟩ := top_dic t hk1
    have h2 : H2 p = some (.dK kvs) := ev2 p _ pG (ev p _ pG h0)
    rw [if_pos hc] at w3
    cases ek : keyO d2 with
    | none => rw [ek] at w3; exact absurd rfl w3.nb
    | some kk =>
      rw [ek] at w3
      obtain rfl := keyO_eq ek
      obtain rfl := is_key gd2
      have r2 : KR c.X.K (Fz B H2) (putK kvs kk v) (putD ds kk d) := KR.put (gd.mono (ev2.fz i2.gi.sub)) ((r.mono (ev.fz i1.gi.sub)).mono (ev2.fz i2.gi.sub))
      obtain ⟨i4, ex⟩ := i3.write hm hv' hw' (dK_code h2) (top_updD (kvs := putK kvs kk v) (ds := putD ds kk d) hw'.1 r2)
      exact ⟨p, _, rfl, DPut.k h2 (by rw [r.length]; exact hl), w3.nx _ _ rfl σ _ B ow i4 ex⟩
  · rw [if_neg hc] at w3
    exact absurd rfl w3.nb
end
end PD
namespace K85
open PySem PySem.Spec PyProof.Rows L2 LamX PD
def top (i : Nat) : Stmt := PySem.Challenge.pw_colourhouse_k85_whole_fillings_of_sheets.main.body.getD i (.Pass ⟨0, 0, 0, 0⟩)
/-- the classes of exceptions that are raised -/
abbrev xcs : List Str := ["NoNumber", "NoPlace", "NoSheet"]
/-- what the head has written -/
structure Tx (K : PySem.W.Frag) (mg : Str → Option Value) where
  A_is_integer : Addr
  D_is_integer : FuncData
  A_is_sized : Addr
  D_is_sized : FuncData
  A_tied_to : Addr
  D_tied_to : FuncData
  A_painted : Addr
  D_painted : FuncData
  A_colours_at : Addr
  D_colours_at : FuncData
  A__law_hand : Addr
  D__law_hand : FuncData
  A__law_draw : Addr
  D__law_draw : FuncData
  A__law_near : Addr
  D__law_near : FuncData
  A__law_stroked : Addr
  D__law_stroked : FuncData
  A__law_word : Addr
  D__law_word : FuncData
  A_is_within : Addr
  D_is_within : FuncData
  A_strokes_of : Addr
  D_strokes_of : FuncData
  A__law_any : Addr
  D__law_any : FuncData
  A__law_web : Addr
  D__law_web : FuncData
  A__law_paintings : Addr
  D__law_paintings : FuncData
  A__law_strokes : Addr
  D__law_strokes : FuncData
  A_is_lot : Addr
  D_is_lot : FuncData
  A_filled : Addr
  D_filled : FuncData
  A__law_sheet : Addr
  D__law_sheet : FuncData
  A__law_no_sheet : Addr
  D__law_no_sheet : FuncData
  A__law_fillings : Addr
  D__law_fillings : FuncData
  A_are_ties : Addr
  D_are_ties : FuncData
  A_is_web : Addr
  D_is_web : FuncData
  A_is_sheet : Addr
  D_is_sheet : FuncData
  A_check_sheet : Addr
  D_check_sheet : FuncData
  A_fillings : Addr
  D_fillings : FuncData
  A_is_sure : Addr
  D_is_sure : FuncData
  A_sure_places : Addr
  D_sure_places : FuncData
  A_law : Addr
  D_law : FuncData
  cA_law : Addr
  P_law : Addr
  C_ColourError : Addr
  C_NoNumber : Addr
  C_NoPlace : Addr
  C_NoSheet : Addr
  C_TooMany : Addr
  F_is_integer : Fun K "is_integer" "is_integer" (top 1) A_is_integer D_is_integer
  G_is_integer : mg "is_integer" = some (.ref A_is_integer)
  B_is_integer : Binds K D_is_integer ["thing"] []
  F_is_sized : Fun K "is_sized" "is_sized" (top 3) A_is_sized D_is_sized
  G_is_sized : mg "is_sized" = some (.ref A_is_sized)
  B_is_sized : Binds K D_is_sized ["thing", "low", "high"] []
  F_tied_to : Fun K "tied_to" "tied_to" (top 20) A_tied_to D_tied_to
  G_tied_to : mg "tied_to" = some (.ref A_tied_to)
  B_tied_to : Binds K D_tied_to ["web", "place"] []
  F_painted : Fun K "painted" "painted" (top 22) A_painted D_painted
  G_painted : mg "painted" = some (.ref A_painted)
  B_painted : Binds K D_painted ["paint", "stroke"] []
  F_colours_at : Fun K "colours_at" "colours_at" (top 29) A_colours_at D_colours_at
  G_colours_at : mg "colours_at" = some (.ref A_colours_at)
  B_colours_at : Binds K D_colours_at ["rows", "place"] []
  F__law_hand : Fun K "_law_hand" "_law_hand" (top 33) A__law_hand D__law_hand
  G__law_hand : mg "_law_hand" = some (.ref A__law_hand)
  B__law_hand : Binds K D__law_hand ["script"] []
  F__law_draw : Fun K "_law_draw" "_law_draw" (top 34) A__law_draw D__law_draw
  G__law_draw : mg "_law_draw" = some (.ref A__law_draw)
  B__law_draw : Binds K D__law_draw ["hand", "many"] []
  F__law_near : Fun K "_law_near" "_law_near" (top 37) A__law_near D__law_near
  G__law_near : mg "_law_near" = some (.ref A__law_near)
  B__law_near : Binds K D__law_near ["web"] []
  F__law_stroked : Fun K "_law_stroked" "_law_stroked" (top 41) A__law_stroked D__law_stroked
  G__law_stroked : mg "_law_stroked" = some (.ref A__law_stroked)
  B__law_stroked : Binds K D__law_stroked ["sheet", "place", "colour"] []
  F__law_word : Fun K "_law_word" "_law_word" (top 44) A__law_word D__law_word
  G__law_word : mg "_law_word" = some (.ref A__law_word)
  B__law_word : Binds K D__law_word ["call"] []
  F_is_within : Fun K "is_within" "is_within" (top 2) A_is_within D_is_within
  G_is_within : mg "is_within" = some (.ref A_is_within)
  B_is_within : Binds K D_is_within ["thing", "low", "high"] []
  F_strokes_of : Fun K "strokes_of" "strokes_of" (top 21) A_strokes_of D_strokes_of
  G_strokes_of : mg "strokes_of" = some (.ref A_strokes_of)
  B_strokes_of : Binds K D_strokes_of ["web", "k", "paint"] []
  F__law_any : Fun K "_law_any" "_law_any" (top 35) A__law_any D__law_any
  G__law_any : mg "_law_any" = some (.ref A__law_any)
  B__law_any : Binds K D__law_any ["hand", "some"] []
  F__law_web : Fun K "_law_web" "_law_web" (top 36) A__law_web D__law_web
  G__law_web : mg "_law_web" = some (.ref A__law_web)
  B__law_web : Binds K D__law_web ["hand", "most"] []
  F__law_paintings : Fun K "_law_paintings" "_law_paintings" (top 38) A__law_paintings D__law_paintings
  G__law_paintings : mg "_law_paintings" = some (.ref A__law_paintings)
  B__law_paintings : Binds K D__law_paintings ["web", "k"] []
  F__law_strokes : Fun K "_law_strokes" "_law_strokes" (top 40) A__law_strokes D__law_strokes
  G__law_strokes : mg "_law_strokes" = some (.ref A__law_strokes)
  B__law_strokes : Binds K D__law_strokes ["sheet"] []
  F_is_lot : Fun K "is_lot" "is_lot" (top 4) A_is_lot D_is_lot
  G_is_lot : mg "is_lot" = some (.ref A_is_lot)
  B_is_lot : Binds K D_is_lot ["thing", "many"] []
  F_filled : Fun K "filled" "filled" (top 27) A_filled D_filled
  G_filled : mg "filled" = some (.ref A_filled)
  B_filled : Binds K D_filled ["web", "k", "paint", "most"] []
  F__law_sheet : Fun K "_law_sheet" "_law_sheet" (top 39) A__law_sheet D__law_sheet
  G__law_sheet : mg "_law_sheet" = some (.ref A__law_sheet)
  B__law_sheet : Binds K D__law_sheet ["hand", "most"] []
  F__law_no_sheet : Fun K "_law_no_sheet" "_law_no_sheet" (top 42) A__law_no_sheet D__law_no_sheet
  G__law_no_sheet : mg "_law_no_sheet" = some (.ref A__law_no_sheet)
  B__law_no_sheet : Binds K D__law_no_sheet ["hand"] []
  F__law_fillings : Fun K "_law_fillings" "_law_fillings" (top 43) A__law_fillings D__law_fillings
  G__law_fillings : mg "_law_fillings" = some (.ref A__law_fillings)
  B__law_fillings : Binds K D__law_fillings ["sheet"] []
  F_are_ties : Fun K "are_ties" "are_ties" (top 13) A_are_ties D_are_ties
  G_are_ties : mg "are_ties" = some (.ref A_are_ties)
  B_are_ties : Binds K D_are_ties ["n", "thing"] []
  F_is_web : Fun K "is_web" "is_web" (top 14) A_is_web D_is_web
  G_is_web : mg "is_web" = some (.ref A_is_web)
  B_is_web : Binds K D_is_web ["thing"] []
  F_is_sheet : Fun K "is_sheet" "is_sheet" (top 18) A_is_sheet D_is_sheet
  G_is_sheet : mg "is_sheet" = some (.ref A_is_sheet)
  B_is_sheet : Binds K D_is_sheet ["thing"] []
  F_check_sheet : Fun K "check_sheet" "check_sheet" (top 19) A_check_sheet D_check_sheet
  G_check_sheet : mg "check_sheet" = some (.ref A_check_sheet)
  B_check_sheet : Binds K D_check_sheet ["sheet"] []
  F_fillings : Fun K "fillings" "fillings" (top 28) A_fillings D_fillings
  G_fillings : mg "fillings" = some (.ref A_fillings)
  B_fillings : Binds K D_fillings ["sheet", "most"] []
  F_is_sure : Fun K "is_sure" "is_sure" (top 30) A_is_sure D_is_sure
  G_is_sure : mg "is_sure" = some (.ref A_is_sure)
  B_is_sure : Binds K D_is_sure ["sheet", "place"] []
  F_sure_places : Fun K "sure_places" "sure_places" (top 31) A_sure_places D_sure_places
  G_sure_places : mg "sure_places" = some (.ref A_sure_places)
  B_sure_places : Binds K D_sure_places ["sheet"] []
  F_law : FunC K "law" "law" (top 45) A_law D_law cA_law
  G_law : mg "law" = some (.ref A_law)
  B_law : Binds K D_law ["script"] []
  b_abs : mg "abs" = none
  b_all : mg "all" = none
  b_any : mg "any" = none
  b_bool : mg "bool" = none
  b_dict : mg "dict" = none
  b_enumerate : mg "enumerate" = none
  b_int : mg "int" = none
  b_isinstance : mg "isinstance" = none
  b_len : mg "len" = none
  b_range : mg "range" = none
  b_sorted : mg "sorted" = none
  b_tuple : mg "tuple" = none
  b_zip : mg "zip" = none
  c_MOST_PLACES_webs : ∃ t, mg "MOST_PLACES_webs" = some (.int 8 t)
  c_MOST_PLACES_strokes : ∃ t, mg "MOST_PLACES_strokes" = some (.int 6 t)
  c_MOST_COLOURS : ∃ t, mg "MOST_COLOURS" = some (.int 4 t)
  c_SURE : ∃ t, mg "SURE" = some (.str "sure" t)
  c_OPEN : ∃ t, mg "OPEN" = some (.str "open" t)
  c_NONE : ∃ t, mg "NONE" = some (.str "none" t)
  nd : ([P_law] : List Addr).Nodup
  g_ColourError : mg "ColourError" = some (.ref C_ColourError)
  g_NoNumber : mg "NoNumber" = some (.ref C_NoNumber)
  g_NoPlace : mg "NoPlace" = some (.ref C_NoPlace)
  g_NoSheet : mg "NoSheet" = some (.ref C_NoSheet)
  g_TooMany : mg "TooMany" = some (.ref C_TooMany)
  xB : ([("NoNumber", C_NoNumber), ("NoPlace", C_NoPlace), ("NoSheet", C_NoSheet)] : List (Str × Addr)).all (fun p => excB K p.2) = true
  q_NoNumber : PySem.W.excIn K C_NoNumber [.type "ValueError", .type "Exception", .type "BaseException", .type "object"] "ValueError.__new__" = true
  q_NoPlace : PySem.W.excIn K C_NoPlace [.type "ValueError", .type "Exception", .type "BaseException", .type "object"] "ValueError.__new__" = true
  q_NoSheet : PySem.W.excIn K C_NoSheet [.type "ValueError", .type "Exception", .type "BaseException", .type "object"] "ValueError.__new__" = true
  kB_NoNumber : ([("NoNumber", C_NoNumber), ("NoPlace", C_NoPlace), ("NoSheet", C_NoSheet)] : List (Str × Addr)).all (fun p => decide (PySem.W.kitOne K (.ref p.2) (.ref C_NoNumber) = some (inS ["NoNumber"] p.1))) = true
  kB_NoPlace : ([("NoNumber", C_NoNumber), ("NoPlace", C_NoPlace), ("NoSheet", C_NoSheet)] : List (Str × Addr)).all (fun p => decide (PySem.W.kitOne K (.ref p.2) (.ref C_NoPlace) = some (inS ["NoPlace"] p.1))) = true
  kB_NoSheet : ([("NoNumber", C_NoNumber), ("NoPlace", C_NoPlace), ("NoSheet", C_NoSheet)] : List (Str × Addr)).all (fun p => decide (PySem.W.kitOne K (.ref p.2) (.ref C_NoSheet) = some (inS ["NoSheet"] p.1))) = true
  eB_ColourError : ([("NoNumber", C_NoNumber), ("NoPlace", C_NoPlace), ("NoSheet", C_NoSheet)] : List (Str × Addr)).all (fun p => decide (PySem.W.exmOne K (.ref p.2) (.ref C_ColourError) = some (inS ["NoNumber", "NoPlace", "NoSheet"] p.1))) = true
  eB_TooMany : ([("NoNumber", C_NoNumber), ("NoPlace", C_NoPlace), ("NoSheet", C_NoSheet)] : List (Str × Addr)).all (fun p => decide (PySem.W.exmOne K (.ref p.2) (.ref C_TooMany) = some (inS [] p.1))) = true
  nB_most : ([("NoNumber", C_NoNumber), ("NoPlace", C_NoPlace), ("NoSheet", C_NoSheet)] : List (Str × Addr)).all (fun p => decide (PySem.W.findIn K (.ref p.2) "most" = some none)) = true
section
variable {K : PySem.W.Frag} {mg : Str → Option Value} (T : Tx K mg)
def Tx.cs : List (Addr × Addr) := [(T.cA_law, T.P_law)]
def Tx.tabs : List (Addr × Str) := [(T.P_law, (Str.ofString "law" ++ ".<locals>.") ++ "<lambda>")]
include T
theorem Tx.ndT : (T.tabs.map (·.1)).Nodup := T.nd
theorem Tx.gs : ∀ p ∈ ([("NoNumber", T.C_NoNumber), ("NoPlace", T.C_NoPlace), ("NoSheet", T.C_NoSheet)] : List (Str × Addr)), mg p.1 = some (.ref p.2) := by
  intro p hp
  simp only [List.mem_cons, List.not_mem_nil, or_false] at hp
  rcases hp with rfl | rfl | rfl
  · exact T.g_NoNumber
  · exact T.g_NoPlace
  · exact T.g_NoSheet
theorem Tx.exc : ∀ n ∈ xcs, ∀ E, mg n = some (.ref E) → ExcT K E := by_cls (l := [("NoNumber", T.C_NoNumber), ("NoPlace", T.C_NoPlace), ("NoSheet", T.C_NoSheet)]) T.gs fun p hp => excB_ok (all_cls T.xB p hp)
theorem Tx.kit_NoNumber : ∀ n ∈ xcs, ∀ E, mg n = some (.ref E) → PySem.W.kitOne K (.ref E) (.ref T.C_NoNumber) = some (inS ["NoNumber"] n) := by_cls (l := [("NoNumber", T.C_NoNumber), ("NoPlace", T.C_NoPlace), ("NoSheet", T.C_NoSheet)]) (F := fun n E => PySem.W.kitOne K (.ref E) (.ref T.C_NoNumber) = some (inS ["NoNumber"] n)) T.gs fun p hp => of_decide_eq_true (all_cls T.kB_NoNumber p hp)
theorem Tx.kit_NoPlace : ∀ n ∈ xcs, ∀ E, mg n = some (.ref E) → PySem.W.kitOne K (.ref E) (.ref T.C_NoPlace) = some (inS ["NoPlace"] n) := by_cls (l := [("NoNumber", T.C_NoNumber), ("NoPlace", T.C_NoPlace), ("NoSheet", T.C_NoSheet)]) (F := fun n E => PySem.W.kitOne K (.ref E) (.ref T.C_NoPlace) = some (inS ["NoPlace"] n)) T.gs fun p hp => of_decide_eq_true (all_cls T.kB_NoPlace p hp)
theorem Tx.kit_NoSheet : ∀ n ∈ xcs, ∀ E, mg n = some (.ref E) → PySem.W.kitOne K (.ref E) (.ref T.C_NoSheet) = some (inS ["NoSheet"] n) := by_cls (l := [("NoNumber", T.C_NoNumber), ("NoPlace", T.C_NoPlace), ("NoSheet", T.C_NoSheet)]) (F := fun n E => PySem.W.kitOne K (.ref E) (.ref T.C_NoSheet) = some (inS ["NoSheet"] n)) T.gs fun p hp => of_decide_eq_true (all_cls T.kB_NoSheet p hp)
theorem Tx.exm_ColourError : ∀ n ∈ xcs, ∀ E, mg n = some (.ref E) → PySem.W.exmOne K (.ref E) (.ref T.C_ColourError) = some (inS ["NoNumber", "NoPlace", "NoSheet"] n) := by_cls (l := [("NoNumber", T.C_NoNumber), ("NoPlace", T.C_NoPlace), ("NoSheet", T.C_NoSheet)]) (F := fun n E => PySem.W.exmOne K (.ref E) (.ref T.C_ColourError) = some (inS ["NoNumber", "NoPlace", "NoSheet"] n)) T.gs fun p hp => of_decide_eq_true (all_cls T.eB_ColourError p hp)
theorem Tx.exm_TooMany : ∀ n ∈ xcs, ∀ E, mg n = some (.ref E) → PySem.W.exmOne K (.ref E) (.ref T.C_TooMany) = some (inS [] n) := by_cls (l := [("NoNumber", T.C_NoNumber), ("NoPlace", T.C_NoPlace), ("NoSheet", T.C_NoSheet)]) (F := fun n E => PySem.W.exmOne K (.ref E) (.ref T.C_TooMany) = some (inS [] n)) T.gs fun p hp => of_decide_eq_true (all_cls T.eB_TooMany p hp)
theorem Tx.nof_most : ∀ n ∈ xcs, ∀ E, mg n = some (.ref E) → PySem.W.findIn K (.ref E) "most" = some none := by_cls (l := [("NoNumber", T.C_NoNumber), ("NoPlace", T.C_NoPlace), ("NoSheet", T.C_NoSheet)]) (F := fun n E => PySem.W.findIn K (.ref E) "most" = some none) T.gs fun p hp => of_decide_eq_true (all_cls T.nB_most p hp)
theorem x0_NoNumber : Ex0 K mg "NoNumber" T.C_NoNumber :=
  have t := excB_ok (all_cls T.xB ("NoNumber", T.C_NoNumber) (by simp))
  ⟨T.q_NoNumber, T.g_NoNumber, t.k, t.b, t.t⟩
theorem x0_NoPlace : Ex0 K mg "NoPlace" T.C_NoPlace :=
  have t := excB_ok (all_cls T.xB ("NoPlace", T.C_NoPlace) (by simp))
  ⟨T.q_NoPlace, T.g_NoPlace, t.k, t.b, t.t⟩
theorem x0_NoSheet : Ex0 K mg "NoSheet" T.C_NoSheet :=
  have t := excB_ok (all_cls T.xB ("NoSheet", T.C_NoSheet) (by simp))
  ⟨T.q_NoSheet, T.g_NoSheet, t.k, t.b, t.t⟩
end
theorem sc_is_integer : FnScope ["thing"] ["thing"] (defScope (top 1)) := ⟨rfl, rfl, rfl, by decide +kernel, rfl, by decide +kernel, by decide +kernel⟩
theorem sc_is_sized : FnScope ["thing", "low", "high"] ["thing", "low", "high"] (defScope (top 3)) := ⟨rfl, rfl, rfl, by decide +kernel, rfl, by decide +kernel, by decide +kernel⟩
theorem sc_tied_to : FnScope ["web", "place", "a", "b"] ["web", "place"] (defScope (top 20)) := ⟨rfl, rfl, rfl, by decide +kernel, rfl, by decide +kernel, by decide +kernel⟩
theorem sc_painted : FnScope ["paint", "stroke"] ["paint", "stroke"] (defScope (top 22)) := ⟨rfl, rfl, rfl, by decide +kernel, rfl, by decide +kernel, by decide +kernel⟩
theorem sc_colours_at : FnScope ["rows", "place", "row"] ["rows", "place"] (defScope (top 29)) := ⟨rfl, rfl, rfl, by decide +kernel, rfl, by decide +kernel, by decide +kernel⟩
theorem sc__law_hand : FnScope ["script", "cells", "cell"] ["script"] (defScope (top 33)) := ⟨rfl, rfl, rfl, by decide +kernel, rfl, by decide +kernel, by decide +kernel⟩
theorem sc__law_draw : FnScope ["hand", "many", "cell", "digit", "number"] ["hand", "many"] (defScope (top 34)) := ⟨rfl, rfl, rfl, by decide +kernel, rfl, by decide +kernel, by decide +kernel⟩
theorem sc__law_near : FnScope ["web", "found", "a", "b", "place", "some"] ["web"] (defScope (top 37)) := ⟨rfl, rfl, rfl, by decide +kernel, rfl, by decide +kernel, by decide +kernel⟩
theorem sc__law_stroked : FnScope ["sheet", "place", "colour", "web", "k", "paint"] ["sheet", "place", "colour"] (defScope (top 41)) := ⟨rfl, rfl, rfl, by decide +kernel, rfl, by decide +kernel, by decide +kernel⟩
theorem sc__law_word : FnScope ["call", "word", "e", "flags", "names"] ["call"] (defScope (top 44)) := ⟨rfl, rfl, rfl, by decide +kernel, rfl, by decide +kernel, by decide +kernel⟩
theorem sc_is_within : FnScope ["thing", "low", "high"] ["thing", "low", "high"] (defScope (top 2)) := ⟨rfl, rfl, rfl, by decide +kernel, rfl, by decide +kernel, by decide +kernel⟩
theorem sc_strokes_of : FnScope ["web", "k", "paint", "found", "place", "colour", "shut", "other", "one"] ["web", "k", "paint"] (defScope (top 21)) := ⟨rfl, rfl, rfl, by decide +kernel, rfl, by decide +kernel, by decide +kernel⟩
theorem sc__law_any : FnScope ["hand", "some"] ["hand", "some"] (defScope (top 35)) := ⟨rfl, rfl, rfl, by decide +kernel, rfl, by decide +kernel, by decide +kernel⟩
theorem sc__law_web : FnScope ["hand", "most", "n", "share", "ties", "a", "b"] ["hand", "most"] (defScope (top 36)) := ⟨rfl, rfl, rfl, by decide +kernel, rfl, by decide +kernel, by decide +kernel⟩
theorem sc__law_paintings : FnScope ["web", "k", "near", "found", "place", "longer", "row", "used", "other", "colour"] ["web", "k"] (defScope (top 38)) := ⟨rfl, rfl, rfl, by decide +kernel, rfl, by decide +kernel, by decide +kernel⟩
theorem sc__law_strokes : FnScope ["sheet", "web", "k", "paint", "near", "found", "place", "used", "other", "colour"] ["sheet"] (defScope (top 40)) := ⟨rfl, rfl, rfl, by decide +kernel, rfl, by decide +kernel, by decide +kernel⟩
theorem sc_is_lot : FnScope ["thing", "many", "one", "other"] ["thing", "many"] (defScope (top 4)) := ⟨rfl, rfl, rfl, by decide +kernel, rfl, by decide +kernel, by decide +kernel⟩
theorem sc_filled : FnScope ["web", "k", "paint", "most", "found", "waiting", "here", "left", "some", "place", "colour", "stroke"] ["web", "k", "paint", "most"] (defScope (top 27)) := ⟨rfl, rfl, rfl, by decide +kernel, rfl, by decide +kernel, by decide +kernel⟩
theorem sc__law_sheet : FnScope ["hand", "most", "web", "k", "near", "paint", "place", "used", "free", "other", "colour"] ["hand", "most"] (defScope (top 39)) := ⟨rfl, rfl, rfl, by decide +kernel, rfl, by decide +kernel, by decide +kernel⟩
theorem sc__law_no_sheet : FnScope ["hand", "web", "some"] ["hand"] (defScope (top 42)) := ⟨rfl, rfl, rfl, by decide +kernel, rfl, by decide +kernel, by decide +kernel⟩
theorem sc__law_fillings : FnScope ["sheet", "web", "k", "paint", "found", "row", "own", "colour"] ["sheet"] (defScope (top 43)) := ⟨rfl, rfl, rfl, by decide +kernel, rfl, by decide +kernel, by decide +kernel⟩
theorem sc_are_ties : FnScope ["n", "thing", "one", "other", "pair"] ["n", "thing"] (defScope (top 13)) := ⟨rfl, rfl, rfl, by decide +kernel, rfl, by decide +kernel, by decide +kernel⟩
theorem sc_is_web : FnScope ["thing"] ["thing"] (defScope (top 14)) := ⟨rfl, rfl, rfl, by decide +kernel, rfl, by decide +kernel, by decide +kernel⟩
theorem sc_is_sheet : FnScope ["thing", "web", "k", "paint", "colour", "a", "b"] ["thing"] (defScope (top 18)) := ⟨rfl, rfl, rfl, by decide +kernel, rfl, by decide +kernel, by decide +kernel⟩
theorem sc_check_sheet : FnScope ["sheet"] ["sheet"] (defScope (top 19)) := ⟨rfl, rfl, rfl, by decide +kernel, rfl, by decide +kernel, by decide +kernel⟩
theorem sc_fillings : FnScope ["sheet", "most"] ["sheet", "most"] (defScope (top 28)) := ⟨rfl, rfl, rfl, by decide +kernel, rfl, by decide +kernel, by decide +kernel⟩
theorem sc_is_sure : FnScope ["sheet", "place", "colours"] ["sheet", "place"] (defScope (top 30)) := ⟨rfl, rfl, rfl, by decide +kernel, rfl, by decide +kernel, by decide +kernel⟩
theorem sc_sure_places : FnScope ["sheet", "rows", "found", "place", "colour", "colours"] ["sheet"] (defScope (top 31)) := ⟨rfl, rfl, rfl, by decide +kernel, rfl, by decide +kernel, by decide +kernel⟩
theorem sc_law : FnScope ["script", "hand", "turn", "sheet", "web", "k", "paint", "some", "most", "sure", "place", "told", "due", "colour", "bad", "off", "odd", "words", "row"] ["script"] (defScope (top 45)) := ⟨rfl, rfl, rfl, by decide +kernel, rfl, by decide +kernel, by decide +kernel⟩
section
variable {P : Program} {w : World} {K : PySem.W.Frag} {mg : Str → Option Value} {base : Heap} (T : Tx K mg) (tb : ∀ p ∈ T.cs, TabB base mg p.1 p.2) (SA : List Addr)
include tb
/-! is_integer -/
def b_is_integer : DS := dRet (dAndV (d1 (fun d => some (.bool (isT "int" d))) (dVar 0)) (dNotV (d1 (fun d => some (.bool (isT "bool" d))) (dVar 0))))
def d_is_integer : List PyData → Store → R PyData := dFn false 1 b_is_integer
theorem ok_is_integer : FnOk P w K mg base (L2.CX P w) 1 T.A_is_integer T.D_is_integer ["thing"] (spD K mg (gW T.tabs SA) [.fz] false d_is_integer) := by
  refine fn_den (N := ["thing"]) (m1 := []) T.F_is_integer sc_is_integer rfl rfl (by decide) (fun cdv A outer s H E hr => ?_)
  have kx := kx_fn (g := gW T.tabs SA) (P := P) (w := w) (K := K) (mg := mg) (base := base) (N := ["thing"]) (qual := "is_integer") (st := top 1) (f := T.A_is_integer) (cdv := cdv) (A := A) (outer := outer) (s := s) (H := H) (E := E) (k := 0) sc_is_integer hr
  exact svs_one (sv_ret (ev_andV (ev_isi isT_int rfl rfl T.b_isinstance rfl T.b_int (vv 0)) (ev_one (ev_notV (ev_isi isT_bool rfl rfl T.b_isinstance rfl T.b_bool (vv 0))))))
/-! is_sized -/
def b_is_sized : DS := dRet (dAndV (d1 (fun d => some (.bool (isT "tuple" d))) (dVar 0)) (dChain fLe fLe (dVar 1) (d1 fLen (dVar 0)) (dVar 2)))
def d_is_sized : List PyData → Store → R PyData := dFn false 3 b_is_sized
theorem ok_is_sized : FnOk P w K mg base (L2.CX P w) 1 T.A_is_sized T.D_is_sized ["thing", "low", "high"] (spD K mg (gW T.tabs SA) [.fz, .fz, .fz] false d_is_sized) := by
  refine fn_den (N := ["thing", "low", "high"]) (m1 := []) T.F_is_sized sc_is_sized rfl rfl (by decide) (fun cdv A outer s H E hr => ?_)
  have kx := kx_fn (g := gW T.tabs SA) (P := P) (w := w) (K := K) (mg := mg) (base := base) (N := ["thing", "low", "high"]) (qual := "is_sized") (st := top 3) (f := T.A_is_sized) (cdv := cdv) (A := A) (outer := outer) (s := s) (H := H) (E := E) (k := 0) sc_is_sized hr
  exact svs_one (sv_ret (ev_andV (ev_isi isT_tuple rfl rfl T.b_isinstance rfl T.b_tuple (vv 0)) (ev_one (c2 (rel_le kx.ux) (rel_le kx.ux) (EV.eb (vv 1)) (EV.eb (ev_len rfl T.b_len (EV.eb (vv 0)))) (EV.eb (vv 2))))))
/-! tied_to -/
def b_tied_to : DS := dRet (d2 fAddL (dComp (dIt seqD (d2 fIx (dVar 0) (dC (.int 1)))) (.tup [2, 3]) (dTest (d2 fEq (dVar 2) (dVar 1))) (dVar 3)) (dComp (dIt seqD (d2 fIx (dVar 0) (dC (.int 1)))) (.tup [2, 3]) (dTest (d2 fEq (dVar 3) (dVar 1))) (dVar 2)))
def d_tied_to : List PyData → Store → R PyData := dFn false 4 b_tied_to
theorem ok_tied_to : FnOk P w K mg base (L2.CX P w) 1 T.A_tied_to T.D_tied_to ["web", "place"] (spD K mg (gW T.tabs SA) [.fz, .fz] false d_tied_to) := by
  refine fn_den (N := ["web", "place", "a", "b"]) (m1 := []) T.F_tied_to sc_tied_to rfl rfl (by decide) (fun cdv A outer s H E hr => ?_)
  have kx := kx_fn (g := gW T.tabs SA) (P := P) (w := w) (K := K) (mg := mg) (base := base) (N := ["web", "place", "a", "b"]) (qual := "tied_to") (st := top 20) (f := T.A_tied_to) (cdv := cdv) (A := A) (outer := outer) (s := s) (H := H) (E := E) (k := 0) sc_tied_to hr
  exact svs_one (sv_ret (EO.ev (eo_add (EO.eb (eo_lcIf (t := (.tup [2, 3])) (own := [("a", 2), ("b", 3)]) kx.hc kx.hN (IFo.c (if_any (ev_ix (EV.eb (vv 0)) (EV.eb (ev_int)) (fun _ _ => rfl)))) (blk_by (by show blkB ["web", "place", "a", "b"] (defScope (top 20)) _ _ = true; decide +kernel)) (by decide) (by decide) (fun sc1 Hc1 Cc1 lc1 fc1 => pg_tup (kx.inn _ sc1 Hc1 Cc1 lc1 fc1).hc (pgs_cons (pgn 2 (kx.inn _ sc1 Hc1 Cc1 lc1 fc1).hN) (pgs_cons (pgn 3 (kx.inn _ sc1 Hc1 Cc1 lc1 fc1).hN) (pgs_nil)))) (fun sc1 Hc1 Cc1 lc1 fc1 => t1 (rel_eq (kx.inn _ sc1 Hc1 Cc1 lc1 fc1).ux) (EV.eb (vv 2)) (EV.eb (vv 1))) (fun sc1 Hc1 Cc1 lc1 fc1 => vv 3))) (EO.eb (eo_lcIf (t := (.tup [2, 3])) (own := [("a", 2), ("b", 3)]) kx.hc kx.hN (IFo.c (if_any (ev_ix (EV.eb (vv 0)) (EV.eb (ev_int)) (fun _ _ => rfl)))) (blk_by (by show blkB ["web", "place", "a", "b"] (defScope (top 20)) _ _ = true; decide +kernel)) (by decide) (by decide) (fun sc2 Hc2 Cc2 lc2 fc2 => pg_tup (kx.inn _ sc2 Hc2 Cc2 lc2 fc2).hc (pgs_cons (pgn 2 (kx.inn _ sc2 Hc2 Cc2 lc2 fc2).hN) (pgs_cons (pgn 3 (kx.inn _ sc2 Hc2 Cc2 lc2 fc2).hN) (pgs_nil)))) (fun sc2 Hc2 Cc2 lc2 fc2 => t1 (rel_eq (kx.inn _ sc2 Hc2 Cc2 lc2 fc2).ux) (EV.eb (vv 3)) (EV.eb (vv 1))) (fun sc2 Hc2 Cc2 lc2 fc2 => vv 2))))))
/-! painted -/
def b_painted : DS := dRet (d2 fAdd (d2 fAdd (dSl fSl (dVar 0) (pNo) (pSm (d2 fIx (dVar 1) (dC (.int 0))))) (dTup (dCons (d2 fIx (dVar 1) (dC (.int 1))) (dNil)))) (dSl fSl (dVar 0) (pSm (d2 fAdd (d2 fIx (dVar 1) (dC (.int 0))) (dC (.int 1)))) (pNo)))
def d_painted : List PyData → Store → R PyData := dFn false 2 b_painted
theorem ok_painted : FnOk P w K mg base (L2.CX P w) 1 T.A_painted T.D_painted ["paint", "stroke"] (spD K mg (gW T.tabs SA) [.fz, .fz] false d_painted) := by
  refine fn_den (N := ["paint", "stroke"]) (m1 := []) T.F_painted sc_painted rfl rfl (by decide) (fun cdv A outer s H E hr => ?_)
  have kx := kx_fn (g := gW T.tabs SA) (P := P) (w := w) (K := K) (mg := mg) (base := base) (N := ["paint", "stroke"]) (qual := "painted") (st := top 22) (f := T.A_painted) (cdv := cdv) (A := A) (outer := outer) (s := s) (H := H) (E := E) (k := 0) sc_painted hr
  exact svs_one (sv_ret (ev_add (EV.eb (ev_add (EV.eb (ev_sl (EV.eb (vv 0)) (ep_no) (ep_sm (ev_ix (EV.eb (vv 1)) (EV.eb (ev_int)) (fun _ _ => rfl))))) (EV.eb (ev_tup (ea_cons (ev_ix (EV.eb (vv 1)) (EV.eb (ev_int)) (fun _ _ => rfl)) (ea_nil)))))) (EV.eb (ev_sl (EV.eb (vv 0)) (ep_sm (ev_add (EV.eb (ev_ix (EV.eb (vv 1)) (EV.eb (ev_int)) (fun _ _ => rfl))) (EV.eb (ev_int)))) (ep_no)))))
/-! colours_at -/
def b_colours_at : DS := dRet (d1 fSortX (d1 fDict (dComp (dIt seqD (dVar 0)) (.nm 2) (dYes) (dTup (dCons (d2 fIx (dVar 2) (dVar 1)) (dCons (dC (.bool true)) (dNil)))))))
def d_colours_at : List PyData → Store → R PyData := dFn false 3 b_colours_at
theorem ok_colours_at : FnOk P w K mg base (L2.CX P w) 1 T.A_colours_at T.D_colours_at ["rows", "place"] (spD K mg (gW T.tabs SA) [.fz, .fz] false d_colours_at) := by
  refine fn_den (N := ["rows", "place", "row"]) (m1 := []) T.F_colours_at sc_colours_at rfl rfl (by decide) (fun cdv A outer s H E hr => ?_)
  have kx := kx_fn (g := gW T.tabs SA) (P := P) (w := w) (K := K) (mg := mg) (base := base) (N := ["rows", "place", "row"]) (qual := "colours_at") (st := top 29) (f := T.A_colours_at) (cdv := cdv) (A := A) (outer := outer) (s := s) (H := H) (E := E) (k := 0) sc_colours_at hr
  exact svs_one (sv_ret (EO.ev (eo_sortX kx.hc kx.ux.u65 rfl T.b_sorted (EV.eb (EO.ev (eo_dict kx.hc rfl T.b_dict (EO.eb (eo_lc (t := (.nm 2)) (own := [("row", 2)]) kx.hc kx.hN (IFo.c (if_any (vv 0))) (blk_by (by show blkB ["rows", "place", "row"] (defScope (top 29)) _ _ = true; decide +kernel)) (by decide) (by decide) (fun sc1 Hc1 Cc1 lc1 fc1 => pgn 2 (kx.inn _ sc1 Hc1 Cc1 lc1 fc1).hN) (fun sc1 Hc1 Cc1 lc1 fc1 => ev_tup (ea_cons (ev_ix (EV.eb (vv 2)) (EV.eb (vv 1)) (fun _ _ => rfl)) (ea_cons (ev_bl) (ea_nil))))))))))))
/-! _law_hand -/
def b__law_hand : DS := dSeq (dSet 1 (dComp (dIt lstD (dSl fSlL (dVar 0) (pNo) (pSm (dC (.int 63))))) (.nm 2) (dYes) (d1 fAbs (d1 fInt (dVar 2))))) (dRet (dLst (dCons (dVar 1) (dCons (dC (.int 0)) (dCons (dC (.int 0)) (dCons (d2 fAdd (dC (.int 61)) (d2 fTimes (dC (.int 7)) (d1 fLen (dVar 1)))) (dCons (dC (.int 0)) (dNil))))))))
def d__law_hand : List PyData → Store → R PyData := dFn true 3 b__law_hand
theorem ok__law_hand : FnOk P w K mg base (L2.CX P w) 1 T.A__law_hand T.D__law_hand ["script"] (spD K mg (gW T.tabs SA) [.cs] true d__law_hand) := by
  refine fn_den (N := ["script", "cells", "cell"]) (m1 := []) T.F__law_hand sc__law_hand rfl rfl (by decide) (fun cdv A outer s H E hr => ?_)
  have kx := kx_fn (g := gW T.tabs SA) (P := P) (w := w) (K := K) (mg := mg) (base := base) (N := ["script", "cells", "cell"]) (qual := "_law_hand") (st := top 33) (f := T.A__law_hand) (cdv := cdv) (A := A) (outer := outer) (s := s) (H := H) (E := E) (k := 0) sc__law_hand hr
  exact svs_cons (sv_lc (i := 1) (t := (.nm 2)) (own := [("cell", 2)]) (by decide) rfl rfl rfl kx.hc kx.hN (ic_list (EO.eb (eo_csSl (i := 0) rfl (pv 0) (ep_no) (ep_sm (ev_int))))) (blk_by (by show blkB ["script", "cells", "cell"] (defScope (top 33)) _ _ = true; decide +kernel)) (by decide) (by decide) (fun sc1 Hc1 Cc1 lc1 fc1 => pgn 2 (kx.inn _ sc1 Hc1 Cc1 lc1 fc1).hN) (fun sc1 Hc1 Cc1 lc1 fc1 => ev_abs rfl T.b_abs (EV.eb (ev_int_ rfl T.b_int (EV.eb (vv 2))))))
      (svs_freeze (j := 1) rfl (svs_one (sv_reto (eo_lst (ea_cons (vv 1) (ea_cons (ev_int) (ea_cons (ev_int) (ea_cons (ev_add (EV.eb (ev_int)) (EV.eb (ev_times (EV.eb (ev_int)) (EV.eb (ev_len rfl T.b_len (EV.eb (vv 1))))))) (ea_cons (ev_int) (ea_nil))))))))))
/-! _law_draw -/
def b__law_draw : DS := dSeq (dIfS (dAnd (dTest (d2 fEq (dStIx 0 (dC (.int 2))) (dC (.int 0)))) (dTest (d2 fLt (dStIx 0 (dC (.int 1))) (d1 fLen (dStIx 0 (dC (.int 0))))))) (dSeq (dSet 2 (d2 fIx (dStIx 0 (dC (.int 0))) (dStIx 0 (dC (.int 1))))) (dSeq (dStSet 0 (dC (.int 1)) (d2 fAdd (dStIx 0 (dC (.int 1))) (dC (.int 1)))) (dSeq (dStSet 0 (dC (.int 3)) (d2 (fI cMod fun i j => i % j) (d1 fInt (d2 fAdd (d2 fAdd (d2 fTimes (dStIx 0 (dC (.int 3))) (dC (.int 69621))) (d2 fTimes (dVar 2) (dC (.int 40692)))) (dC (.int 31)))) (dC (.int 2147483629)))) (dIfS (dTest (d2 fGe (dVar 2) (d2 (fI cPow fun i j => i ^ j.toNat) (dC (.int 10)) (dC (.int 18))))) (dStSet 0 (dC (.int 2)) (dVar 2)) (dNx))))) (dNx)) (dSeq (dIfS (dTest (d2 fGt (dStIx 0 (dC (.int 2))) (dC (.int 0)))) (dSeq (dSet 3 (d2 (fI cMod fun i j => i % j) (d1 fInt (dStIx 0 (dC (.int 2)))) (dVar 1))) (dSeq (dStSet 0 (dC (.int 2)) (d2 (fI cDiv fun i j => i / j) (dStIx 0 (dC (.int 2))) (dVar 1))) (dRet (dVar 3)))) (dNx)) (dSeq (dStSet 0 (dC (.int 4)) (d2 fAdd (dStIx 0 (dC (.int 4))) (dC (.int 1)))) (dSeq (dSet 4 (d2 (fI cMod fun i j => i % j) (d1 fInt (d2 fTimes (d1 fInt (d2 fAdd (dStIx 0 (dC (.int 3))) (d2 fTimes (dC (.int 7919)) (dStIx 0 (dC (.int 4)))))) (dC (.int 48271)))) (dC (.int 2147483647)))) (dSeq (dSet 4 (d2 (fI cMod fun i j => i % j) (d1 fInt (d2 fTimes (dVar 4) (d2 fAdd (d2 (fI cDiv fun i j => i / j) (dVar 4) (dC (.int 1009))) (dC (.int 69621))))) (dC (.int 2147483647)))) (dSeq (dSet 4 (d2 (fI cMod fun i j => i % j) (d1 fInt (d2 fTimes (dVar 4) (d2 fAdd (d2 (fI cDiv fun i j => i / j) (dVar 4) (dC (.int 2003))) (dC (.int 40014))))) (dC (.int 2147483563)))) (dRet (d2 (fI cMod fun i j => i % j) (d1 fInt (d2 (fI cDiv fun i j => i / j) (dVar 4) (dC (.int 16)))) (dVar 1))))))))
def d__law_draw : List PyData → Store → R PyData := dFn false 5 b__law_draw
theorem ok__law_draw : FnOk P w K mg base (L2.CX P w) 1 T.A__law_draw T.D__law_draw ["hand", "many"] (spD K mg (gW T.tabs SA) [.st 0, .fz] false d__law_draw) := by
  refine fn_den (N := ["hand", "many", "cell", "digit", "number"]) (m1 := []) T.F__law_draw sc__law_draw rfl rfl (by decide) (fun cdv A outer s H E hr => ?_)
  have kx := kx_fn (g := gW T.tabs SA) (P := P) (w := w) (K := K) (mg := mg) (base := base) (N := ["hand", "many", "cell", "digit", "number"]) (qual := "_law_draw") (st := top 34) (f := T.A__law_draw) (cdv := cdv) (A := A) (outer := outer) (s := s) (H := H) (E := E) (k := 0) sc__law_draw hr
  exact svs_cons (sv_if (m1 := [.st 0, .fz, .fz, .fz, .fz]) (et_w (ew_and (t1 (rel_eq kx.ux) (EV.eb (ev_stIx (k := 0) rfl (pv 0) (ev_int) (fun _ _ => rfl))) (EV.eb (ev_int))) (ew_and1 (t1 (rel_lt kx.ux) (EV.eb (ev_stIx (k := 0) rfl (pv 0) (ev_int) (fun _ _ => rfl))) (EV.eb (ev_len rfl T.b_len (EV.eb (ev_stIx (k := 0) rfl (pv 0) (ev_int) (fun _ _ => rfl))))))))) (svs_cons (sv_set (i := 2) (ev_ix (EV.eb (ev_stIx (k := 0) rfl (pv 0) (ev_int) (fun _ _ => rfl))) (EV.eb (ev_stIx (k := 0) rfl (pv 0) (ev_int) (fun _ _ => rfl))) (fun _ _ => rfl)) (by decide) (ps_set kx.hN rfl (Or.inl rfl) we))
      (svs_cons (sv_stSet (k := 0) rfl (pv 0) (ev_add (EV.eb (ev_stIx (k := 0) rfl (pv 0) (ev_int) (fun _ _ => rfl))) (EV.eb (ev_int))) (ev_int) (fun te g h1 h2 => ps_asg h1 h2))
      (svs_cons (sv_stSet (k := 0) rfl (pv 0) (ev_mod (EV.eb (ev_int_ rfl T.b_int (EV.eb (ev_add (EV.eb (ev_add (EV.eb (ev_times (EV.eb (ev_stIx (k := 0) rfl (pv 0) (ev_int) (fun _ _ => rfl))) (EV.eb (ev_int)))) (EV.eb (ev_times (EV.eb (vv 2)) (EV.eb (ev_int)))))) (EV.eb (ev_int)))))) (EV.eb (ev_int))) (ev_int) (fun te g h1 h2 => ps_asg h1 h2))
      (svs_one (sv_if (m1 := [.st 0, .fz, .fz, .fz, .fz]) (t1 (rel_ge kx.ux) (EV.eb (vv 2)) (EV.eb (ev_pow (EV.eb (ev_int)) (EV.eb (ev_int))))) (svs_one (sv_stSet (k := 0) rfl (pv 0) (vv 2) (ev_int) (fun te g h1 h2 => ps_asg h1 h2))) (svs_nil)))))) (svs_nil))
      (svs_cons (sv_if (m1 := [.st 0, .fz, .fz, .fz, .fz]) (t1 (rel_gt kx.ux) (EV.eb (ev_stIx (k := 0) rfl (pv 0) (ev_int) (fun _ _ => rfl))) (EV.eb (ev_int))) (svs_cons (sv_set (i := 3) (ev_mod (EV.eb (ev_int_ rfl T.b_int (EV.eb (ev_stIx (k := 0) rfl (pv 0) (ev_int) (fun _ _ => rfl))))) (EV.eb (vv 1))) (by decide) (ps_set kx.hN rfl (Or.inl rfl) we))
      (svs_cons (sv_stSet (k := 0) rfl (pv 0) (ev_fdiv (EV.eb (ev_stIx (k := 0) rfl (pv 0) (ev_int) (fun _ _ => rfl))) (EV.eb (vv 1))) (ev_int) (fun te g h1 h2 => ps_asg h1 h2))
      (svs_one (sv_ret (vv 3))))) (svs_nil))
      (svs_cons (sv_stSet (k := 0) rfl (pv 0) (ev_add (EV.eb (ev_stIx (k := 0) rfl (pv 0) (ev_int) (fun _ _ => rfl))) (EV.eb (ev_int))) (ev_int) (fun te g h1 h2 => ps_asg h1 h2))
      (svs_cons (sv_set (i := 4) (ev_mod (EV.eb (ev_int_ rfl T.b_int (EV.eb (ev_times (EV.eb (ev_int_ rfl T.b_int (EV.eb (ev_add (EV.eb (ev_stIx (k := 0) rfl (pv 0) (ev_int) (fun _ _ => rfl))) (EV.eb (ev_times (EV.eb (ev_int)) (EV.eb (ev_stIx (k := 0) rfl (pv 0) (ev_int) (fun _ _ => rfl))))))))) (EV.eb (ev_int)))))) (EV.eb (ev_int))) (by decide) (ps_set kx.hN rfl (Or.inl rfl) we))
      (svs_cons (sv_set (i := 4) (ev_mod (EV.eb (ev_int_ rfl T.b_int (EV.eb (ev_times (EV.eb (vv 4)) (EV.eb (ev_add (EV.eb (ev_fdiv (EV.eb (vv 4)) (EV.eb (ev_int)))) (EV.eb (ev_int)))))))) (EV.eb (ev_int))) (by decide) (ps_set kx.hN rfl (Or.inl rfl) we))
      (svs_cons (sv_set (i := 4) (ev_mod (EV.eb (ev_int_ rfl T.b_int (EV.eb (ev_times (EV.eb (vv 4)) (EV.eb (ev_add (EV.eb (ev_fdiv (EV.eb (vv 4)) (EV.eb (ev_int)))) (EV.eb (ev_int)))))))) (EV.eb (ev_int))) (by decide) (ps_set kx.hN rfl (Or.inl rfl) we))
      (svs_one (sv_ret (ev_mod (EV.eb (ev_int_ rfl T.b_int (EV.eb (ev_fdiv (EV.eb (vv 4)) (EV.eb (ev_int)))))) (EV.eb (vv 1))))))))))
/-! _law_near -/
def b__law_near : DS := dSeq (dSet 1 (dComp (dRng1 (d2 fIx (dVar 0) (dC (.int 0)))) (.nm 4) (dYes) (dLst (dNil)))) (dSeq (dFor (dIt seqD (d2 fIx (dVar 0) (dC (.int 1)))) (.tup [2, 3]) (dSeq (dApp2 1 (dVar 2) (dVar 3)) (dApp2 1 (dVar 3) (dVar 2)))) (dRet (dComp (dIt seqD (dVar 1)) (.nm 5) (dYes) (d1 fSort (dVar 5)))))
def d__law_near : List PyData → Store → R PyData := dFn false 6 b__law_near
theorem ok__law_near : FnOk P w K mg base (L2.CX P w) 1 T.A__law_near T.D__law_near ["web"] (spD K mg (gW T.tabs SA) [.fz] false d__law_near) := by
  refine fn_den (N := ["web", "found", "a", "b", "place", "some"]) (m1 := []) T.F__law_near sc__law_near rfl rfl (by decide) (fun cdv A outer s H E hr => ?_)
  have kx := kx_fn (g := gW T.tabs SA) (P := P) (w := w) (K := K) (mg := mg) (base := base) (N := ["web", "found", "a", "b", "place", "some"]) (qual := "_law_near") (st := top 37) (f := T.A__law_near) (cdv := cdv) (A := A) (outer := outer) (s := s) (H := H) (E := E) (k := 0) sc__law_near hr
  exact svs_cons (sv_new2 (i := 1) (t := (.nm 4)) (own := [("place", 4)]) (by decide) rfl rfl rfl kx.hc kx.hN (IFo.c (if_rng1 rfl T.b_range (ev_ix (EV.eb (vv 0)) (EV.eb (ev_int)) (fun _ _ => rfl)))) (blk_by (by show blkB ["web", "found", "a", "b", "place", "some"] (defScope (top 37)) _ _ = true; decide +kernel)) (by decide) (by decide) (fun sc1 Hc1 Cc1 lc1 fc1 => pgn 4 (kx.inn _ sc1 Hc1 Cc1 lc1 fc1).hN) )
      (svs_cons (sv_for (m := [.fz, .own2, .fz, .fz, .fz, .fz]) (t := (.tup [2, 3])) (passes_of rfl) kx.hc (if_any (ev_ix (EV.eb (vv 0)) (EV.eb (ev_int)) (fun _ _ => rfl))) (by decide) (pg_tup kx.hc (pgs_cons (pgn 2 kx.hN) (pgs_cons (pgn 3 kx.hN) (pgs_nil)))) (svs_cons (sv_app2 rfl (vv 2) (vv 3) (pv 1) (fun _ _ => rfl))
      (svs_one (sv_app2 rfl (vv 3) (vv 2) (pv 1) (fun _ _ => rfl)))))
      (svs_freeze2 (j := 1) rfl (svs_one (sv_ret (EO.ev (eo_lc (t := (.nm 5)) (own := [("some", 5)]) kx.hc kx.hN (IFo.c (if_any (vv 1))) (blk_by (by show blkB ["web", "found", "a", "b", "place", "some"] (defScope (top 37)) _ _ = true; decide +kernel)) (by decide) (by decide) (fun sc2 Hc2 Cc2 lc2 fc2 => pgn 5 (kx.inn _ sc2 Hc2 Cc2 lc2 fc2).hN) (fun sc2 Hc2 Cc2 lc2 fc2 => EO.ev (eo_sort (kx.inn _ sc2 Hc2 Cc2 lc2 fc2).ux.u65 rfl T.b_sorted (EV.eb (vv 5))))))))))
/-! _law_stroked -/
def b__law_stroked : DS := dSeq (dTupSet [3, 4, 5] (dVar 0)) (dRet (dTup (dCons (dVar 3) (dCons (dVar 4) (dCons (d2 fAdd (d2 fAdd (dSl fSl (dVar 5) (pNo) (pSm (dVar 1))) (dTup (dCons (dVar 2) (dNil)))) (dSl fSl (dVar 5) (pSm (d2 fAdd (dVar 1) (dC (.int 1)))) (pNo))) (dNil))))))
def d__law_stroked : List PyData → Store → R PyData := dFn false 6 b__law_stroked
theorem ok__law_stroked : FnOk P w K mg base (L2.CX P w) 1 T.A__law_stroked T.D__law_stroked ["sheet", "place", "colour"] (spD K mg (gW T.tabs SA) [.fz, .fz, .fz] false d__law_stroked) := by
  refine fn_den (N := ["sheet", "place", "colour", "web", "k", "paint"]) (m1 := []) T.F__law_stroked sc__law_stroked rfl rfl (by decide) (fun cdv A outer s H E hr => ?_)
  have kx := kx_fn (g := gW T.tabs SA) (P := P) (w := w) (K := K) (mg := mg) (base := base) (N := ["sheet", "place", "colour", "web", "k", "paint"]) (qual := "_law_stroked") (st := top 41) (f := T.A__law_stroked) (cdv := cdv) (A := A) (outer := outer) (s := s) (H := H) (E := E) (k := 0) sc__law_stroked hr
  exact svs_cons (sv_tup (is := [3, 4, 5]) (vv 0) (by decide) (ps_asg we (pg_tup kx.hc (pgs_cons (pgn 3 kx.hN) (pgs_cons (pgn 4 kx.hN) (pgs_cons (pgn 5 kx.hN) (pgs_nil)))))))
      (svs_one (sv_ret (ev_tup (ea_cons (vv 3) (ea_cons (vv 4) (ea_cons (ev_add (EV.eb (ev_add (EV.eb (ev_sl (EV.eb (vv 5)) (ep_no) (ep_sm (vv 1)))) (EV.eb (ev_tup (ea_cons (vv 2) (ea_nil)))))) (EV.eb (ev_sl (EV.eb (vv 5)) (ep_sm (ev_add (EV.eb (vv 1)) (EV.eb (ev_int)))) (ep_no)))) (ea_nil)))))))
/-! _law_word -/
def bl__law_word (dl0 : Store → R PyData) : DS := dSeq (dSet 1 (dC (.str "let"))) (dSeq (dTryN xcs (dDrop ((fun _ S => dl0 S))) ((inS [], fun xc => dSet 1 (dXc (xc.fs.lookup ("most" : Str)))) :: (inS ["NoNumber", "NoPlace", "NoSheet"], fun xc => dSeq (dSet 3 (dLst (dCons (dXc (some (.bool (inS ["NoNumber"] xc.cls)))) (dCons (dXc (some (.bool (inS ["NoPlace"] xc.cls)))) (dCons (dXc (some (.bool (inS ["NoSheet"] xc.cls)))) (dNil)))))) (dSeq (dSet 4 (dLst (dCons (dC (.str "number")) (dCons (dC (.str "place")) (dCons (dC (.str "sheet")) (dNil)))))) (dSet 1 (dIfE (dTest (d2 fEq (dM2 fCount (dVar 3) (dC (.bool true))) (dC (.int 1)))) (d2 fIx (dVar 4) (dM2 fIndex (dVar 3) (dC (.bool true)))) (dC (.str "other")))))) :: [])) (dRet (dVar 1)))
theorem lm__law_word : ∀ cdv, LamFn P w K mg base (gW T.tabs SA) "_law_word" "call" ["call", "word", "e", "flags", "names"] (defScope (top 44)) T.A__law_word cdv (defBody (top 44)) bl__law_word := by
  intro cdv A stack s H l dl0 hr act
  have kx := kx_nx (g := (gW T.tabs SA).withL l) (P := P) (w := w) (K := K) (mg := mg) (base := base) (Ng := ["call", "word", "e", "flags", "names"]) (x := "_law_word") (st := top 44) (gA := T.A__law_word) (cdg := cdv) (A := A) (stack := stack) (s := s) (H := H) sc__law_word hr
  exact ⟨[], svs_cons (sv_set (i := 1) (ev_str) (by decide) (ps_set kx.hN rfl (Or.inl rfl) we))
      (svs_cons (sv_tryN (cs := xcs) (mh := [.lm, .fz, .fz, .fz, .fz]) (m' := [.lm, .fz, .un, .fz, .fz]) rfl rfl kx.hN kx.tk rfl (fun W pn xe ty1 py1 => svs_weakB (m1 := [.lm, .fz, .fz, .fz, .fz]) rfl (svs_one (sv_expr (act _ _ _ _ _ _ ty1 rfl)))) (.cons (i := 2) (sub := inS []) (m2 := [.lm, .fz, .ea, .fz, .fz]) rfl rfl ⟨rfl, by decide, Or.inl T.g_TooMany⟩ (by decide) T.exm_TooMany (fun a oe d pn xc E hz hf hE hcs => svs_one (sv_set (i := 1) (ev_fldK 2 (cs := xcs) T.exc T.nof_most hz hf hE hcs) (by decide) (ps_set kx.sx.hN rfl (Or.inl rfl) we))) rfl rfl (by decide) (.cons (i := 2) (sub := inS ["NoNumber", "NoPlace", "NoSheet"]) (m2 := [.lm, .fz, .ea, .fz, .fz]) rfl rfl ⟨rfl, by decide, Or.inl T.g_ColourError⟩ (by decide) T.exm_ColourError (fun a oe d pn xc E hz hf hE hcs => svs_cons (sv_set (i := 3) (EO.ev (eo_lst (ea_cons (ev_isK 2 (cs := xcs) T.exc T.kit_NoNumber hz hf hE hcs T.g_NoNumber T.b_isinstance) (ea_cons (ev_isK 2 (cs := xcs) T.exc T.kit_NoPlace hz hf hE hcs T.g_NoPlace T.b_isinstance) (ea_cons (ev_isK 2 (cs := xcs) T.exc T.kit_NoSheet hz hf hE hcs T.g_NoSheet T.b_isinstance) (ea_nil)))))) (by decide) (ps_set kx.sx.hN rfl (Or.inl rfl) we))
      (svs_cons (sv_set (i := 4) (EO.ev (eo_lst (ea_cons (ev_str) (ea_cons (ev_str) (ea_cons (ev_str) (ea_nil)))))) (by decide) (ps_set kx.sx.hN rfl (Or.inl rfl) we))
      (svs_one (sv_set (i := 1) (ev_if (t1 (rel_eq kx.sx.ux) (EV.eb (ev_count kx.sx.ux.u65 (EV.eb (vv 3)) (ev_bl))) (EV.eb (ev_int))) (ev_ix (EV.eb (vv 4)) (EV.eb (ev_index kx.sx.ux.u65 (EV.eb (vv 3)) (ev_bl))) (fun _ _ => rfl)) (ev_str)) (by decide) (ps_set kx.sx.hN rfl (Or.inl rfl) we))))) rfl rfl (by decide) (.nil))) rfl)
      (svs_one (sv_ret (vv 1))))⟩
/-! is_within -/
def b_is_within : DS := dRet (dAndV (dCall d_is_integer (dCons (dVar 0) (dNil))) (dChain fLe fLe (dVar 1) (dVar 0) (dVar 2)))
def d_is_within : List PyData → Store → R PyData := dFn false 3 b_is_within
theorem ok_is_within : FnOk P w K mg base (L2.CX P w) 2 T.A_is_within T.D_is_within ["thing", "low", "high"] (spD K mg (gW T.tabs SA) [.fz, .fz, .fz] false d_is_within) := by
  refine fn_den (N := ["thing", "low", "high"]) (m1 := []) T.F_is_within sc_is_within rfl rfl (by decide) (fun cdv A outer s H E hr => ?_)
  have kx := kx_fn (g := gW T.tabs SA) (P := P) (w := w) (K := K) (mg := mg) (base := base) (N := ["thing", "low", "high"]) (qual := "is_within") (st := top 2) (f := T.A_is_within) (cdv := cdv) (A := A) (outer := outer) (s := s) (H := H) (E := E) (k := 1) sc_is_within hr
  exact svs_one (sv_ret (ev_andV (ev_call (ok_is_integer T tb _) (kx.hr.mono (by decide)) rfl (at_mk T.F_is_integer T.G_is_integer T.B_is_integer) kx.tk (em_val (vv 0) (em_nil))) (ev_one (c2 (rel_le kx.ux) (rel_le kx.ux) (EV.eb (vv 1)) (EV.eb (vv 0)) (EV.eb (vv 2))))))
/-! strokes_of -/
def b_strokes_of : DS := dSeq (dSet 3 (dLst (dNil))) (dSeq (dFor (dIt (fEnum 0) (dVar 2)) (.tup [4, 5]) (dIfS (dTest (d2 (fIsN false) (dVar 5) (dC .none))) (dSeq (dSet 6 (dComp (dIt seqD (dCall d_tied_to (dCons (dVar 0) (dCons (dVar 4) (dNil))))) (.nm 7) (dYes) (d2 fIx (dVar 2) (dVar 7)))) (dExt 3 (dComp (dRng1 (dVar 1)) (.nm 8) (dTest (d2 (fIn true) (dVar 8) (dVar 6))) (dTup (dCons (dVar 4) (dCons (dVar 8) (dNil))))))) (dNx))) (dRet (dVar 3)))
def d_strokes_of : List PyData → Store → R PyData := dFn false 9 b_strokes_of
theorem ok_strokes_of : FnOk P w K mg base (L2.CX P w) 2 T.A_strokes_of T.D_strokes_of ["web", "k", "paint"] (spD K mg (gW T.tabs SA) [.fz, .fz, .fz] false d_strokes_of) := by
  refine fn_den (N := ["web", "k", "paint", "found", "place", "colour", "shut", "other", "one"]) (m1 := []) T.F_strokes_of sc_strokes_of rfl rfl (by decide) (fun cdv A outer s H E hr => ?_)
  have kx := kx_fn (g := gW T.tabs SA) (P := P) (w := w) (K := K) (mg := mg) (base := base) (N := ["web", "k", "paint", "found", "place", "colour", "shut", "other", "one"]) (qual := "strokes_of") (st := top 21) (f := T.A_strokes_of) (cdv := cdv) (A := A) (outer := outer) (s := s) (H := H) (E := E) (k := 1) sc_strokes_of hr
  exact svs_cons (sv_seto (i := 3) (eo_lst (ea_nil)) (by decide) (ps_set kx.hN rfl (Or.inl rfl) we))
      (svs_cons (sv_for (m := [.fz, .fz, .fz, .own, .fz, .fz, .fz, .fz, .fz]) (t := (.tup [4, 5])) (passes_of rfl) kx.hc (if_enum rfl T.b_enumerate (vv 2)) (by decide) (pg_tup kx.hc (pgs_cons (pgn 4 kx.hN) (pgs_cons (pgn 5 kx.hN) (pgs_nil)))) (svs_one (sv_if (m1 := [.fz, .fz, .fz, .own, .fz, .fz, .fz, .fz, .fz]) (t1 (rel_is kx.ux) (EV.eb (vv 5)) (EV.eb (ev_non))) (svs_cons (sv_set (i := 6) (EO.ev (eo_lc (t := (.nm 7)) (own := [("other", 7)]) kx.hc kx.hN (IFo.c (if_any (ev_call (ok_tied_to T tb _) (kx.hr.mono (by decide)) rfl (at_mk T.F_tied_to T.G_tied_to T.B_tied_to) kx.tk (em_val (vv 0) (em_val (vv 4) (em_nil)))))) (blk_by (by show blkB ["web", "k", "paint", "found", "place", "colour", "shut", "other", "one"] (defScope (top 21)) _ _ = true; decide +kernel)) (by decide) (by decide) (fun sc1 Hc1 Cc1 lc1 fc1 => pgn 7 (kx.inn _ sc1 Hc1 Cc1 lc1 fc1).hN) (fun sc1 Hc1 Cc1 lc1 fc1 => ev_ix (EV.eb (vv 2)) (EV.eb (vv 7)) (fun _ _ => rfl)))) (by decide) (ps_set kx.hN rfl (Or.inr rfl) we))
      (svs_one (sv_extend rfl (EO.eb (eo_lcIf (t := (.nm 8)) (own := [("one", 8)]) kx.hc kx.hN (IFo.c (if_rng1 rfl T.b_range (vv 1))) (blk_by (by show blkB ["web", "k", "paint", "found", "place", "colour", "shut", "other", "one"] (defScope (top 21)) _ _ = true; decide +kernel)) (by decide) (by decide) (fun sc2 Hc2 Cc2 lc2 fc2 => pgn 8 (kx.inn _ sc2 Hc2 Cc2 lc2 fc2).hN) (fun sc2 Hc2 Cc2 lc2 fc2 => t1 (rel_notIn (kx.inn _ sc2 Hc2 Cc2 lc2 fc2).ux) (EV.eb (vv 8)) (EV.eb (vv 6))) (fun sc2 Hc2 Cc2 lc2 fc2 => ev_tup (ea_cons (vv 4) (ea_cons (vv 8) (ea_nil)))))) (pv 3)))) (svs_nil))))
      (svs_freeze (j := 3) rfl (svs_one (sv_ret (vv 3)))))
/-! _law_any -/
def b__law_any : DS := dRet (d2 fIx (dVar 1) (dCall d__law_draw (dCons dSt (dCons (d1 fLen (dVar 1)) (dNil)))))
def d__law_any : List PyData → Store → R PyData := dFn false 2 b__law_any
theorem ok__law_any : FnOk P w K mg base (L2.CX P w) 2 T.A__law_any T.D__law_any ["hand", "some"] (spD K mg (gW T.tabs SA) [.st 0, .fz] false d__law_any) := by
  refine fn_den (N := ["hand", "some"]) (m1 := []) T.F__law_any sc__law_any rfl rfl (by decide) (fun cdv A outer s H E hr => ?_)
  have kx := kx_fn (g := gW T.tabs SA) (P := P) (w := w) (K := K) (mg := mg) (base := base) (N := ["hand", "some"]) (qual := "_law_any") (st := top 35) (f := T.A__law_any) (cdv := cdv) (A := A) (outer := outer) (s := s) (H := H) (E := E) (k := 1) sc__law_any hr
  exact svs_one (sv_ret (ev_ix (EV.eb (vv 1)) (EV.eb (ev_call (ok__law_draw T tb _) (kx.hr.mono (by decide)) rfl (at_mk T.F__law_draw T.G__law_draw T.B__law_draw) kx.tk (em_st (k := 0) (i := 0) rfl (pv 0) (em_val (ev_len rfl T.b_len (EV.eb (vv 1))) (em_nil))))) (fun _ _ => rfl)))
/-! _law_web -/
def b__law_web : DS := dSeq (dPar [2, 3] (dCons (d2 fAdd (dC (.int 1)) (dCall d__law_draw (dCons dSt (dCons (dVar 1) (dNil))))) (dCons (d2 fAdd (dC (.int 1)) (dCall d__law_draw (dCons dSt (dCons (dC (.int 3)) (dNil))))) (dNil)))) (dSeq (dSet 4 (dLst (dNil))) (dSeq (dFor (dRng1 (dVar 2)) (.nm 5) (dSet 4 (d2 fAddL (dVar 4) (dComp (dRng2 (d2 fAdd (dVar 5) (dC (.int 1))) (dVar 2)) (.nm 6) (dTest (d2 fLt (dCall d__law_draw (dCons dSt (dCons (dC (.int 4)) (dNil)))) (dVar 3))) (dTup (dCons (dVar 5) (dCons (dVar 6) (dNil)))))))) (dRet (dTup (dCons (dVar 2) (dCons (d1 fTuple (dVar 4)) (dNil)))))))
def d__law_web : List PyData → Store → R PyData := dFn false 7 b__law_web
theorem ok__law_web : FnOk P w K mg base (L2.CX P w) 2 T.A__law_web T.D__law_web ["hand", "most"] (spD K mg (gW T.tabs SA) [.st 0, .fz] false d__law_web) := by
  refine fn_den (N := ["hand", "most", "n", "share", "ties", "a", "b"]) (m1 := []) T.F__law_web sc__law_web rfl rfl (by decide) (fun cdv A outer s H E hr => ?_)
  have kx := kx_fn (g := gW T.tabs SA) (P := P) (w := w) (K := K) (mg := mg) (base := base) (N := ["hand", "most", "n", "share", "ties", "a", "b"]) (qual := "_law_web") (st := top 36) (f := T.A__law_web) (cdv := cdv) (A := A) (outer := outer) (s := s) (H := H) (E := E) (k := 1) sc__law_web hr
  exact svs_cons (sv_parT (is := [2, 3]) (eq_val (ev_add (EV.eb (ev_int)) (EV.eb (ev_call (ok__law_draw T tb _) (kx.hr.mono (by decide)) rfl (at_mk T.F__law_draw T.G__law_draw T.B__law_draw) kx.tk (em_st (k := 0) (i := 0) rfl (pv 0) (em_val (vv 1) (em_nil)))))) (eq_val (ev_add (EV.eb (ev_int)) (EV.eb (ev_call (ok__law_draw T tb _) (kx.hr.mono (by decide)) rfl (at_mk T.F__law_draw T.G__law_draw T.B__law_draw) kx.tk (em_st (k := 0) (i := 0) rfl (pv 0) (em_val (ev_int) (em_nil)))))) (eq_nil))) (by decide) rfl (by decide) (fun ta h => ps_asg (pe_tup h) (pg_tup kx.hc (pgs_cons (pgn 2 kx.hN) (pgs_cons (pgn 3 kx.hN) (pgs_nil))))))
      (svs_cons (sv_set (i := 4) (EO.ev (eo_lst (ea_nil))) (by decide) (ps_set kx.hN rfl (Or.inl rfl) we))
      (svs_cons (sv_for (m := [.st 0, .fz, .fz, .fz, .fz, .fz, .fz]) (t := (.nm 5)) (passes_of rfl) kx.hc (if_rng1 rfl T.b_range (vv 2)) (by decide) (pgn 5 kx.hN) (svs_one (sv_set (i := 4) (EO.ev (eo_add (EV.eb (vv 4)) (EO.eb (eo_lcIf (t := (.nm 6)) (own := [("b", 6)]) kx.hc kx.hN (IFo.c (if_rng2 rfl T.b_range (ev_add (EV.eb (vv 5)) (EV.eb (ev_int))) (vv 2))) (blk_by (by show blkB ["hand", "most", "n", "share", "ties", "a", "b"] (defScope (top 36)) _ _ = true; decide +kernel)) (by decide) (by decide) (fun sc1 Hc1 Cc1 lc1 fc1 => pgn 6 (kx.inn _ sc1 Hc1 Cc1 lc1 fc1).hN) (fun sc1 Hc1 Cc1 lc1 fc1 => t1 (rel_lt (kx.inn _ sc1 Hc1 Cc1 lc1 fc1).ux) (EV.eb (ev_call (ok__law_draw T tb _) ((kx.inn _ sc1 Hc1 Cc1 lc1 fc1).hr.mono (by decide)) rfl (at_mk T.F__law_draw T.G__law_draw T.B__law_draw) (kx.inn _ sc1 Hc1 Cc1 lc1 fc1).tk (em_st (k := 0) (i := 0) rfl (pv 0) (em_val (ev_int) (em_nil))))) (EV.eb (vv 3))) (fun sc1 Hc1 Cc1 lc1 fc1 => ev_tup (ea_cons (vv 5) (ea_cons (vv 6) (ea_nil)))))))) (by decide) (ps_set kx.hN rfl (Or.inl rfl) we))))
      (svs_one (sv_ret (ev_tup (ea_cons (vv 2) (ea_cons (ev_tuple kx.hc rfl T.b_tuple (EV.eb (vv 4))) (ea_nil))))))))
/-! _law_paintings -/
def b__law_paintings : DS := dSeq (dPar [2, 3] (dCons (dCall d__law_near (dCons (dVar 0) (dNil))) (dCons (dLst (dCons (dTup (dNil)) (dNil))) (dNil)))) (dSeq (dFor (dRng1 (d2 fIx (dVar 0) (dC (.int 0)))) (.nm 4) (dSeq (dSet 5 (dLst (dNil))) (dSeq (dFor (dIt seqD (dVar 3)) (.nm 6) (dSeq (dSet 7 (dComp (dIt seqD (d2 fIx (dVar 2) (dVar 4))) (.nm 8) (dTest (d2 fLt (dVar 8) (dVar 4))) (d2 fIx (dVar 6) (dVar 8)))) (dSet 5 (d2 fAddL (dVar 5) (dComp (dRng1 (dVar 1)) (.nm 9) (dTest (d2 (fIn true) (dVar 9) (dVar 7))) (d2 fAdd (dVar 6) (dTup (dCons (dVar 9) (dNil))))))))) (dSet 3 (dVar 5))))) (dRet (dVar 3)))
def d__law_paintings : List PyData → Store → R PyData := dFn false 10 b__law_paintings
theorem ok__law_paintings : FnOk P w K mg base (L2.CX P w) 2 T.A__law_paintings T.D__law_paintings ["web", "k"] (spD K mg (gW T.tabs SA) [.fz, .fz] false d__law_paintings) := by
  refine fn_den (N := ["web", "k", "near", "found", "place", "longer", "row", "used", "other", "colour"]) (m1 := []) T.F__law_paintings sc__law_paintings rfl rfl (by decide) (fun cdv A outer s H E hr => ?_)
  have kx := kx_fn (g := gW T.tabs SA) (P := P) (w := w) (K := K) (mg := mg) (base := base) (N := ["web", "k", "near", "found", "place", "longer", "row", "used", "other", "colour"]) (qual := "_law_paintings") (st := top 38) (f := T.A__law_paintings) (cdv := cdv) (A := A) (outer := outer) (s := s) (H := H) (E := E) (k := 1) sc__law_paintings hr
  exact svs_cons (sv_par2 (i := 2) (j := 3) (eq_val (ev_call (ok__law_near T tb _) (kx.hr.mono (by decide)) rfl (at_mk T.F__law_near T.G__law_near T.B__law_near) kx.tk (em_val (vv 0) (em_nil))) (eq_val (EO.ev (eo_lst (ea_cons (ev_tup (ea_nil)) (ea_nil)))) (eq_nil))) (by decide) (fun ta h => ps_par rfl kx.hN rfl rfl (by decide) rfl rfl h rfl))
      (svs_cons (sv_for (m := [.fz, .fz, .fz, .fz, .fz, .fz, .fz, .fz, .fz, .fz]) (t := (.nm 4)) (passes_of rfl) kx.hc (if_rng1 rfl T.b_range (ev_ix (EV.eb (vv 0)) (EV.eb (ev_int)) (fun _ _ => rfl))) (by decide) (pgn 4 kx.hN) (svs_cons (sv_set (i := 5) (EO.ev (eo_lst (ea_nil))) (by decide) (ps_set kx.hN rfl (Or.inl rfl) we))
      (svs_cons (sv_for (m := [.fz, .fz, .fz, .fz, .fz, .fz, .fz, .fz, .fz, .fz]) (t := (.nm 6)) (passes_of rfl) kx.hc (if_any (vv 3)) (by decide) (pgn 6 kx.hN) (svs_cons (sv_set (i := 7) (EO.ev (eo_lcIf (t := (.nm 8)) (own := [("other", 8)]) kx.hc kx.hN (IFo.c (if_any (ev_ix (EV.eb (vv 2)) (EV.eb (vv 4)) (fun _ _ => rfl)))) (blk_by (by show blkB ["web", "k", "near", "found", "place", "longer", "row", "used", "other", "colour"] (defScope (top 38)) _ _ = true; decide +kernel)) (by decide) (by decide) (fun sc1 Hc1 Cc1 lc1 fc1 => pgn 8 (kx.inn _ sc1 Hc1 Cc1 lc1 fc1).hN) (fun sc1 Hc1 Cc1 lc1 fc1 => t1 (rel_lt (kx.inn _ sc1 Hc1 Cc1 lc1 fc1).ux) (EV.eb (vv 8)) (EV.eb (vv 4))) (fun sc1 Hc1 Cc1 lc1 fc1 => ev_ix (EV.eb (vv 6)) (EV.eb (vv 8)) (fun _ _ => rfl)))) (by decide) (ps_set kx.hN rfl (Or.inr rfl) we))
      (svs_one (sv_set (i := 5) (EO.ev (eo_add (EV.eb (vv 5)) (EO.eb (eo_lcIf (t := (.nm 9)) (own := [("colour", 9)]) kx.hc kx.hN (IFo.c (if_rng1 rfl T.b_range (vv 1))) (blk_by (by show blkB ["web", "k", "near", "found", "place", "longer", "row", "used", "other", "colour"] (defScope (top 38)) _ _ = true; decide +kernel)) (by decide) (by decide) (fun sc2 Hc2 Cc2 lc2 fc2 => pgn 9 (kx.inn _ sc2 Hc2 Cc2 lc2 fc2).hN) (fun sc2 Hc2 Cc2 lc2 fc2 => t1 (rel_notIn (kx.inn _ sc2 Hc2 Cc2 lc2 fc2).ux) (EV.eb (vv 9)) (EV.eb (vv 7))) (fun sc2 Hc2 Cc2 lc2 fc2 => ev_add (EV.eb (vv 6)) (EV.eb (ev_tup (ea_cons (vv 9) (ea_nil))))))))) (by decide) (ps_set kx.hN rfl (Or.inl rfl) we)))))
      (svs_one (sv_set (i := 3) (vv 5) (by decide) (ps_set kx.hN rfl (Or.inl rfl) we))))))
      (svs_one (sv_ret (vv 3))))
/-! _law_strokes -/
def b__law_strokes : DS := dSeq (dTupSet [1, 2, 3] (dVar 0)) (dSeq (dPar [4, 5] (dCons (dCall d__law_near (dCons (dVar 1) (dNil))) (dCons (dLst (dNil)) (dNil)))) (dSeq (dFor (dRng1 (d2 fIx (dVar 1) (dC (.int 0)))) (.nm 6) (dIfS (dTest (d2 (fIsN false) (d2 fIx (dVar 3) (dVar 6)) (dC .none))) (dSeq (dSet 7 (dComp (dIt seqD (d2 fIx (dVar 4) (dVar 6))) (.nm 8) (dYes) (d2 fIx (dVar 3) (dVar 8)))) (dSet 5 (d2 fAddL (dVar 5) (dComp (dRng1 (dVar 2)) (.nm 9) (dTest (d2 (fIn true) (dVar 9) (dVar 7))) (dTup (dCons (dVar 6) (dCons (dVar 9) (dNil)))))))) (dNx))) (dRet (dVar 5))))
def d__law_strokes : List PyData → Store → R PyData := dFn false 10 b__law_strokes
theorem ok__law_strokes : FnOk P w K mg base (L2.CX P w) 2 T.A__law_strokes T.D__law_strokes ["sheet"] (spD K mg (gW T.tabs SA) [.fz] false d__law_strokes) := by
  refine fn_den (N := ["sheet", "web", "k", "paint", "near", "found", "place", "used", "other", "colour"]) (m1 := []) T.F__law_strokes sc__law_strokes rfl rfl (by decide) (fun cdv A outer s H E hr => ?_)
  have kx := kx_fn (g := gW T.tabs SA) (P := P) (w := w) (K := K) (mg := mg) (base := base) (N := ["sheet", "web", "k", "paint", "near", "found", "place", "used", "other", "colour"]) (qual := "_law_strokes") (st := top 40) (f := T.A__law_strokes) (cdv := cdv) (A := A) (outer := outer) (s := s) (H := H) (E := E) (k := 1) sc__law_strokes hr
  exact svs_cons (sv_tup (is := [1, 2, 3]) (vv 0) (by decide) (ps_asg we (pg_tup kx.hc (pgs_cons (pgn 1 kx.hN) (pgs_cons (pgn 2 kx.hN) (pgs_cons (pgn 3 kx.hN) (pgs_nil)))))))
      (svs_cons (sv_par2 (i := 4) (j := 5) (eq_val (ev_call (ok__law_near T tb _) (kx.hr.mono (by decide)) rfl (at_mk T.F__law_near T.G__law_near T.B__law_near) kx.tk (em_val (vv 1) (em_nil))) (eq_val (EO.ev (eo_lst (ea_nil))) (eq_nil))) (by decide) (fun ta h => ps_par rfl kx.hN rfl rfl (by decide) rfl rfl h rfl))
      (svs_cons (sv_for (m := [.fz, .fz, .fz, .fz, .fz, .fz, .fz, .fz, .fz, .fz]) (t := (.nm 6)) (passes_of rfl) kx.hc (if_rng1 rfl T.b_range (ev_ix (EV.eb (vv 1)) (EV.eb (ev_int)) (fun _ _ => rfl))) (by decide) (pgn 6 kx.hN) (svs_one (sv_if (m1 := [.fz, .fz, .fz, .fz, .fz, .fz, .fz, .fz, .fz, .fz]) (t1 (rel_is kx.ux) (EV.eb (ev_ix (EV.eb (vv 3)) (EV.eb (vv 6)) (fun _ _ => rfl))) (EV.eb (ev_non))) (svs_cons (sv_set (i := 7) (EO.ev (eo_lc (t := (.nm 8)) (own := [("other", 8)]) kx.hc kx.hN (IFo.c (if_any (ev_ix (EV.eb (vv 4)) (EV.eb (vv 6)) (fun _ _ => rfl)))) (blk_by (by show blkB ["sheet", "web", "k", "paint", "near", "found", "place", "used", "other", "colour"] (defScope (top 40)) _ _ = true; decide +kernel)) (by decide) (by decide) (fun sc1 Hc1 Cc1 lc1 fc1 => pgn 8 (kx.inn _ sc1 Hc1 Cc1 lc1 fc1).hN) (fun sc1 Hc1 Cc1 lc1 fc1 => ev_ix (EV.eb (vv 3)) (EV.eb (vv 8)) (fun _ _ => rfl)))) (by decide) (ps_set kx.hN rfl (Or.inr rfl) we))
      (svs_one (sv_set (i := 5) (EO.ev (eo_add (EV.eb (vv 5)) (EO.eb (eo_lcIf (t := (.nm 9)) (own := [("colour", 9)]) kx.hc kx.hN (IFo.c (if_rng1 rfl T.b_range (vv 2))) (blk_by (by show blkB ["sheet", "web", "k", "paint", "near", "found", "place", "used", "other", "colour"] (defScope (top 40)) _ _ = true; decide +kernel)) (by decide) (by decide) (fun sc2 Hc2 Cc2 lc2 fc2 => pgn 9 (kx.inn _ sc2 Hc2 Cc2 lc2 fc2).hN) (fun sc2 Hc2 Cc2 lc2 fc2 => t1 (rel_notIn (kx.inn _ sc2 Hc2 Cc2 lc2 fc2).ux) (EV.eb (vv 9)) (EV.eb (vv 7))) (fun sc2 Hc2 Cc2 lc2 fc2 => ev_tup (ea_cons (vv 6) (ea_cons (vv 9) (ea_nil)))))))) (by decide) (ps_set kx.hN rfl (Or.inl rfl) we)))) (svs_nil))))
      (svs_one (sv_ret (vv 5)))))
/-! is_lot -/
def b_is_lot : DS := dSeq (dIfS (dOr (dNot (dTest (d1 (fun d => some (.bool (isT "tuple" d))) (dVar 0)))) (dNot (dTest (d1 (fBs fun bs => bs.all _root_.id) (dComp (dIt seqD (dVar 0)) (.nm 2) (dYes) (dCall d_is_within (dCons (dVar 2) (dCons (dC (.int 0)) (dCons (d2 (fI (fun _ _ => true) fun i j => i - j) (dVar 1) (dC (.int 1))) (dNil)))))))))) (dRet (dC (.bool false))) (dNx)) (dRet (d1 (fBs fun bs => bs.all _root_.id) (dComp (dIt2 fZip (dVar 0) (dSl fSl (dVar 0) (pSm (dC (.int 1))) (pNo))) (.tup [2, 3]) (dYes) (d2 fLt (dVar 2) (dVar 3)))))
def d_is_lot : List PyData → Store → R PyData := dFn false 4 b_is_lot
theorem ok_is_lot : FnOk P w K mg base (L2.CX P w) 3 T.A_is_lot T.D_is_lot ["thing", "many"] (spD K mg (gW T.tabs SA) [.fz, .fz] false d_is_lot) := by
  refine fn_den (N := ["thing", "many", "one", "other"]) (m1 := []) T.F_is_lot sc_is_lot rfl rfl (by decide) (fun cdv A outer s H E hr => ?_)
  have kx := kx_fn (g := gW T.tabs SA) (P := P) (w := w) (K := K) (mg := mg) (base := base) (N := ["thing", "many", "one", "other"]) (qual := "is_lot") (st := top 4) (f := T.A_is_lot) (cdv := cdv) (A := A) (outer := outer) (s := s) (H := H) (E := E) (k := 2) sc_is_lot hr
  exact svs_cons (sv_if (m1 := [.fz, .fz, .fz, .fz]) (et_w (ew_or (et_not (et_val (ev_isi isT_tuple rfl rfl T.b_isinstance rfl T.b_tuple (vv 0)))) (ew_or1 (et_not (et_val (ev_all kx.hc rfl T.b_all (EO.eb (eo_lc (t := (.nm 2)) (own := [("one", 2)]) kx.hc kx.hN (IFo.c (if_any (vv 0))) (blk_by (by show blkB ["thing", "many", "one", "other"] (defScope (top 4)) _ _ = true; decide +kernel)) (by decide) (by decide) (fun sc1 Hc1 Cc1 lc1 fc1 => pgn 2 (kx.inn _ sc1 Hc1 Cc1 lc1 fc1).hN) (fun sc1 Hc1 Cc1 lc1 fc1 => ev_call (ok_is_within T tb _) ((kx.inn _ sc1 Hc1 Cc1 lc1 fc1).hr.mono (by decide)) rfl (at_mk T.F_is_within T.G_is_within T.B_is_within) (kx.inn _ sc1 Hc1 Cc1 lc1 fc1).tk (em_val (vv 2) (em_val (ev_int) (em_val (ev_sub (EV.eb (vv 1)) (EV.eb (ev_int))) (em_nil))))))))))))) (svs_one (sv_ret (ev_bl))) (svs_nil))
      (svs_one (sv_ret (ev_all kx.hc rfl T.b_all (EO.eb (eo_lc (t := (.tup [2, 3])) (own := [("one", 2), ("other", 3)]) kx.hc kx.hN (IFo.c (if_zip rfl T.b_zip (vv 0) (ev_sl (EV.eb (vv 0)) (ep_sm (ev_int)) (ep_no)))) (blk_by (by show blkB ["thing", "many", "one", "other"] (defScope (top 4)) _ _ = true; decide +kernel)) (by decide) (by decide) (fun sc2 Hc2 Cc2 lc2 fc2 => pg_tup (kx.inn _ sc2 Hc2 Cc2 lc2 fc2).hc (pgs_cons (pgn 2 (kx.inn _ sc2 Hc2 Cc2 lc2 fc2).hN) (pgs_cons (pgn 3 (kx.inn _ sc2 Hc2 Cc2 lc2 fc2).hN) (pgs_nil)))) (fun sc2 Hc2 Cc2 lc2 fc2 => c1 (rel_lt (kx.inn _ sc2 Hc2 Cc2 lc2 fc2).ux) (EV.eb (vv 2)) (EV.eb (vv 3))))))))
/-! filled -/
def b_filled : DS := dSeq (dPar [4, 5] (dCons (dLst (dNil)) (dCons (dLst (dCons (dVar 2) (dNil))) (dNil)))) (dSeq (dWhile fuel (dAnd (dTest (d2 fGt (d1 fLen (dVar 5)) (dC (.int 0)))) (dOr (dTest (d2 (fIsN false) (dVar 3) (dC .none))) (dTest (d2 fLt (d1 fLen (dVar 4)) (dVar 3))))) (dSeq (dPop (.nm 6) 5) (dSeq (dSet 7 (dComp (dIt (fEnum 0) (dVar 6)) (.tup [9, 10]) (dTest (d2 (fIsN false) (dVar 10) (dC .none))) (dVar 9))) (dIfS (dTest (d2 fEq (d1 fLen (dVar 7)) (dC (.int 0)))) (dApp 4 (dVar 6)) (dSeq (dSet 8 (dComp (dIt seqD (dCall d_strokes_of (dCons (dVar 0) (dCons (dVar 1) (dCons (dVar 6) (dNil)))))) (.nm 11) (dTest (d2 fEq (d2 fIx (dVar 11) (dC (.int 0))) (d2 fIx (dVar 7) (dC (.int 0))))) (dVar 11))) (dExt 5 (dComp (dIt seqD (d1 fRevA (dVar 8))) (.nm 11) (dYes) (dCall d_painted (dCons (dVar 6) (dCons (dVar 11) (dNil))))))))))) (dRet (dVar 4)))
def d_filled : List PyData → Store → R PyData := dFn false 12 b_filled
theorem ok_filled : FnOk P w K mg base (L2.CX P w) 3 T.A_filled T.D_filled ["web", "k", "paint", "most"] (spD K mg (gW T.tabs SA) [.fz, .fz, .fz, .fz] false d_filled) := by
  refine fn_den (N := ["web", "k", "paint", "most", "found", "waiting", "here", "left", "some", "place", "colour", "stroke"]) (m1 := []) T.F_filled sc_filled rfl rfl (by decide) (fun cdv A outer s H E hr => ?_)
  have kx := kx_fn (g := gW T.tabs SA) (P := P) (w := w) (K := K) (mg := mg) (base := base) (N := ["web", "k", "paint", "most", "found", "waiting", "here", "left", "some", "place", "colour", "stroke"]) (qual := "filled") (st := top 27) (f := T.A_filled) (cdv := cdv) (A := A) (outer := outer) (s := s) (H := H) (E := E) (k := 2) sc_filled hr
  exact svs_cons (sv_par2 (i := 4) (j := 5) (eq_own (eo_lst (ea_nil)) (eq_own (eo_lst (ea_cons (vv 2) (ea_nil))) (eq_nil))) (by decide) (fun ta h => ps_par rfl kx.hN rfl rfl (by decide) rfl rfl h rfl))
      (svs_cons (sv_while (m := [.fz, .fz, .fz, .fz, .own, .own, .fz, .fz, .fz, .fz, .fz, .fz]) (n := fuel) (passes_of rfl) (et_w (ew_and (t1 (rel_gt kx.ux) (EV.eb (ev_len rfl T.b_len (vo 5))) (EV.eb (ev_int))) (ew_and1 (et_w (ew_or (t1 (rel_is kx.ux) (EV.eb (vv 3)) (EV.eb (ev_non))) (ew_or1 (t1 (rel_lt kx.ux) (EV.eb (ev_len rfl T.b_len (vo 4))) (EV.eb (vv 3))))))))) (svs_cons (sv_pop (t := (.nm 6)) rfl (pv 5) (by decide) (fun te h => ps_asg h (pgn 6 kx.hN)))
      (svs_cons (sv_set (i := 7) (EO.ev (eo_lcIf (t := (.tup [9, 10])) (own := [("place", 9), ("colour", 10)]) kx.hc kx.hN (IFo.c (if_enum rfl T.b_enumerate (vv 6))) (blk_by (by show blkB ["web", "k", "paint", "most", "found", "waiting", "here", "left", "some", "place", "colour", "stroke"] (defScope (top 27)) _ _ = true; decide +kernel)) (by decide) (by decide) (fun sc1 Hc1 Cc1 lc1 fc1 => pg_tup (kx.inn _ sc1 Hc1 Cc1 lc1 fc1).hc (pgs_cons (pgn 9 (kx.inn _ sc1 Hc1 Cc1 lc1 fc1).hN) (pgs_cons (pgn 10 (kx.inn _ sc1 Hc1 Cc1 lc1 fc1).hN) (pgs_nil)))) (fun sc1 Hc1 Cc1 lc1 fc1 => t1 (rel_is (kx.inn _ sc1 Hc1 Cc1 lc1 fc1).ux) (EV.eb (vv 10)) (EV.eb (ev_non))) (fun sc1 Hc1 Cc1 lc1 fc1 => vv 9))) (by decide) (ps_set kx.hN rfl (Or.inr rfl) we))
      (svs_one (sv_if (m1 := [.fz, .fz, .fz, .fz, .own, .own, .fz, .fz, .fz, .fz, .fz, .fz]) (t1 (rel_eq kx.ux) (EV.eb (ev_len rfl T.b_len (EV.eb (vv 7)))) (EV.eb (ev_int))) (svs_one (sv_append rfl (vv 6) (pv 4))) (svs_cons (sv_lcIf (i := 8) (t := (.nm 11)) (own := [("stroke", 11)]) (by decide) rfl rfl rfl kx.hc kx.hN (IFo.c (if_any (ev_call (ok_strokes_of T tb _) (kx.hr.mono (by decide)) rfl (at_mk T.F_strokes_of T.G_strokes_of T.B_strokes_of) kx.tk (em_val (vv 0) (em_val (vv 1) (em_val (vv 6) (em_nil))))))) (blk_by (by show blkB ["web", "k", "paint", "most", "found", "waiting", "here", "left", "some", "place", "colour", "stroke"] (defScope (top 27)) _ _ = true; decide +kernel)) (by decide) (by decide) (fun sc2 Hc2 Cc2 lc2 fc2 => pgn 11 (kx.inn _ sc2 Hc2 Cc2 lc2 fc2).hN) (fun sc2 Hc2 Cc2 lc2 fc2 => t1 (rel_eq (kx.inn _ sc2 Hc2 Cc2 lc2 fc2).ux) (EV.eb (ev_ix (EV.eb (vv 11)) (EV.eb (ev_int)) (fun _ _ => rfl))) (EV.eb (ev_ix (EV.eb (vv 7)) (EV.eb (ev_int)) (fun _ _ => rfl)))) (fun sc2 Hc2 Cc2 lc2 fc2 => vv 11))
      (svs_freeze (j := 8) rfl (svs_one (sv_extend rfl (EO.eb (eo_lc (t := (.nm 11)) (own := [("stroke", 11)]) kx.hc kx.hN (IFo.c (if_any (ev_revA (vv 8)))) (blk_by (by show blkB ["web", "k", "paint", "most", "found", "waiting", "here", "left", "some", "place", "colour", "stroke"] (defScope (top 27)) _ _ = true; decide +kernel)) (by decide) (by decide) (fun sc3 Hc3 Cc3 lc3 fc3 => pgn 11 (kx.inn _ sc3 Hc3 Cc3 lc3 fc3).hN) (fun sc3 Hc3 Cc3 lc3 fc3 => ev_call (ok_painted T tb _) ((kx.inn _ sc3 Hc3 Cc3 lc3 fc3).hr.mono (by decide)) rfl (at_mk T.F_painted T.G_painted T.B_painted) (kx.inn _ sc3 Hc3 Cc3 lc3 fc3).tk (em_val (vv 6) (em_val (vv 11) (em_nil)))))) (pv 5))))))))))
      (svs_freeze (j := 4) rfl (svs_one (sv_ret (vv 4)))))
/-! _law_sheet -/
def b__law_sheet : DS := dSeq (dPar [2, 3] (dCons (dCall d__law_web (dCons dSt (dCons (dVar 1) (dNil)))) (dCons (d2 fAdd (dC (.int 1)) (dCall d__law_draw (dCons dSt (dCons (dC (.int 3)) (dNil))))) (dNil)))) (dSeq (dPar [4, 5] (dCons (dCall d__law_near (dCons (dVar 2) (dNil))) (dCons (dLst (dNil)) (dNil)))) (dSeq (dFor (dRng1 (d2 fIx (dVar 2) (dC (.int 0)))) (.nm 6) (dSeq (dSet 7 (dComp (dIt seqD (d2 fIx (dVar 4) (dVar 6))) (.nm 9) (dTest (d2 fLt (dVar 9) (dVar 6))) (d2 fIx (dVar 5) (dVar 9)))) (dSeq (dSet 8 (dComp (dRng1 (dVar 3)) (.nm 10) (dTest (d2 (fIn true) (dVar 10) (dVar 7))) (dVar 10))) (dApp 5 (dIfE (dAnd (dTest (d2 fNe (dVar 8) (dLst (dNil)))) (dTest (d2 fEq (dCall d__law_draw (dCons dSt (dCons (dC (.int 3)) (dNil)))) (dC (.int 0))))) (dCall d__law_any (dCons dSt (dCons (dVar 8) (dNil)))) (dC .none)))))) (dRet (dTup (dCons (dVar 2) (dCons (dVar 3) (dCons (d1 fTuple (dVar 5)) (dNil))))))))
def d__law_sheet : List PyData → Store → R PyData := dFn false 11 b__law_sheet
theorem ok__law_sheet : FnOk P w K mg base (L2.CX P w) 3 T.A__law_sheet T.D__law_sheet ["hand", "most"] (spD K mg (gW T.tabs SA) [.st 0, .fz] false d__law_sheet) := by
  refine fn_den (N := ["hand", "most", "web", "k", "near", "paint", "place", "used", "free", "other", "colour"]) (m1 := []) T.F__law_sheet sc__law_sheet rfl rfl (by decide) (fun cdv A outer s H E hr => ?_)
  have kx := kx_fn (g := gW T.tabs SA) (P := P) (w := w) (K := K) (mg := mg) (base := base) (N := ["hand", "most", "web", "k", "near", "paint", "place", "used", "free", "other", "colour"]) (qual := "_law_sheet") (st := top 39) (f := T.A__law_sheet) (cdv := cdv) (A := A) (outer := outer) (s := s) (H := H) (E := E) (k := 2) sc__law_sheet hr
  exact svs_cons (sv_par2 (i := 2) (j := 3) (eq_val (ev_call (ok__law_web T tb _) (kx.hr.mono (by decide)) rfl (at_mk T.F__law_web T.G__law_web T.B__law_web) kx.tk (em_st (k := 0) (i := 0) rfl (pv 0) (em_val (vv 1) (em_nil)))) (eq_val (ev_add (EV.eb (ev_int)) (EV.eb (ev_call (ok__law_draw T tb _) (kx.hr.mono (by decide)) rfl (at_mk T.F__law_draw T.G__law_draw T.B__law_draw) kx.tk (em_st (k := 0) (i := 0) rfl (pv 0) (em_val (ev_int) (em_nil)))))) (eq_nil))) (by decide) (fun ta h => ps_par rfl kx.hN rfl rfl (by decide) rfl rfl h rfl))
      (svs_cons (sv_parT (is := [4, 5]) (eq_val (ev_call (ok__law_near T tb _) (kx.hr.mono (by decide)) rfl (at_mk T.F__law_near T.G__law_near T.B__law_near) kx.tk (em_val (vv 2) (em_nil))) (eq_own (eo_lst (ea_nil)) (eq_nil))) (by decide) rfl (by decide) (fun ta h => ps_asg (pe_tup h) (pg_tup kx.hc (pgs_cons (pgn 4 kx.hN) (pgs_cons (pgn 5 kx.hN) (pgs_nil))))))
      (svs_cons (sv_for (m := [.st 0, .fz, .fz, .fz, .fz, .own, .fz, .fz, .fz, .fz, .fz]) (t := (.nm 6)) (passes_of rfl) kx.hc (if_rng1 rfl T.b_range (ev_ix (EV.eb (vv 2)) (EV.eb (ev_int)) (fun _ _ => rfl))) (by decide) (pgn 6 kx.hN) (svs_cons (sv_set (i := 7) (EO.ev (eo_lcIf (t := (.nm 9)) (own := [("other", 9)]) kx.hc kx.hN (IFo.c (if_any (ev_ix (EV.eb (vv 4)) (EV.eb (vv 6)) (fun _ _ => rfl)))) (blk_by (by show blkB ["hand", "most", "web", "k", "near", "paint", "place", "used", "free", "other", "colour"] (defScope (top 39)) _ _ = true; decide +kernel)) (by decide) (by decide) (fun sc1 Hc1 Cc1 lc1 fc1 => pgn 9 (kx.inn _ sc1 Hc1 Cc1 lc1 fc1).hN) (fun sc1 Hc1 Cc1 lc1 fc1 => t1 (rel_lt (kx.inn _ sc1 Hc1 Cc1 lc1 fc1).ux) (EV.eb (vv 9)) (EV.eb (vv 6))) (fun sc1 Hc1 Cc1 lc1 fc1 => ev_ix (vo 5) (EV.eb (vv 9)) (fun _ _ => rfl)))) (by decide) (ps_set kx.hN rfl (Or.inr rfl) we))
      (svs_cons (sv_lcIf (i := 8) (t := (.nm 10)) (own := [("colour", 10)]) (by decide) rfl rfl rfl kx.hc kx.hN (IFo.c (if_rng1 rfl T.b_range (vv 3))) (blk_by (by show blkB ["hand", "most", "web", "k", "near", "paint", "place", "used", "free", "other", "colour"] (defScope (top 39)) _ _ = true; decide +kernel)) (by decide) (by decide) (fun sc2 Hc2 Cc2 lc2 fc2 => pgn 10 (kx.inn _ sc2 Hc2 Cc2 lc2 fc2).hN) (fun sc2 Hc2 Cc2 lc2 fc2 => t1 (rel_notIn (kx.inn _ sc2 Hc2 Cc2 lc2 fc2).ux) (EV.eb (vv 10)) (EV.eb (vv 7))) (fun sc2 Hc2 Cc2 lc2 fc2 => vv 10))
      (svs_freeze (j := 8) rfl (svs_one (sv_append rfl (ev_if (et_w (ew_and (t1 (rel_ne kx.ux) (EV.eb (vv 8)) (EO.eb (eo_lst (ea_nil)))) (ew_and1 (t1 (rel_eq kx.ux) (EV.eb (ev_call (ok__law_draw T tb _) (kx.hr.mono (by decide)) rfl (at_mk T.F__law_draw T.G__law_draw T.B__law_draw) kx.tk (em_st (k := 0) (i := 0) rfl (pv 0) (em_val (ev_int) (em_nil))))) (EV.eb (ev_int)))))) (ev_call (ok__law_any T tb _) (kx.hr.mono (by decide)) rfl (at_mk T.F__law_any T.G__law_any T.B__law_any) kx.tk (em_st (k := 0) (i := 0) rfl (pv 0) (em_val (vv 8) (em_nil)))) (ev_non)) (pv 5)))))))
      (svs_one (sv_ret (ev_tup (ea_cons (vv 2) (ea_cons (vv 3) (ea_cons (ev_tuple kx.hc rfl T.b_tuple (vo 5)) (ea_nil)))))))))
/-! _law_no_sheet -/
def b__law_no_sheet : DS := dSeq (dSet 1 (dTup (dCons (dC (.int 2)) (dCons (dTup (dCons (dTup (dCons (dC (.int 0)) (dCons (dC (.int 1)) (dNil)))) (dNil))) (dNil))))) (dSeq (dSet 2 (dLst (dCons (dC .none) (dCons (dTup (dNil)) (dCons (dC (.int 0)) (dCons (dTup (dCons (dVar 1) (dCons (dC (.int 2)) (dNil)))) (dCons (dLst (dCons (dVar 1) (dCons (dC (.int 2)) (dCons (dTup (dCons (dC .none) (dCons (dC .none) (dNil)))) (dNil))))) (dCons (dTup (dCons (dVar 1) (dCons (dC (.int 0)) (dCons (dTup (dCons (dC .none) (dCons (dC .none) (dNil)))) (dNil))))) (dCons (dTup (dCons (dVar 1) (dCons (dC (.int 5)) (dCons (dTup (dCons (dC .none) (dCons (dC .none) (dNil)))) (dNil))))) (dNil)))))))))) (dSeq (dSet 2 (d2 fAddL (dVar 2) (dLst (dCons (dTup (dCons (dVar 1) (dCons (dC (.int 2)) (dCons (dTup (dCons (dC .none) (dNil))) (dNil))))) (dCons (dTup (dCons (dVar 1) (dCons (dC (.int 2)) (dCons (dTup (dCons (dC (.int 0)) (dCons (dC (.int 0)) (dNil)))) (dNil))))) (dCons (dTup (dCons (dVar 1) (dCons (dC (.int 2)) (dCons (dTup (dCons (dC (.int 2)) (dCons (dC .none) (dNil)))) (dNil))))) (dCons (dTup (dCons (dVar 1) (dCons (dC (.int 2)) (dCons (dLst (dCons (dC .none) (dCons (dC .none) (dNil)))) (dNil))))) (dNil)))))))) (dRet (dCall d__law_any (dCons dSt (dCons (d2 fAddL (dVar 2) (dLst (dCons (dTup (dCons (dTup (dCons (dC (.int 7)) (dCons (dTup (dNil)) (dNil)))) (dCons (dC (.int 2)) (dCons (d2 fTimes (dTup (dCons (dC .none) (dNil))) (dC (.int 7))) (dNil))))) (dCons (dC (.dict [])) (dNil))))) (dNil)))))))
def d__law_no_sheet : List PyData → Store → R PyData := dFn false 3 b__law_no_sheet
theorem ok__law_no_sheet : FnOk P w K mg base (L2.CX P w) 3 T.A__law_no_sheet T.D__law_no_sheet ["hand"] (spD K mg (gW T.tabs SA) [.st 0] false d__law_no_sheet) := by
  refine fn_den (N := ["hand", "web", "some"]) (m1 := []) T.F__law_no_sheet sc__law_no_sheet rfl rfl (by decide) (fun cdv A outer s H E hr => ?_)
  have kx := kx_fn (g := gW T.tabs SA) (P := P) (w := w) (K := K) (mg := mg) (base := base) (N := ["hand", "web", "some"]) (qual := "_law_no_sheet") (st := top 42) (f := T.A__law_no_sheet) (cdv := cdv) (A := A) (outer := outer) (s := s) (H := H) (E := E) (k := 2) sc__law_no_sheet hr
  exact svs_cons (sv_set (i := 1) (ev_tup (ea_cons (ev_int) (ea_cons (ev_tup (ea_cons (ev_tup (ea_cons (ev_int) (ea_cons (ev_int) (ea_nil)))) (ea_nil))) (ea_nil)))) (by decide) (ps_set kx.hN rfl (Or.inl rfl) we))
      (svs_cons (sv_set (i := 2) (EO.ev (eo_lst (ea_cons (ev_non) (ea_cons (ev_tup (ea_nil)) (ea_cons (ev_int) (ea_cons (ev_tup (ea_cons (vv 1) (ea_cons (ev_int) (ea_nil)))) (ea_cons (EO.ev (eo_lst (ea_cons (vv 1) (ea_cons (ev_int) (ea_cons (ev_tup (ea_cons (ev_non) (ea_cons (ev_non) (ea_nil)))) (ea_nil)))))) (ea_cons (ev_tup (ea_cons (vv 1) (ea_cons (ev_int) (ea_cons (ev_tup (ea_cons (ev_non) (ea_cons (ev_non) (ea_nil)))) (ea_nil))))) (ea_cons (ev_tup (ea_cons (vv 1) (ea_cons (ev_int) (ea_cons (ev_tup (ea_cons (ev_non) (ea_cons (ev_non) (ea_nil)))) (ea_nil))))) (ea_nil)))))))))) (by decide) (ps_set kx.hN rfl (Or.inl rfl) we))
      (svs_cons (sv_set (i := 2) (EO.ev (eo_add (EV.eb (vv 2)) (EO.eb (eo_lst (ea_cons (ev_tup (ea_cons (vv 1) (ea_cons (ev_int) (ea_cons (ev_tup (ea_cons (ev_non) (ea_nil))) (ea_nil))))) (ea_cons (ev_tup (ea_cons (vv 1) (ea_cons (ev_int) (ea_cons (ev_tup (ea_cons (ev_int) (ea_cons (ev_int) (ea_nil)))) (ea_nil))))) (ea_cons (ev_tup (ea_cons (vv 1) (ea_cons (ev_int) (ea_cons (ev_tup (ea_cons (ev_int) (ea_cons (ev_non) (ea_nil)))) (ea_nil))))) (ea_cons (ev_tup (ea_cons (vv 1) (ea_cons (ev_int) (ea_cons (EO.ev (eo_lst (ea_cons (ev_non) (ea_cons (ev_non) (ea_nil))))) (ea_nil))))) (ea_nil))))))))) (by decide) (ps_set kx.hN rfl (Or.inl rfl) we))
      (svs_one (sv_ret (ev_call (ok__law_any T tb _) (kx.hr.mono (by decide)) rfl (at_mk T.F__law_any T.G__law_any T.B__law_any) kx.tk (em_st (k := 0) (i := 0) rfl (pv 0) (em_val (EO.ev (eo_add (EV.eb (vv 2)) (EO.eb (eo_lst (ea_cons (ev_tup (ea_cons (ev_tup (ea_cons (ev_int) (ea_cons (ev_tup (ea_nil)) (ea_nil)))) (ea_cons (ev_int) (ea_cons (ev_times (EV.eb (ev_tup (ea_cons (ev_non) (ea_nil)))) (EV.eb (ev_int))) (ea_nil))))) (ea_cons (EO.ev (eo_dnew)) (ea_nil))))))) (em_nil))))))))
/-! _law_fillings -/
def b__law_fillings : DS := dSeq (dTupSet [1, 2, 3] (dVar 0)) (dSeq (dSet 4 (dLst (dNil))) (dSeq (dFor (dIt seqD (dCall d__law_paintings (dCons (dVar 1) (dCons (dVar 2) (dNil))))) (.nm 5) (dIfS (dTest (d1 (fBs fun bs => bs.all _root_.id) (dComp (dIt2 fZip (dVar 3) (dVar 5)) (.tup [6, 7]) (dYes) (dOrV (d2 (fIsN false) (dVar 6) (dC .none)) (d2 fEq (dVar 6) (dVar 7)))))) (dApp 4 (dVar 5)) (dNx))) (dRet (dVar 4))))
def d__law_fillings : List PyData → Store → R PyData := dFn false 8 b__law_fillings
theorem ok__law_fillings : FnOk P w K mg base (L2.CX P w) 3 T.A__law_fillings T.D__law_fillings ["sheet"] (spD K mg (gW T.tabs SA) [.fz] false d__law_fillings) := by
  refine fn_den (N := ["sheet", "web", "k", "paint", "found", "row", "own", "colour"]) (m1 := []) T.F__law_fillings sc__law_fillings rfl rfl (by decide) (fun cdv A outer s H E hr => ?_)
  have kx := kx_fn (g := gW T.tabs SA) (P := P) (w := w) (K := K) (mg := mg) (base := base) (N := ["sheet", "web", "k", "paint", "found", "row", "own", "colour"]) (qual := "_law_fillings") (st := top 43) (f := T.A__law_fillings) (cdv := cdv) (A := A) (outer := outer) (s := s) (H := H) (E := E) (k := 2) sc__law_fillings hr
  exact svs_cons (sv_tup (is := [1, 2, 3]) (vv 0) (by decide) (ps_asg we (pg_tup kx.hc (pgs_cons (pgn 1 kx.hN) (pgs_cons (pgn 2 kx.hN) (pgs_cons (pgn 3 kx.hN) (pgs_nil)))))))
      (svs_cons (sv_seto (i := 4) (eo_lst (ea_nil)) (by decide) (ps_set kx.hN rfl (Or.inl rfl) we))
      (svs_cons (sv_for (m := [.fz, .fz, .fz, .fz, .own, .fz, .fz, .fz]) (t := (.nm 5)) (passes_of rfl) kx.hc (if_any (ev_call (ok__law_paintings T tb _) (kx.hr.mono (by decide)) rfl (at_mk T.F__law_paintings T.G__law_paintings T.B__law_paintings) kx.tk (em_val (vv 1) (em_val (vv 2) (em_nil))))) (by decide) (pgn 5 kx.hN) (svs_one (sv_if (m1 := [.fz, .fz, .fz, .fz, .own, .fz, .fz, .fz]) (et_val (ev_all kx.hc rfl T.b_all (EO.eb (eo_lc (t := (.tup [6, 7])) (own := [("own", 6), ("colour", 7)]) kx.hc kx.hN (IFo.c (if_zip rfl T.b_zip (vv 3) (vv 5))) (blk_by (by show blkB ["sheet", "web", "k", "paint", "found", "row", "own", "colour"] (defScope (top 43)) _ _ = true; decide +kernel)) (by decide) (by decide) (fun sc1 Hc1 Cc1 lc1 fc1 => pg_tup (kx.inn _ sc1 Hc1 Cc1 lc1 fc1).hc (pgs_cons (pgn 6 (kx.inn _ sc1 Hc1 Cc1 lc1 fc1).hN) (pgs_cons (pgn 7 (kx.inn _ sc1 Hc1 Cc1 lc1 fc1).hN) (pgs_nil)))) (fun sc1 Hc1 Cc1 lc1 fc1 => ev_orV (c1 (rel_is (kx.inn _ sc1 Hc1 Cc1 lc1 fc1).ux) (EV.eb (vv 6)) (EV.eb (ev_non))) (ev_one (c1 (rel_eq (kx.inn _ sc1 Hc1 Cc1 lc1 fc1).ux) (EV.eb (vv 6)) (EV.eb (vv 7))))))))) (svs_one (sv_append rfl (vv 5) (pv 4))) (svs_nil))))
      (svs_freeze (j := 4) rfl (svs_one (sv_ret (vv 4))))))
/-! are_ties -/
def b_are_ties : DS := dSeq (dIfS (dOr (dNot (dTest (d1 (fun d => some (.bool (isT "tuple" d))) (dVar 1)))) (dNot (dTest (d1 (fBs fun bs => bs.all _root_.id) (dComp (dIt seqD (dVar 1)) (.nm 4) (dYes) (dAndV (dCall d_is_sized (dCons (dVar 4) (dCons (dC (.int 2)) (dCons (dC (.int 2)) (dNil))))) (dCall d_is_lot (dCons (dVar 4) (dCons (dVar 0) (dNil)))))))))) (dRet (dC (.bool false))) (dNx)) (dRet (d1 (fBs fun bs => bs.all _root_.id) (dComp (dIt2 fZip (dVar 1) (dSl fSl (dVar 1) (pSm (dC (.int 1))) (pNo))) (.tup [2, 3]) (dYes) (d2 fLt (dVar 2) (dVar 3)))))
def d_are_ties : List PyData → Store → R PyData := dFn false 5 b_are_ties
theorem ok_are_ties : FnOk P w K mg base (L2.CX P w) 4 T.A_are_ties T.D_are_ties ["n", "thing"] (spD K mg (gW T.tabs SA) [.fz, .fz] false d_are_ties) := by
  refine fn_den (N := ["n", "thing", "one", "other", "pair"]) (m1 := []) T.F_are_ties sc_are_ties rfl rfl (by decide) (fun cdv A outer s H E hr => ?_)
  have kx := kx_fn (g := gW T.tabs SA) (P := P) (w := w) (K := K) (mg := mg) (base := base) (N := ["n", "thing", "one", "other", "pair"]) (qual := "are_ties") (st := top 13) (f := T.A_are_ties) (cdv := cdv) (A := A) (outer := outer) (s := s) (H := H) (E := E) (k := 3) sc_are_ties hr
  exact svs_cons (sv_if (m1 := [.fz, .fz, .fz, .fz, .fz]) (et_w (ew_or (et_not (et_val (ev_isi isT_tuple rfl rfl T.b_isinstance rfl T.b_tuple (vv 1)))) (ew_or1 (et_not (et_val (ev_all kx.hc rfl T.b_all (EO.eb (eo_lc (t := (.nm 4)) (own := [("pair", 4)]) kx.hc kx.hN (IFo.c (if_any (vv 1))) (blk_by (by show blkB ["n", "thing", "one", "other", "pair"] (defScope (top 13)) _ _ = true; decide +kernel)) (by decide) (by decide) (fun sc1 Hc1 Cc1 lc1 fc1 => pgn 4 (kx.inn _ sc1 Hc1 Cc1 lc1 fc1).hN) (fun sc1 Hc1 Cc1 lc1 fc1 => ev_andV (ev_call (ok_is_sized T tb _) ((kx.inn _ sc1 Hc1 Cc1 lc1 fc1).hr.mono (by decide)) rfl (at_mk T.F_is_sized T.G_is_sized T.B_is_sized) (kx.inn _ sc1 Hc1 Cc1 lc1 fc1).tk (em_val (vv 4) (em_val (ev_int) (em_val (ev_int) (em_nil))))) (ev_one (ev_call (ok_is_lot T tb _) ((kx.inn _ sc1 Hc1 Cc1 lc1 fc1).hr.mono (by decide)) rfl (at_mk T.F_is_lot T.G_is_lot T.B_is_lot) (kx.inn _ sc1 Hc1 Cc1 lc1 fc1).tk (em_val (vv 4) (em_val (vv 0) (em_nil)))))))))))))) (svs_one (sv_ret (ev_bl))) (svs_nil))
      (svs_one (sv_ret (ev_all kx.hc rfl T.b_all (EO.eb (eo_lc (t := (.tup [2, 3])) (own := [("one", 2), ("other", 3)]) kx.hc kx.hN (IFo.c (if_zip rfl T.b_zip (vv 1) (ev_sl (EV.eb (vv 1)) (ep_sm (ev_int)) (ep_no)))) (blk_by (by show blkB ["n", "thing", "one", "other", "pair"] (defScope (top 13)) _ _ = true; decide +kernel)) (by decide) (by decide) (fun sc2 Hc2 Cc2 lc2 fc2 => pg_tup (kx.inn _ sc2 Hc2 Cc2 lc2 fc2).hc (pgs_cons (pgn 2 (kx.inn _ sc2 Hc2 Cc2 lc2 fc2).hN) (pgs_cons (pgn 3 (kx.inn _ sc2 Hc2 Cc2 lc2 fc2).hN) (pgs_nil)))) (fun sc2 Hc2 Cc2 lc2 fc2 => c1 (rel_lt (kx.inn _ sc2 Hc2 Cc2 lc2 fc2).ux) (EV.eb (vv 2)) (EV.eb (vv 3))))))))
/-! is_web -/
def b_is_web : DS := dSeq (dIfS (dOr (dNot (dTest (dCall d_is_sized (dCons (dVar 0) (dCons (dC (.int 2)) (dCons (dC (.int 2)) (dNil))))))) (dNot (dTest (dCall d_is_within (dCons (d2 fIx (dVar 0) (dC (.int 0))) (dCons (dC (.int 1)) (dCons (dC (.int 8)) (dNil)))))))) (dRet (dC (.bool false))) (dNx)) (dRet (dCall d_are_ties (dCons (d2 fIx (dVar 0) (dC (.int 0))) (dCons (d2 fIx (dVar 0) (dC (.int 1))) (dNil)))))
def d_is_web : List PyData → Store → R PyData := dFn false 1 b_is_web
theorem ok_is_web : FnOk P w K mg base (L2.CX P w) 5 T.A_is_web T.D_is_web ["thing"] (spD K mg (gW T.tabs SA) [.fz] false d_is_web) := by
  refine fn_den (N := ["thing"]) (m1 := []) T.F_is_web sc_is_web rfl rfl (by decide) (fun cdv A outer s H E hr => ?_)
  have kx := kx_fn (g := gW T.tabs SA) (P := P) (w := w) (K := K) (mg := mg) (base := base) (N := ["thing"]) (qual := "is_web") (st := top 14) (f := T.A_is_web) (cdv := cdv) (A := A) (outer := outer) (s := s) (H := H) (E := E) (k := 4) sc_is_web hr
  exact svs_cons (sv_if (m1 := [.fz]) (et_w (ew_or (et_not (et_val (ev_call (ok_is_sized T tb _) (kx.hr.mono (by decide)) rfl (at_mk T.F_is_sized T.G_is_sized T.B_is_sized) kx.tk (em_val (vv 0) (em_val (ev_int) (em_val (ev_int) (em_nil))))))) (ew_or1 (et_not (et_val (ev_call (ok_is_within T tb _) (kx.hr.mono (by decide)) rfl (at_mk T.F_is_within T.G_is_within T.B_is_within) kx.tk (em_val (ev_ix (EV.eb (vv 0)) (EV.eb (ev_int)) (fun _ _ => rfl)) (em_val (ev_int) (em_val (ev_gint rfl T.c_MOST_PLACES_webs) (em_nil)))))))))) (svs_one (sv_ret (ev_bl))) (svs_nil))
      (svs_one (sv_ret (ev_call (ok_are_ties T tb _) (kx.hr.mono (by decide)) rfl (at_mk T.F_are_ties T.G_are_ties T.B_are_ties) kx.tk (em_val (ev_ix (EV.eb (vv 0)) (EV.eb (ev_int)) (fun _ _ => rfl)) (em_val (ev_ix (EV.eb (vv 0)) (EV.eb (ev_int)) (fun _ _ => rfl)) (em_nil))))))
/-! is_sheet -/
def b_is_sheet : DS := dSeq (dIfS (dOr (dNot (dTest (dCall d_is_sized (dCons (dVar 0) (dCons (dC (.int 3)) (dCons (dC (.int 3)) (dNil))))))) (dOr (dNot (dTest (dCall d_is_web (dCons (d2 fIx (dVar 0) (dC (.int 0))) (dNil))))) (dTest (d2 fGt (d2 fIx (d2 fIx (dVar 0) (dC (.int 0))) (dC (.int 0))) (dC (.int 6)))))) (dRet (dC (.bool false))) (dNx)) (dSeq (dTupSet [1, 2, 3] (dVar 0)) (dSeq (dIfS (dOr (dNot (dTest (dCall d_is_within (dCons (dVar 2) (dCons (dC (.int 1)) (dCons (dC (.int 4)) (dNil))))))) (dNot (dTest (dCall d_is_sized (dCons (dVar 3) (dCons (d2 fIx (dVar 1) (dC (.int 0))) (dCons (d2 fIx (dVar 1) (dC (.int 0))) (dNil)))))))) (dRet (dC (.bool false))) (dNx)) (dSeq (dIfS (dNot (dTest (d1 (fBs fun bs => bs.all _root_.id) (dComp (dIt seqD (dVar 3)) (.nm 4) (dYes) (dOrV (d2 (fIsN false) (dVar 4) (dC .none)) (dCall d_is_within (dCons (dVar 4) (dCons (dC (.int 0)) (dCons (d2 (fI (fun _ _ => true) fun i j => i - j) (dVar 2) (dC (.int 1))) (dNil)))))))))) (dRet (dC (.bool false))) (dNx)) (dRet (dNotV (d1 (fBs fun bs => bs.any _root_.id) (dComp (dIt seqD (d2 fIx (dVar 1) (dC (.int 1)))) (.tup [5, 6]) (dYes) (dAndV (d2 (fIsN true) (d2 fIx (dVar 3) (dVar 5)) (dC .none)) (d2 fEq (d2 fIx (dVar 3) (dVar 5)) (d2 fIx (dVar 3) (dVar 6)))))))))))
def d_is_sheet : List PyData → Store → R PyData := dFn false 7 b_is_sheet
theorem ok_is_sheet : FnOk P w K mg base (L2.CX P w) 6 T.A_is_sheet T.D_is_sheet ["thing"] (spD K mg (gW T.tabs SA) [.fz] false d_is_sheet) := by
  refine fn_den (N := ["thing", "web", "k", "paint", "colour", "a", "b"]) (m1 := []) T.F_is_sheet sc_is_sheet rfl rfl (by decide) (fun cdv A outer s H E hr => ?_)
  have kx := kx_fn (g := gW T.tabs SA) (P := P) (w := w) (K := K) (mg := mg) (base := base) (N := ["thing", "web", "k", "paint", "colour", "a", "b"]) (qual := "is_sheet") (st := top 18) (f := T.A_is_sheet) (cdv := cdv) (A := A) (outer := outer) (s := s) (H := H) (E := E) (k := 5) sc_is_sheet hr
  exact svs_cons (sv_if (m1 := [.fz, .fz, .fz, .fz, .fz, .fz, .fz]) (et_w (ew_or (et_not (et_val (ev_call (ok_is_sized T tb _) (kx.hr.mono (by decide)) rfl (at_mk T.F_is_sized T.G_is_sized T.B_is_sized) kx.tk (em_val (vv 0) (em_val (ev_int) (em_val (ev_int) (em_nil))))))) (ew_or (et_not (et_val (ev_call (ok_is_web T tb _) (kx.hr.mono (by decide)) rfl (at_mk T.F_is_web T.G_is_web T.B_is_web) kx.tk (em_val (ev_ix (EV.eb (vv 0)) (EV.eb (ev_int)) (fun _ _ => rfl)) (em_nil))))) (ew_or1 (t1 (rel_gt kx.ux) (EV.eb (ev_ix (EV.eb (ev_ix (EV.eb (vv 0)) (EV.eb (ev_int)) (fun _ _ => rfl))) (EV.eb (ev_int)) (fun _ _ => rfl))) (EV.eb (ev_gint rfl T.c_MOST_PLACES_strokes))))))) (svs_one (sv_ret (ev_bl))) (svs_nil))
      (svs_cons (sv_tup (is := [1, 2, 3]) (vv 0) (by decide) (ps_asg we (pg_tup kx.hc (pgs_cons (pgn 1 kx.hN) (pgs_cons (pgn 2 kx.hN) (pgs_cons (pgn 3 kx.hN) (pgs_nil)))))))
      (svs_cons (sv_if (m1 := [.fz, .fz, .fz, .fz, .fz, .fz, .fz]) (et_w (ew_or (et_not (et_val (ev_call (ok_is_within T tb _) (kx.hr.mono (by decide)) rfl (at_mk T.F_is_within T.G_is_within T.B_is_within) kx.tk (em_val (vv 2) (em_val (ev_int) (em_val (ev_gint rfl T.c_MOST_COLOURS) (em_nil))))))) (ew_or1 (et_not (et_val (ev_call (ok_is_sized T tb _) (kx.hr.mono (by decide)) rfl (at_mk T.F_is_sized T.G_is_sized T.B_is_sized) kx.tk (em_val (vv 3) (em_val (ev_ix (EV.eb (vv 1)) (EV.eb (ev_int)) (fun _ _ => rfl)) (em_val (ev_ix (EV.eb (vv 1)) (EV.eb (ev_int)) (fun _ _ => rfl)) (em_nil)))))))))) (svs_one (sv_ret (ev_bl))) (svs_nil))
      (svs_cons (sv_if (m1 := [.fz, .fz, .fz, .fz, .fz, .fz, .fz]) (et_not (et_val (ev_all kx.hc rfl T.b_all (EO.eb (eo_lc (t := (.nm 4)) (own := [("colour", 4)]) kx.hc kx.hN (IFo.c (if_any (vv 3))) (blk_by (by show blkB ["thing", "web", "k", "paint", "colour", "a", "b"] (defScope (top 18)) _ _ = true; decide +kernel)) (by decide) (by decide) (fun sc1 Hc1 Cc1 lc1 fc1 => pgn 4 (kx.inn _ sc1 Hc1 Cc1 lc1 fc1).hN) (fun sc1 Hc1 Cc1 lc1 fc1 => ev_orV (c1 (rel_is (kx.inn _ sc1 Hc1 Cc1 lc1 fc1).ux) (EV.eb (vv 4)) (EV.eb (ev_non))) (ev_one (ev_call (ok_is_within T tb _) ((kx.inn _ sc1 Hc1 Cc1 lc1 fc1).hr.mono (by decide)) rfl (at_mk T.F_is_within T.G_is_within T.B_is_within) (kx.inn _ sc1 Hc1 Cc1 lc1 fc1).tk (em_val (vv 4) (em_val (ev_int) (em_val (ev_sub (EV.eb (vv 2)) (EV.eb (ev_int))) (em_nil)))))))))))) (svs_one (sv_ret (ev_bl))) (svs_nil))
      (svs_one (sv_ret (ev_notV (ev_any kx.hc rfl T.b_any (EO.eb (eo_lc (t := (.tup [5, 6])) (own := [("a", 5), ("b", 6)]) kx.hc kx.hN (IFo.c (if_any (ev_ix (EV.eb (vv 1)) (EV.eb (ev_int)) (fun _ _ => rfl)))) (blk_by (by show blkB ["thing", "web", "k", "paint", "colour", "a", "b"] (defScope (top 18)) _ _ = true; decide +kernel)) (by decide) (by decide) (fun sc2 Hc2 Cc2 lc2 fc2 => pg_tup (kx.inn _ sc2 Hc2 Cc2 lc2 fc2).hc (pgs_cons (pgn 5 (kx.inn _ sc2 Hc2 Cc2 lc2 fc2).hN) (pgs_cons (pgn 6 (kx.inn _ sc2 Hc2 Cc2 lc2 fc2).hN) (pgs_nil)))) (fun sc2 Hc2 Cc2 lc2 fc2 => ev_andV (c1 (rel_isNot (kx.inn _ sc2 Hc2 Cc2 lc2 fc2).ux) (EV.eb (ev_ix (EV.eb (vv 3)) (EV.eb (vv 5)) (fun _ _ => rfl))) (EV.eb (ev_non))) (ev_one (c1 (rel_eq (kx.inn _ sc2 Hc2 Cc2 lc2 fc2).ux) (EV.eb (ev_ix (EV.eb (vv 3)) (EV.eb (vv 5)) (fun _ _ => rfl))) (EV.eb (ev_ix (EV.eb (vv 3)) (EV.eb (vv 6)) (fun _ _ => rfl)))))))))))))))
/-! check_sheet -/
def b_check_sheet : DS := dIfS (dNot (dTest (dCall d_is_sheet (dCons (dVar 0) (dNil))))) (dRaise0 "NoSheet") (dNx)
def d_check_sheet : List PyData → Store → R PyData := dFn false 1 b_check_sheet
theorem ok_check_sheet : FnOk P w K mg base (L2.CX P w) 7 T.A_check_sheet T.D_check_sheet ["sheet"] (spD K mg (gW T.tabs SA) [.fz] false d_check_sheet) := by
  refine fn_den (N := ["sheet"]) (m1 := [.fz]) T.F_check_sheet sc_check_sheet rfl rfl (by decide) (fun cdv A outer s H E hr => ?_)
  have kx := kx_fn (g := gW T.tabs SA) (P := P) (w := w) (K := K) (mg := mg) (base := base) (N := ["sheet"]) (qual := "check_sheet") (st := top 19) (f := T.A_check_sheet) (cdv := cdv) (A := A) (outer := outer) (s := s) (H := H) (E := E) (k := 6) sc_check_sheet hr
  exact svs_one (sv_if (m1 := [.fz]) (et_not (et_val (ev_call (ok_is_sheet T tb _) (kx.hr.mono (by decide)) rfl (at_mk T.F_is_sheet T.G_is_sheet T.B_is_sheet) kx.tk (em_val (vv 0) (em_nil))))) (svs_one (sv_raise0 (x0_NoSheet T) kx.hc kx.tk rfl)) (svs_nil))
/-! fillings -/
def b_fillings : DS := dSeq (dDrop (dCall d_check_sheet (dCons (dVar 0) (dNil)))) (dSeq (dIfS (dNot (dTest (dCall d_is_within (dCons (dVar 1) (dCons (dC (.int 1)) (dCons (dC (.int 100)) (dNil))))))) (dRaise0 "NoNumber") (dNx)) (dRet (d1 fTuple (dCall d_filled (dCons (d2 fIx (dVar 0) (dC (.int 0))) (dCons (d2 fIx (dVar 0) (dC (.int 1))) (dCons (d2 fIx (dVar 0) (dC (.int 2))) (dCons (dVar 1) (dNil)))))))))
def d_fillings : List PyData → Store → R PyData := dFn false 2 b_fillings
theorem ok_fillings : FnOk P w K mg base (L2.CX P w) 8 T.A_fillings T.D_fillings ["sheet", "most"] (spD K mg (gW T.tabs SA) [.fz, .fz] false d_fillings) := by
  refine fn_den (N := ["sheet", "most"]) (m1 := []) T.F_fillings sc_fillings rfl rfl (by decide) (fun cdv A outer s H E hr => ?_)
  have kx := kx_fn (g := gW T.tabs SA) (P := P) (w := w) (K := K) (mg := mg) (base := base) (N := ["sheet", "most"]) (qual := "fillings") (st := top 28) (f := T.A_fillings) (cdv := cdv) (A := A) (outer := outer) (s := s) (H := H) (E := E) (k := 7) sc_fillings hr
  exact svs_cons (sv_expr (ev_call (ok_check_sheet T tb _) (kx.hr.mono (by decide)) rfl (at_mk T.F_check_sheet T.G_check_sheet T.B_check_sheet) kx.tk (em_val (vv 0) (em_nil))))
      (svs_cons (sv_if (m1 := [.fz, .fz]) (et_not (et_val (ev_call (ok_is_within T tb _) (kx.hr.mono (by decide)) rfl (at_mk T.F_is_within T.G_is_within T.B_is_within) kx.tk (em_val (vv 1) (em_val (ev_int) (em_val (ev_int) (em_nil))))))) (svs_one (sv_raise0 (x0_NoNumber T) kx.hc kx.tk rfl)) (svs_nil))
      (svs_one (sv_ret (ev_tuple kx.hc rfl T.b_tuple (EV.eb (ev_call (ok_filled T tb _) (kx.hr.mono (by decide)) rfl (at_mk T.F_filled T.G_filled T.B_filled) kx.tk (em_val (ev_ix (EV.eb (vv 0)) (EV.eb (ev_int)) (fun _ _ => rfl)) (em_val (ev_ix (EV.eb (vv 0)) (EV.eb (ev_int)) (fun _ _ => rfl)) (em_val (ev_ix (EV.eb (vv 0)) (EV.eb (ev_int)) (fun _ _ => rfl)) (em_val (vv 1) (em_nil)))))))))))
/-! is_sure -/
def b_is_sure : DS := dSeq (dDrop (dCall d_check_sheet (dCons (dVar 0) (dNil)))) (dSeq (dIfS (dNot (dTest (dCall d_is_within (dCons (dVar 1) (dCons (dC (.int 0)) (dCons (d2 (fI (fun _ _ => true) fun i j => i - j) (d2 fIx (d2 fIx (dVar 0) (dC (.int 0))) (dC (.int 0))) (dC (.int 1))) (dNil))))))) (dRaise0 "NoPlace") (dNx)) (dSeq (dSet 2 (dCall d_colours_at (dCons (dCall d_filled (dCons (d2 fIx (dVar 0) (dC (.int 0))) (dCons (d2 fIx (dVar 0) (dC (.int 1))) (dCons (d2 fIx (dVar 0) (dC (.int 2))) (dCons (dC .none) (dNil)))))) (dCons (dVar 1) (dNil))))) (dSeq (dIfS (dTest (d2 fEq (d1 fLen (dVar 2)) (dC (.int 0)))) (dRet (dTup (dCons (dC (.str "none")) (dNil)))) (dNx)) (dRet (dIfE (dTest (d2 fEq (d1 fLen (dVar 2)) (dC (.int 1)))) (dTup (dCons (dC (.str "sure")) (dCons (d2 fIx (dVar 2) (dC (.int 0))) (dNil)))) (dTup (dCons (dC (.str "open")) (dCons (d2 fIx (dVar 2) (dC (.int 0))) (dCons (d2 fIx (dVar 2) (dC (.int 1))) (dNil))))))))))
def d_is_sure : List PyData → Store → R PyData := dFn false 3 b_is_sure
theorem ok_is_sure : FnOk P w K mg base (L2.CX P w) 8 T.A_is_sure T.D_is_sure ["sheet", "place"] (spD K mg (gW T.tabs SA) [.fz, .fz] false d_is_sure) := by
  refine fn_den (N := ["sheet", "place", "colours"]) (m1 := []) T.F_is_sure sc_is_sure rfl rfl (by decide) (fun cdv A outer s H E hr => ?_)
  have kx := kx_fn (g := gW T.tabs SA) (P := P) (w := w) (K := K) (mg := mg) (base := base) (N := ["sheet", "place", "colours"]) (qual := "is_sure") (st := top 30) (f := T.A_is_sure) (cdv := cdv) (A := A) (outer := outer) (s := s) (H := H) (E := E) (k := 7) sc_is_sure hr
  exact svs_cons (sv_expr (ev_call (ok_check_sheet T tb _) (kx.hr.mono (by decide)) rfl (at_mk T.F_check_sheet T.G_check_sheet T.B_check_sheet) kx.tk (em_val (vv 0) (em_nil))))
      (svs_cons (sv_if (m1 := [.fz, .fz, .fz]) (et_not (et_val (ev_call (ok_is_within T tb _) (kx.hr.mono (by decide)) rfl (at_mk T.F_is_within T.G_is_within T.B_is_within) kx.tk (em_val (vv 1) (em_val (ev_int) (em_val (ev_sub (EV.eb (ev_ix (EV.eb (ev_ix (EV.eb (vv 0)) (EV.eb (ev_int)) (fun _ _ => rfl))) (EV.eb (ev_int)) (fun _ _ => rfl))) (EV.eb (ev_int))) (em_nil))))))) (svs_one (sv_raise0 (x0_NoPlace T) kx.hc kx.tk rfl)) (svs_nil))
      (svs_cons (sv_set (i := 2) (ev_call (ok_colours_at T tb _) (kx.hr.mono (by decide)) rfl (at_mk T.F_colours_at T.G_colours_at T.B_colours_at) kx.tk (em_val (ev_call (ok_filled T tb _) (kx.hr.mono (by decide)) rfl (at_mk T.F_filled T.G_filled T.B_filled) kx.tk (em_val (ev_ix (EV.eb (vv 0)) (EV.eb (ev_int)) (fun _ _ => rfl)) (em_val (ev_ix (EV.eb (vv 0)) (EV.eb (ev_int)) (fun _ _ => rfl)) (em_val (ev_ix (EV.eb (vv 0)) (EV.eb (ev_int)) (fun _ _ => rfl)) (em_val (ev_non) (em_nil)))))) (em_val (vv 1) (em_nil)))) (by decide) (ps_set kx.hN rfl (Or.inl rfl) we))
      (svs_cons (sv_if (m1 := [.fz, .fz, .fz]) (t1 (rel_eq kx.ux) (EV.eb (ev_len rfl T.b_len (EV.eb (vv 2)))) (EV.eb (ev_int))) (svs_one (sv_ret (ev_tup (ea_cons (ev_gstr rfl T.c_NONE) (ea_nil))))) (svs_nil))
      (svs_one (sv_ret (ev_if (t1 (rel_eq kx.ux) (EV.eb (ev_len rfl T.b_len (EV.eb (vv 2)))) (EV.eb (ev_int))) (ev_tup (ea_cons (ev_gstr rfl T.c_SURE) (ea_cons (ev_ix (EV.eb (vv 2)) (EV.eb (ev_int)) (fun _ _ => rfl)) (ea_nil)))) (ev_tup (ea_cons (ev_gstr rfl T.c_OPEN) (ea_cons (ev_ix (EV.eb (vv 2)) (EV.eb (ev_int)) (fun _ _ => rfl)) (ea_cons (ev_ix (EV.eb (vv 2)) (EV.eb (ev_int)) (fun _ _ => rfl)) (ea_nil)))))))))))
/-! sure_places -/
def b_sure_places : DS := dSeq (dDrop (dCall d_check_sheet (dCons (dVar 0) (dNil)))) (dSeq (dSet 1 (dCall d_filled (dCons (d2 fIx (dVar 0) (dC (.int 0))) (dCons (d2 fIx (dVar 0) (dC (.int 1))) (dCons (d2 fIx (dVar 0) (dC (.int 2))) (dCons (dC .none) (dNil))))))) (dSeq (dSet 2 (dC (.dict []))) (dSeq (dFor (dIt (fEnum 0) (d2 fIx (dVar 0) (dC (.int 2)))) (.tup [3, 4]) (dSeq (dSet 5 (dCall d_colours_at (dCons (dVar 1) (dCons (dVar 3) (dNil))))) (dIfS (dAnd (dTest (d2 (fIsN false) (dVar 4) (dC .none))) (dTest (d2 fEq (d1 fLen (dVar 5)) (dC (.int 1))))) (dSetD 2 (dVar 3) (d2 fIx (dVar 5) (dC (.int 0)))) (dNx)))) (dRet (dVar 2)))))
def d_sure_places : List PyData → Store → R PyData := dFn false 6 b_sure_places
theorem ok_sure_places : FnOk P w K mg base (L2.CX P w) 8 T.A_sure_places T.D_sure_places ["sheet"] (spD K mg (gW T.tabs SA) [.fz] false d_sure_places) := by
  refine fn_den (N := ["sheet", "rows", "found", "place", "colour", "colours"]) (m1 := []) T.F_sure_places sc_sure_places rfl rfl (by decide) (fun cdv A outer s H E hr => ?_)
  have kx := kx_fn (g := gW T.tabs SA) (P := P) (w := w) (K := K) (mg := mg) (base := base) (N := ["sheet", "rows", "found", "place", "colour", "colours"]) (qual := "sure_places") (st := top 31) (f := T.A_sure_places) (cdv := cdv) (A := A) (outer := outer) (s := s) (H := H) (E := E) (k := 7) sc_sure_places hr
  exact svs_cons (sv_expr (ev_call (ok_check_sheet T tb _) (kx.hr.mono (by decide)) rfl (at_mk T.F_check_sheet T.G_check_sheet T.B_check_sheet) kx.tk (em_val (vv 0) (em_nil))))
      (svs_cons (sv_set (i := 1) (ev_call (ok_filled T tb _) (kx.hr.mono (by decide)) rfl (at_mk T.F_filled T.G_filled T.B_filled) kx.tk (em_val (ev_ix (EV.eb (vv 0)) (EV.eb (ev_int)) (fun _ _ => rfl)) (em_val (ev_ix (EV.eb (vv 0)) (EV.eb (ev_int)) (fun _ _ => rfl)) (em_val (ev_ix (EV.eb (vv 0)) (EV.eb (ev_int)) (fun _ _ => rfl)) (em_val (ev_non) (em_nil)))))) (by decide) (ps_set kx.hN rfl (Or.inl rfl) we))
      (svs_cons (sv_seto (i := 2) (eo_dnew) (by decide) (ps_set kx.hN rfl (Or.inl rfl) we))
      (svs_cons (sv_for (m := [.fz, .fz, .own, .fz, .fz, .fz]) (t := (.tup [3, 4])) (passes_of rfl) kx.hc (if_enum rfl T.b_enumerate (ev_ix (EV.eb (vv 0)) (EV.eb (ev_int)) (fun _ _ => rfl))) (by decide) (pg_tup kx.hc (pgs_cons (pgn 3 kx.hN) (pgs_cons (pgn 4 kx.hN) (pgs_nil)))) (svs_cons (sv_set (i := 5) (ev_call (ok_colours_at T tb _) (kx.hr.mono (by decide)) rfl (at_mk T.F_colours_at T.G_colours_at T.B_colours_at) kx.tk (em_val (vv 1) (em_val (vv 3) (em_nil)))) (by decide) (ps_set kx.hN rfl (Or.inl rfl) we))
      (svs_one (sv_if (m1 := [.fz, .fz, .own, .fz, .fz, .fz]) (et_w (ew_and (t1 (rel_is kx.ux) (EV.eb (vv 4)) (EV.eb (ev_non))) (ew_and1 (t1 (rel_eq kx.ux) (EV.eb (ev_len rfl T.b_len (EV.eb (vv 5)))) (EV.eb (ev_int)))))) (svs_one (sv_setD kx.ux.u65 rfl (ev_ix (EV.eb (vv 5)) (EV.eb (ev_int)) (fun _ _ => rfl)) (vv 3) (pv 2) (fun te g h1 h2 => ps_asg h1 h2))) (svs_nil)))))
      (svs_freeze (j := 2) rfl (svs_one (sv_ret (vv 2)))))))
/-! law -/
def dt_law : DE := dCall d__law_hand (dCons (dVar 0) (dNil))
def dr_law : DS := dSeq (dFor (dRng1 (dC (.int 3))) (.nm 2) (dSeq (dSet 3 (dCall d__law_sheet (dCons dSt (dCons (dC (.int 6)) (dNil))))) (dSeq (dTupSet [4, 5, 6] (dVar 3)) (dSeq (dPar [7, 8] (dCons (dCall d__law_fillings (dCons (dVar 3) (dNil))) (dCons (d2 fAdd (dC (.int 1)) (dCall d__law_draw (dCons dSt (dCons (dC (.int 100)) (dNil))))) (dNil)))) (dSeq (dIfS (dTest (d2 fNe (dCall d_fillings (dCons (dVar 3) (dCons (dVar 8) (dNil)))) (d1 fTuple (dSl fSl (dVar 7) (pNo) (pSm (dVar 8)))))) (dRet (dC (.bool false))) (dNx)) (dSeq (dSet 9 (dC (.dict []))) (dSeq (dFor (dRng1 (d2 fIx (dVar 4) (dC (.int 0)))) (.nm 10) (dSeq (dSet 11 (d1 fSortX (d1 fDict (dComp (dIt seqD (dVar 7)) (.nm 18) (dYes) (dTup (dCons (d2 fIx (dVar 18) (dVar 10)) (dCons (dC (.bool true)) (dNil)))))))) (dSeq (dSet 12 (dTup (dCons (dC (.str "none")) (dNil)))) (dSeq (dIfS (dTest (d2 fNe (dVar 11) (dLst (dNil)))) (dSet 12 (dIfE (dTest (d2 fEq (d1 fLen (dVar 11)) (dC (.int 1)))) (dTup (dCons (dC (.str "sure")) (dCons (d2 fIx (dVar 11) (dC (.int 0))) (dNil)))) (dTup (dCons (dC (.str "open")) (dCons (d2 fIx (dVar 11) (dC (.int 0))) (dCons (d2 fIx (dVar 11) (dC (.int 1))) (dNil))))))) (dNx)) (dSeq (dIfS (dTest (d2 fNe (dCall d_is_sure (dCons (dVar 3) (dCons (dVar 10) (dNil)))) (dVar 12))) (dRet (dC (.bool false))) (dNx)) (dIfS (dAnd (dTest (d2 fEq (d2 fIx (dVar 12) (dC (.int 0))) (dC (.str "sure")))) (dTest (d2 (fIsN false) (d2 fIx (dVar 6) (dVar 10)) (dC .none)))) (dSetD 9 (dVar 10) (d2 fIx (dVar 11) (dC (.int 0)))) (dNx))))))) (dSeq (dIfS (dTest (d2 fNeG (dCall d_sure_places (dCons (dVar 3) (dNil))) (dVar 9))) (dRet (dC (.bool false))) (dNx)) (dSeq (dFor (dIt seqD (dCall d__law_strokes (dCons (dVar 3) (dNil)))) (.tup [10, 13]) (dIfS (dAnd (dTest (d2 (fInG false) (dVar 10) (dVar 9))) (dAnd (dTest (d2 fNe (dVar 13) (d2 fIxG (dVar 9) (dVar 10)))) (dTest (d2 fNe (dCall d_fillings (dCons (dCall d__law_stroked (dCons (dVar 3) (dCons (dVar 10) (dCons (dVar 13) (dNil))))) (dCons (dC (.int 1)) (dNil)))) (dTup (dNil)))))) (dRet (dC (.bool false))) (dNx))) (dSeq (dPar [14, 15] (dCons (dCall d__law_no_sheet (dCons dSt (dNil))) (dCons (dCall d__law_any (dCons dSt (dCons (dLst (dCons (dC .none) (dCons (dC (.int 0)) (dCons (dC (.int 101)) (dCons (dC (.bool true)) (dCons (dC (.str "1")) (dNil))))))) (dNil)))) (dNil)))) (dSeq (dSet 16 (dCall d__law_any (dCons dSt (dCons (dLst (dCons (dC .none) (dCons (d2 fIx (dVar 4) (dC (.int 0))) (dCons (d1 fNeg (dC (.int 1))) (dCons (dC (.bool true)) (dCons (dC (.str "0")) (dNil))))))) (dNil))))) (dSeq (dSet 17 (dLst (dCons (dLam 5 bl__law_word (dCall d_fillings (dCons (dVar 14) (dCons (dVar 15) (dNil))))) (dNil)))) (dSeq (dApp 17 (dLam 5 bl__law_word (dCall d_fillings (dCons (dVar 3) (dCons (dVar 15) (dNil)))))) (dSeq (dApp 17 (dLam 5 bl__law_word (dCall d_is_sure (dCons (dVar 14) (dCons (dVar 16) (dNil)))))) (dSeq (dApp 17 (dLam 5 bl__law_word (dCall d_is_sure (dCons (dVar 3) (dCons (dVar 16) (dNil)))))) (dSeq (dApp 17 (dLam 5 bl__law_word (dCall d_sure_places (dCons (dVar 14) (dNil))))) (dIfS (dTest (d2 fNe (dVar 17) (dLst (dCons (dC (.str "sheet")) (dCons (dC (.str "number")) (dCons (dC (.str "sheet")) (dCons (dC (.str "place")) (dCons (dC (.str "sheet")) (dNil))))))))) (dRet (dC (.bool false))) (dNx)))))))))))))))))) (dRet (dC (.bool true)))
theorem ok_law (pure : ∀ ns : List Int, ns.length ≤ 63 → (∀ z ∈ ns, Builtin.Int.intBits z ≤ 1048576) → ∃ S', (dAdopt 1 dt_law dr_law (env0 19 [.list (ns.map .int)]) []).fin false = .ok (.bool true) S') :
    FnOk P w K mg base (L2.CX P w) 12 T.A_law T.D_law ["script"] (spLaw K (gW T.tabs []) 63) := by
  have hz : 63 ≤ sizeLine := by rw [sizeLine_eq]; decide
  refine law_ok (g := gW T.tabs []) (n := 63) (k := 11) (st := top 45) (f := T.A_law) (fd := T.D_law) (cA := T.cA_law) (N := ["script", "hand", "turn", "sheet", "web", "k", "paint", "some", "most", "sure", "place", "told", "due", "colour", "bad", "off", "odd", "words", "row"]) (i := 1) (m2 := []) (a := dt_law) (dr := dr_law) rfl rfl T.ndT hz T.F_law sc_law (by decide) (by decide) rfl (fun A outer s H E hr => ?_) pure
  have kx := kx_fn (g := gW T.tabs []) (P := P) (w := w) (K := K) (mg := mg) (base := base) (N := ["script", "hand", "turn", "sheet", "web", "k", "paint", "some", "most", "sure", "place", "told", "due", "colour", "bad", "off", "odd", "words", "row"]) (qual := "law") (st := top 45) (f := T.A_law) (cdv := .ref T.cA_law) (A := A) (outer := outer) (s := s) (H := H) (E := E) (k := 11) sc_law hr
  refine ⟨eo_call (ok__law_hand T tb _) (kx.hr.mono (by decide)) rfl (at_mk T.F__law_hand T.G__law_hand T.B__law_hand) kx.tk (em_cs (i := 0) rfl (pv 0) (em_nil)), ps_set kx.hN rfl (by first | exact Or.inl rfl | exact Or.inr rfl) we, fun p => ?_⟩
  have kx := kx_fn (g := gW T.tabs [p]) (P := P) (w := w) (K := K) (mg := mg) (base := base) (N := ["script", "hand", "turn", "sheet", "web", "k", "paint", "some", "most", "sure", "place", "told", "due", "colour", "bad", "off", "odd", "words", "row"]) (qual := "law") (st := top 45) (f := T.A_law) (cdv := .ref T.cA_law) (A := A) (outer := outer) (s := s) (H := H) (E := E) (k := 11) sc_law hr
  have key : SVs (fnC (gW T.tabs [p]) P w K mg base ["script", "hand", "turn", "sheet", "web", "k", "paint", "some", "most", "sure", "place", "told", "due", "colour", "bad", "off", "odd", "words", "row"] "law" (top 45) T.A_law (.ref T.cA_law) A outer s H E) ⟨false, [], none⟩ [.cs, .st 0, .fz, .fz, .fz, .fz, .fz, .fz, .fz, .fz, .fz, .fz, .fz, .fz, .fz, .fz, .fz, .fz, .fz] [] (defBody (top 45)).tail dr_law := svs_cons (sv_weak (m1 := [.cs, .st 0, .fz, .fz, .fz, .fz, .fz, .fz, .fz, .un, .fz, .fz, .fz, .fz, .fz, .fz, .fz, .un, .fz]) rfl (sv_for (m := [.cs, .st 0, .fz, .fz, .fz, .fz, .fz, .fz, .fz, .un, .fz, .fz, .fz, .fz, .fz, .fz, .fz, .un, .fz]) (t := (.nm 2)) (passes_of rfl) kx.hc (if_rng1 rfl T.b_range (ev_int)) (by decide) (pgn 2 kx.hN) (svs_weakB (m1 := [.cs, .st 0, .fz, .fz, .fz, .fz, .fz, .fz, .fz, .own, .fz, .fz, .fz, .fz, .fz, .fz, .fz, .own, .fz]) (m2 := [.cs, .st 0, .fz, .fz, .fz, .fz, .fz, .fz, .fz, .un, .fz, .fz, .fz, .fz, .fz, .fz, .fz, .un, .fz]) rfl (svs_cons (sv_set (i := 3) (ev_call (ok__law_sheet T tb _) (kx.hr.mono (by decide)) rfl (at_mk T.F__law_sheet T.G__law_sheet T.B__law_sheet) kx.tk (em_st (k := 0) (i := 1) rfl (pv 1) (em_val (ev_int) (em_nil)))) (by decide) (ps_set kx.hN rfl (Or.inr rfl) we))
      (svs_cons (sv_tup (is := [4, 5, 6]) (vv 3) (by decide) (ps_asg we (pg_tup kx.hc (pgs_cons (pgn 4 kx.hN) (pgs_cons (pgn 5 kx.hN) (pgs_cons (pgn 6 kx.hN) (pgs_nil)))))))
      (svs_cons (sv_par2 (i := 7) (j := 8) (eq_val (ev_call (ok__law_fillings T tb _) (kx.hr.mono (by decide)) rfl (at_mk T.F__law_fillings T.G__law_fillings T.B__law_fillings) kx.tk (em_val (vv 3) (em_nil))) (eq_val (ev_add (EV.eb (ev_int)) (EV.eb (ev_call (ok__law_draw T tb _) (kx.hr.mono (by decide)) rfl (at_mk T.F__law_draw T.G__law_draw T.B__law_draw) kx.tk (em_st (k := 0) (i := 1) rfl (pv 1) (em_val (ev_int) (em_nil)))))) (eq_nil))) (by decide) (fun ta h => ps_par rfl kx.hN rfl rfl (by decide) rfl rfl h rfl))
      (svs_cons (sv_if (m1 := [.cs, .st 0, .fz, .fz, .fz, .fz, .fz, .fz, .fz, .un, .fz, .fz, .fz, .fz, .fz, .fz, .fz, .un, .fz]) (t1 (rel_ne kx.ux) (EV.eb (ev_call (ok_fillings T tb _) (kx.hr.mono (by decide)) rfl (at_mk T.F_fillings T.G_fillings T.B_fillings) kx.tk (em_val (vv 3) (em_val (vv 8) (em_nil))))) (EV.eb (ev_tuple kx.hc rfl T.b_tuple (EV.eb (ev_sl (EV.eb (vv 7)) (ep_no) (ep_sm (vv 8))))))) (svs_one (sv_ret (ev_bl))) (svs_nil))
      (svs_cons (sv_seto (i := 9) (eo_dnew) (by decide) (ps_set kx.hN rfl (Or.inl rfl) we))
      (svs_cons (sv_for (m := [.cs, .st 0, .fz, .fz, .fz, .fz, .fz, .fz, .fz, .own, .fz, .fz, .fz, .fz, .fz, .fz, .fz, .un, .fz]) (t := (.nm 10)) (passes_of rfl) kx.hc (if_rng1 rfl T.b_range (ev_ix (EV.eb (vv 4)) (EV.eb (ev_int)) (fun _ _ => rfl))) (by decide) (pgn 10 kx.hN) (svs_cons (sv_set (i := 11) (EO.ev (eo_sortX kx.hc kx.ux.u65 rfl T.b_sorted (EV.eb (EO.ev (eo_dict kx.hc rfl T.b_dict (EO.eb (eo_lc (t := (.nm 18)) (own := [("row", 18)]) kx.hc kx.hN (IFo.c (if_any (vv 7))) (blk_by (by show blkB ["script", "hand", "turn", "sheet", "web", "k", "paint", "some", "most", "sure", "place", "told", "due", "colour", "bad", "off", "odd", "words", "row"] (defScope (top 45)) _ _ = true; decide +kernel)) (by decide) (by decide) (fun sc7 Hc7 Cc7 lc7 fc7 => pgn 18 (kx.inn _ sc7 Hc7 Cc7 lc7 fc7).hN) (fun sc7 Hc7 Cc7 lc7 fc7 => ev_tup (ea_cons (ev_ix (EV.eb (vv 18)) (EV.eb (vv 10)) (fun _ _ => rfl)) (ea_cons (ev_bl) (ea_nil))))))))))) (by decide) (ps_set kx.hN rfl (Or.inl rfl) we))
      (svs_cons (sv_set (i := 12) (ev_tup (ea_cons (ev_str) (ea_nil))) (by decide) (ps_set kx.hN rfl (Or.inl rfl) we))
      (svs_cons (sv_if (m1 := [.cs, .st 0, .fz, .fz, .fz, .fz, .fz, .fz, .fz, .own, .fz, .fz, .fz, .fz, .fz, .fz, .fz, .un, .fz]) (t1 (rel_ne kx.ux) (EV.eb (vv 11)) (EO.eb (eo_lst (ea_nil)))) (svs_one (sv_set (i := 12) (ev_if (t1 (rel_eq kx.ux) (EV.eb (ev_len rfl T.b_len (EV.eb (vv 11)))) (EV.eb (ev_int))) (ev_tup (ea_cons (ev_str) (ea_cons (ev_ix (EV.eb (vv 11)) (EV.eb (ev_int)) (fun _ _ => rfl)) (ea_nil)))) (ev_tup (ea_cons (ev_str) (ea_cons (ev_ix (EV.eb (vv 11)) (EV.eb (ev_int)) (fun _ _ => rfl)) (ea_cons (ev_ix (EV.eb (vv 11)) (EV.eb (ev_int)) (fun _ _ => rfl)) (ea_nil)))))) (by decide) (ps_set kx.hN rfl (Or.inl rfl) we))) (svs_nil))
      (svs_cons (sv_if (m1 := [.cs, .st 0, .fz, .fz, .fz, .fz, .fz, .fz, .fz, .own, .fz, .fz, .fz, .fz, .fz, .fz, .fz, .un, .fz]) (t1 (rel_ne kx.ux) (EV.eb (ev_call (ok_is_sure T tb _) (kx.hr.mono (by decide)) rfl (at_mk T.F_is_sure T.G_is_sure T.B_is_sure) kx.tk (em_val (vv 3) (em_val (vv 10) (em_nil))))) (EV.eb (vv 12))) (svs_one (sv_ret (ev_bl))) (svs_nil))
      (svs_one (sv_if (m1 := [.cs, .st 0, .fz, .fz, .fz, .fz, .fz, .fz, .fz, .own, .fz, .fz, .fz, .fz, .fz, .fz, .fz, .un, .fz]) (et_w (ew_and (t1 (rel_eq kx.ux) (EV.eb (ev_ix (EV.eb (vv 12)) (EV.eb (ev_int)) (fun _ _ => rfl))) (EV.eb (ev_str))) (ew_and1 (t1 (rel_is kx.ux) (EV.eb (ev_ix (EV.eb (vv 6)) (EV.eb (vv 10)) (fun _ _ => rfl))) (EV.eb (ev_non)))))) (svs_one (sv_setD kx.ux.u65 rfl (ev_ix (EV.eb (vv 11)) (EV.eb (ev_int)) (fun _ _ => rfl)) (vv 10) (pv 9) (fun te g h1 h2 => ps_asg h1 h2))) (svs_nil))))))))
      (svs_cons (sv_if (m1 := [.cs, .st 0, .fz, .fz, .fz, .fz, .fz, .fz, .fz, .own, .fz, .fz, .fz, .fz, .fz, .fz, .fz, .un, .fz]) (t1 (rel_neG kx.ux) (EV.eb (ev_call (ok_sure_places T tb _) (kx.hr.mono (by decide)) rfl (at_mk T.F_sure_places T.G_sure_places T.B_sure_places) kx.tk (em_val (vv 3) (em_nil)))) (vo 9)) (svs_one (sv_ret (ev_bl))) (svs_nil))
      (svs_cons (sv_for (m := [.cs, .st 0, .fz, .fz, .fz, .fz, .fz, .fz, .fz, .own, .fz, .fz, .fz, .fz, .fz, .fz, .fz, .un, .fz]) (t := (.tup [10, 13])) (passes_of rfl) kx.hc (if_any (ev_call (ok__law_strokes T tb _) (kx.hr.mono (by decide)) rfl (at_mk T.F__law_strokes T.G__law_strokes T.B__law_strokes) kx.tk (em_val (vv 3) (em_nil)))) (by decide) (pg_tup kx.hc (pgs_cons (pgn 10 kx.hN) (pgs_cons (pgn 13 kx.hN) (pgs_nil)))) (svs_one (sv_if (m1 := [.cs, .st 0, .fz, .fz, .fz, .fz, .fz, .fz, .fz, .own, .fz, .fz, .fz, .fz, .fz, .fz, .fz, .un, .fz]) (et_w (ew_and (t1 (rel_inG kx.ux) (EV.eb (vv 10)) (vo 9)) (ew_and (t1 (rel_ne kx.ux) (EV.eb (vv 13)) (EV.eb (ev_ixG kx.ux (vo 9) (EV.eb (vv 10)) (fun _ _ => rfl)))) (ew_and1 (t1 (rel_ne kx.ux) (EV.eb (ev_call (ok_fillings T tb _) (kx.hr.mono (by decide)) rfl (at_mk T.F_fillings T.G_fillings T.B_fillings) kx.tk (em_val (ev_call (ok__law_stroked T tb _) (kx.hr.mono (by decide)) rfl (at_mk T.F__law_stroked T.G__law_stroked T.B__law_stroked) kx.tk (em_val (vv 3) (em_val (vv 10) (em_val (vv 13) (em_nil))))) (em_val (ev_int) (em_nil))))) (EV.eb (ev_tup (ea_nil)))))))) (svs_one (sv_ret (ev_bl))) (svs_nil))))
      (svs_cons (sv_parT (is := [14, 15]) (eq_val (ev_call (ok__law_no_sheet T tb _) (kx.hr.mono (by decide)) rfl (at_mk T.F__law_no_sheet T.G__law_no_sheet T.B__law_no_sheet) kx.tk (em_st (k := 0) (i := 1) rfl (pv 1) (em_nil))) (eq_val (ev_call (ok__law_any T tb _) (kx.hr.mono (by decide)) rfl (at_mk T.F__law_any T.G__law_any T.B__law_any) kx.tk (em_st (k := 0) (i := 1) rfl (pv 1) (em_val (EO.ev (eo_lst (ea_cons (ev_non) (ea_cons (ev_int) (ea_cons (ev_int) (ea_cons (ev_bl) (ea_cons (ev_str) (ea_nil)))))))) (em_nil)))) (eq_nil))) (by decide) rfl (by decide) (fun ta h => ps_asg (pe_tup h) (pg_tup kx.hc (pgs_cons (pgn 14 kx.hN) (pgs_cons (pgn 15 kx.hN) (pgs_nil))))))
      (svs_cons (sv_set (i := 16) (ev_call (ok__law_any T tb _) (kx.hr.mono (by decide)) rfl (at_mk T.F__law_any T.G__law_any T.B__law_any) kx.tk (em_st (k := 0) (i := 1) rfl (pv 1) (em_val (EO.ev (eo_lst (ea_cons (ev_non) (ea_cons (ev_ix (EV.eb (vv 4)) (EV.eb (ev_int)) (fun _ _ => rfl)) (ea_cons (ev_neg (ev_int)) (ea_cons (ev_bl) (ea_cons (ev_str) (ea_nil)))))))) (em_nil)))) (by decide) (ps_set kx.hN rfl (Or.inr rfl) we))
      (svs_cons (sv_seto (i := 17) (eo_lst (ea_cons (ev_lamF (k := 8) (m' := [.cs, .st 0, .fz, .fz, .fz, .fz, .fz, .fz, .fz, .un, .fz, .fz, .fz, .fz, .fz, .fz, .fz, .un, .fz]) T.F__law_word T.B__law_word T.G__law_word sc__law_word rfl (by first | exact Or.inl rfl | exact Or.inr (Or.inl rfl)) (lm__law_word T tb _) (tb (T.cA_law, T.P_law) (List.Mem.head _)) (List.Mem.head _) T.nd rfl rfl rfl rfl rfl (kx.hr.mono (by decide)) (lamS_by (by show lamSB (defScope (top 45)) _ = true; decide +kernel)) (fun Al8 ol8 sl8 Hl8 El8 fl8 cl8 hrl8 => ev_call (ok_fillings T tb _) ((kx_lam kx hrl8).hr.mono (by decide)) rfl (at_mk T.F_fillings T.G_fillings T.B_fillings) (kx_lam kx hrl8).tk (em_val (vv 14) (em_val (vv 15) (em_nil))))) (ea_nil))) (by decide) (ps_set kx.hN rfl (Or.inl rfl) we))
      (svs_cons (sv_append rfl (ev_lamF (k := 8) (m' := [.cs, .st 0, .fz, .fz, .fz, .fz, .fz, .fz, .fz, .un, .fz, .fz, .fz, .fz, .fz, .fz, .fz, .un, .fz]) T.F__law_word T.B__law_word T.G__law_word sc__law_word rfl (by first | exact Or.inl rfl | exact Or.inr (Or.inl rfl)) (lm__law_word T tb _) (tb (T.cA_law, T.P_law) (List.Mem.head _)) (List.Mem.head _) T.nd rfl rfl rfl rfl rfl (kx.hr.mono (by decide)) (lamS_by (by show lamSB (defScope (top 45)) _ = true; decide +kernel)) (fun Al9 ol9 sl9 Hl9 El9 fl9 cl9 hrl9 => ev_call (ok_fillings T tb _) ((kx_lam kx hrl9).hr.mono (by decide)) rfl (at_mk T.F_fillings T.G_fillings T.B_fillings) (kx_lam kx hrl9).tk (em_val (vv 3) (em_val (vv 15) (em_nil))))) (pv 17))
      (svs_cons (sv_append rfl (ev_lamF (k := 8) (m' := [.cs, .st 0, .fz, .fz, .fz, .fz, .fz, .fz, .fz, .un, .fz, .fz, .fz, .fz, .fz, .fz, .fz, .un, .fz]) T.F__law_word T.B__law_word T.G__law_word sc__law_word rfl (by first | exact Or.inl rfl | exact Or.inr (Or.inl rfl)) (lm__law_word T tb _) (tb (T.cA_law, T.P_law) (List.Mem.head _)) (List.Mem.head _) T.nd rfl rfl rfl rfl rfl (kx.hr.mono (by decide)) (lamS_by (by show lamSB (defScope (top 45)) _ = true; decide +kernel)) (fun Al10 ol10 sl10 Hl10 El10 fl10 cl10 hrl10 => ev_call (ok_is_sure T tb _) ((kx_lam kx hrl10).hr.mono (by decide)) rfl (at_mk T.F_is_sure T.G_is_sure T.B_is_sure) (kx_lam kx hrl10).tk (em_val (vv 14) (em_val (vv 16) (em_nil))))) (pv 17))
      (svs_cons (sv_append rfl (ev_lamF (k := 8) (m' := [.cs, .st 0, .fz, .fz, .fz, .fz, .fz, .fz, .fz, .un, .fz, .fz, .fz, .fz, .fz, .fz, .fz, .un, .fz]) T.F__law_word T.B__law_word T.G__law_word sc__law_word rfl (by first | exact Or.inl rfl | exact Or.inr (Or.inl rfl)) (lm__law_word T tb _) (tb (T.cA_law, T.P_law) (List.Mem.head _)) (List.Mem.head _) T.nd rfl rfl rfl rfl rfl (kx.hr.mono (by decide)) (lamS_by (by show lamSB (defScope (top 45)) _ = true; decide +kernel)) (fun Al11 ol11 sl11 Hl11 El11 fl11 cl11 hrl11 => ev_call (ok_is_sure T tb _) ((kx_lam kx hrl11).hr.mono (by decide)) rfl (at_mk T.F_is_sure T.G_is_sure T.B_is_sure) (kx_lam kx hrl11).tk (em_val (vv 3) (em_val (vv 16) (em_nil))))) (pv 17))
      (svs_cons (sv_append rfl (ev_lamF (k := 8) (m' := [.cs, .st 0, .fz, .fz, .fz, .fz, .fz, .fz, .fz, .un, .fz, .fz, .fz, .fz, .fz, .fz, .fz, .un, .fz]) T.F__law_word T.B__law_word T.G__law_word sc__law_word rfl (by first | exact Or.inl rfl | exact Or.inr (Or.inl rfl)) (lm__law_word T tb _) (tb (T.cA_law, T.P_law) (List.Mem.head _)) (List.Mem.head _) T.nd rfl rfl rfl rfl rfl (kx.hr.mono (by decide)) (lamS_by (by show lamSB (defScope (top 45)) _ = true; decide +kernel)) (fun Al12 ol12 sl12 Hl12 El12 fl12 cl12 hrl12 => ev_call (ok_sure_places T tb _) ((kx_lam kx hrl12).hr.mono (by decide)) rfl (at_mk T.F_sure_places T.G_sure_places T.B_sure_places) (kx_lam kx hrl12).tk (em_val (vv 14) (em_nil)))) (pv 17))
      (svs_one (sv_if (m1 := [.cs, .st 0, .fz, .fz, .fz, .fz, .fz, .fz, .fz, .own, .fz, .fz, .fz, .fz, .fz, .fz, .fz, .own, .fz]) (t1 (rel_ne kx.ux) (vo 17) (EO.eb (eo_lst (ea_cons (ev_str) (ea_cons (ev_str) (ea_cons (ev_str) (ea_cons (ev_str) (ea_cons (ev_str) (ea_nil))))))))) (svs_one (sv_ret (ev_bl))) (svs_nil)))))))))))))))))))))
      (svs_one (sv_ret (ev_bl)))
  exact key
end
def Pure : Prop := ∀ ns : List Int, ns.length ≤ 63 → (∀ z ∈ ns, Builtin.Int.intBits z ≤ 1048576) → ∃ S', (dAdopt 1 dt_law dr_law (env0 19 [.list (ns.map .int)]) []).fin false = .ok (.bool true) S'
end K85
namespace K85
open PySem PySem.Spec PyProof.Rows L2 PD
/-- the tape as it may stand -/
def tapeS (cells : List Int) (a b c e : Int) : Store := [[.list (cells.map .int), .int a, .int b, .int c, .int e]]
def TapeOk (S : Store) : Prop := ∃ (cells : List Int) (a : Nat) (b c e : Int), S = tapeS cells a b c e ∧ (∀ z ∈ cells, 0 ≤ z) ∧ 0 ≤ b
@[simp] theorem ix0 {x y z u v : PyData} : fIx (.list [x, y, z, u, v]) (.int 0) = some x := rfl
@[simp] theorem ix1 {x y z u v : PyData} : fIx (.list [x, y, z, u, v]) (.int 1) = some y := rfl
@[simp] theorem ix2 {x y z u v : PyData} : fIx (.list [x, y, z, u, v]) (.int 2) = some z := rfl
@[simp] theorem ix3 {x y z u v : PyData} : fIx (.list [x, y, z, u, v]) (.int 3) = some u := rfl
@[simp] theorem ix4 {x y z u v : PyData} : fIx (.list [x, y, z, u, v]) (.int 4) = some v := rfl
@[simp] theorem si1 {x y z u v d : PyData} : fSetI [x, y, z, u, v] (.int 1) d = some (.list [x, d, z, u, v]) := rfl
@[simp] theorem si2 {x y z u v d : PyData} : fSetI [x, y, z, u, v] (.int 2) d = some (.list [x, y, d, u, v]) := rfl
@[simp] theorem si3 {x y z u v d : PyData} : fSetI [x, y, z, u, v] (.int 3) d = some (.list [x, y, z, d, v]) := rfl
@[simp] theorem si4 {x y z u v d : PyData} : fSetI [x, y, z, u, v] (.int 4) d = some (.list [x, y, z, u, d]) := rfl
@[simp] theorem eqI {i j : Int} : fEq (.int i) (.int j) = some (.bool (decide (i = j))) := by
  have h : ∀ i : Int, SeqAt.shaped (.int i) = true := fun i => rfl
  unfold fEq orF fEqS fEqD
  simp only [h, Bool.and_self, if_true]
  rw [show PyData.eqv (.int i) (.int j) = (i == j) from rfl]
  rfl
theorem ixN_nat {n i : Nat} (h : i < n) : ixN n (i : Int) = some i := by
  unfold ixN
  rw [if_pos (by omega), if_pos (by omega)]
  rfl
theorem ix_nat {xs : List PyData} {i : Nat} {d : PyData} (h : xs[i]? = some d) : fIx (.list xs) (.int (i : Int)) = some d := by
  show L2.atI xs (i : Int) = some d
  unfold L2.atI
  rw [ixN_nat (List.getElem?_eq_some_iff.mp h).1]
  exact h
/-- what comes of the seed and the count -/
def draw (c e n : Int) : Int :=
  let x := ((c + 7919 * e) * 48271) % 2147483647
  let y := (x * (x / 1009 + 69621)) % 2147483647
  let z := (y * (y / 2003 + 40014)) % 2147483563
  (z / 16) % n
theorem draw_lt (c e : Int) {n : Int} (h : 1 ≤ n) : 0 ≤ draw c e n ∧ draw c e n < n := ⟨Int.emod_nonneg _ (by omega), Int.emod_lt_of_pos _ (by omega)⟩
/-- behind the carry -/
theorem tail_ok {n c e : Int} {a : Nat} {b : Int} {cells : List Int} {o : Option PyData} (hc : ∀ z ∈ cells, 0 ≤ z) (hb : 0 ≤ b) (h1 : 1 ≤ n) (h2 : n < 2 ^ 62) : ∃ (r : Int) (S' : Store),
    ((dSeq
              (dIfS (dTest (d2 fGt (dStIx 0 (dC (PyData.int 2))) (dC (PyData.int 0))))
                (dSeq (dSet 3 (d2 (fI cMod fun i j => i % j) (d1 fInt (dStIx 0 (dC (PyData.int 2)))) (dVar 1)))
                  (dSeq
                    (dStSet 0 (dC (PyData.int 2))
                      (d2 (fI cDiv fun i j => i / j) (dStIx 0 (dC (PyData.int 2))) (dVar 1)))
                    (dRet (dVar 3))))
                dNx)
              (dSeq (dStSet 0 (dC (PyData.int 4)) (d2 fAdd (dStIx 0 (dC (PyData.int 4))) (dC (PyData.int 1))))
                (dSeq
                  (dSet 4
                    (d2 (fI cMod fun i j => i % j)
                      (d1 fInt
                        (d2 fTimes
                          (d1 fInt
                            (d2 fAdd (dStIx 0 (dC (PyData.int 3)))
                              (d2 fTimes (dC (PyData.int 7919)) (dStIx 0 (dC (PyData.int 4))))))
                          (dC (PyData.int 48271))))
                      (dC (PyData.int 2147483647))))
                  (dSeq
                    (dSet 4
                      (d2 (fI cMod fun i j => i % j)
                        (d1 fInt
                          (d2 fTimes (dVar 4)
                            (d2 fAdd (d2 (fI cDiv fun i j => i / j) (dVar 4) (dC (PyData.int 1009)))
                              (dC (PyData.int 69621)))))
                        (dC (PyData.int 2147483647))))
                    (dSeq
                      (dSet 4
                        (d2 (fI cMod fun i j => i % j)
                          (d1 fInt
                            (d2 fTimes (dVar 4)
                              (d2 fAdd (d2 (fI cDiv fun i j => i / j) (dVar 4) (dC (PyData.int 2003)))
                                (dC (PyData.int 40014)))))
                          (dC (PyData.int 2147483563))))
                      (dRet
                        (d2 (fI cMod fun i j => i % j)
                          (d1 fInt (d2 (fI cDiv fun i j => i / j) (dVar 4) (dC (PyData.int 16)))) (dVar 1))))))))
      [some .none, some (.int n), o, none, none] (tapeS cells a b c e)).fin false = .ok (.int r) S' ∧ TapeOk S' ∧ 0 ≤ r ∧ r < n := by
  have hn : n.natAbs.log2 < 9000 := by
    have h3 : n.natAbs < 2 ^ 62 := by omega
    have h4 : n.natAbs ≠ 0 := by omega
    have := (Nat.log2_lt h4).mpr h3
    omega
  have hd : cDiv b n = true := by unfold cDiv; simp [hn]; omega
  have hm : ∀ i, cMod i n = true := fun i => by unfold cMod; simp; omega
  by_cases hb0 : 0 < b
  · refine ⟨b % n, tapeS cells a (b / n) c e, ?_, ⟨cells, a, b / n, c, e, rfl, hc, Int.ediv_nonneg hb (by omega)⟩, Int.emod_nonneg _ (by omega), Int.emod_lt_of_pos _ (by omega)⟩
    simp [tapeS, hb0, hd, hm, RS.fin]
  · refine ⟨draw c (e + 1) n, tapeS cells a b c (e + 1), ?_, ⟨cells, a, b, c, e + 1, rfl, hc, hb⟩, (draw_lt _ _ h1).1, (draw_lt _ _ h1).2⟩
    have m1 : ∀ i, cMod i 2147483647 = true := fun i => rfl
    have m2 : ∀ i, cMod i 2147483563 = true := fun i => rfl
    have v1 : ∀ i, cDiv i 1009 = true := fun i => by unfold cDiv; decide
    have v2 : ∀ i, cDiv i 2003 = true := fun i => by unfold cDiv; decide
    have v3 : ∀ i, cDiv i 16 = true := fun i => by unfold cDiv; decide
    have t1 : ∀ i, fTimes (.int 7919) (.int i) = some (.int (7919 * i)) := fun i => f_times (cMul_l (by decide) (by decide))
    have t2 : ∀ i, fTimes (.int i) (.int 48271) = some (.int (i * 48271)) := fun i => f_times (cMul_r (by decide) (by decide))
    have t3 : ∀ (i j : Int), fTimes (.int (i % 2147483647)) (.int j) = some (.int (i % 2147483647 * j)) := fun i j => f_times (cMul_l (by omega) (by omega))
    simp [tapeS, hb0, hm, m1, m2, v1, v2, v3, t1, t2, t3, RS.fin, draw]
theorem draw_ok {S : Store} {n : Int} (h : TapeOk S) (h1 : 1 ≤ n) (h2 : n < 2 ^ 62) : ∃ (r : Int) (S' : Store), d__law_draw [.none, .int n] S = .ok (.int r) S' ∧ TapeOk S' ∧ 0 ≤ r ∧ r < n := by
  obtain ⟨cells, a, b, c, e, rfl, hc, hb⟩ := h
  unfold d__law_draw dFn b__law_draw env0
  simp only [tapeS]
  by_cases hb0 : b = 0
  · by_cases ha : a < cells.length
    · have hx : ((cells.map PyData.int))[a]? = some (.int cells[a]) := by rw [List.getElem?_map, List.getElem?_eq_getElem ha]; rfl
      have t1 : ∀ i, fTimes (.int i) (.int 69621) = some (.int (i * 69621)) := fun i => f_times (cMul_r (by decide) (by decide))
      have t2 : ∀ i, fTimes (.int i) (.int 40692) = some (.int (i * 40692)) := fun i => f_times (cMul_r (by decide) (by decide))
      have m1 : ∀ i, cMod i 2147483629 = true := fun i => rfl
      have p1 : cPow 10 18 = true := by unfold cPow; decide
      have hcell : 0 ≤ cells[a] := hc _ (List.getElem_mem ha)
      by_cases hbig : (1000000000000000000 : Int) ≤ cells[a]
      · obtain ⟨r, S', q⟩ := tail_ok (a := a + 1) (b := cells[a]) (c := (c * 69621 + cells[a] * 40692 + 31) % 2147483629) (e := e) (o := some (.int cells[a])) hc hcell h1 h2
        refine ⟨r, S', ?_, q.2⟩
        rw [← q.1]
        simp [hb0, ha, ix_nat hx, t1, t2, m1, p1, hbig, tapeS]
      · obtain ⟨r, S', q⟩ := tail_ok (a := a + 1) (b := b) (c := (c * 69621 + cells[a] * 40692 + 31) % 2147483629) (e := e) (o := some (.int cells[a])) hc hb h1 h2
        refine ⟨r, S', ?_, q.2⟩
        rw [← q.1]
        simp [hb0, ha, ix_nat hx, t1, t2, m1, p1, hbig, tapeS]
    · obtain ⟨r, S', q⟩ := tail_ok (a := a) (b := b) (c := c) (e := e) (o := none) hc hb h1 h2
      refine ⟨r, S', ?_, q.2⟩
      rw [← q.1]
      simp [hb0, ha, tapeS]
  · obtain ⟨r, S', q⟩ := tail_ok (a := a) (b := b) (c := c) (e := e) (o := none) hc hb h1 h2
    refine ⟨r, S', ?_, q.2⟩
    rw [← q.1]
    simp [hb0, tapeS]
theorem any_ok {S : Store} {xs : List PyData} (h : TapeOk S) (hx : xs ≠ []) (hl : xs.length < 2 ^ 62) : ∃ (x : PyData) (S' : Store), d__law_any [.none, .list xs] S = .ok x S' ∧ TapeOk S' ∧ x ∈ xs := by
  have h0 : 0 < xs.length := List.length_pos_iff.mpr hx
  obtain ⟨r, S', q, ht, r0, r1⟩ := draw_ok (n := xs.length) h (by omega) (by omega)
  obtain ⟨j, rfl⟩ : ∃ j : Nat, r = j := ⟨r.toNat, by omega⟩
  have hj : j < xs.length := by omega
  refine ⟨xs[j], S', ?_, ht, List.getElem_mem hj⟩
  unfold d__law_any dFn b__law_any env0
  simp [q, ix_nat (List.getElem?_eq_getElem hj), RS.fin]
end K85
namespace K85
open PySem PySem.Spec PyProof.Rows L2 PD
/-! ### loops and comprehensions by typed lists -/
theorem comp_t {α β : Type} {t : Tg} {tt : DT} {de : DE} {ρ : PD.Env} {S : Store} {e : α → PyData} {g : β → PyData} {p : α → Bool} {f : α → β} : ∀ {xs : List α} {acc : List PyData}, (∀ a ∈ xs, ∃ ρ1, t.bind (e a) ρ = some ρ1 ∧ tt ρ1 S = .ok (p a) S ∧ (p a = true → de ρ1 S = .ok (g (f a)) S)) →
    compL t tt de ρ acc (xs.map e) S = .ok (.list (acc ++ ((xs.filter p).map f).map g)) S
  | [], acc, _ => by simp [compL_nil]
  | a :: xs, acc, h => by
    obtain ⟨ρ1, e1, e2, e3⟩ := h a (List.mem_cons_self ..)
    rw [List.map_cons, compL_cons, e1]
    simp only [e2, R.calm_ok, R.bind_ok]
    cases hp : p a with
    | true =>
      rw [if_pos rfl, e3 hp]
      simp only [R.calm_ok, R.bind_ok]
      rw [comp_t fun b hb => h b (List.mem_cons_of_mem _ hb), List.filter_cons_of_pos (by simpa using hp)]
      simp
    | false =>
      rw [if_neg (by simp), comp_t fun b hb => h b (List.mem_cons_of_mem _ hb), List.filter_cons_of_neg (by simp [hp])]
theorem comp_y {α β : Type} {t : Tg} {de : DE} {ρ : PD.Env} {S : Store} {e : α → PyData} {g : β → PyData} {f : α → β} {xs : List α} {acc : List PyData} (h : ∀ a ∈ xs, ∃ ρ1, t.bind (e a) ρ = some ρ1 ∧ de ρ1 S = .ok (g (f a)) S) :
    compL t dYes de ρ acc (xs.map e) S = .ok (.list (acc ++ (xs.map f).map g)) S := by
  have := comp_t (t := t) (tt := dYes) (de := de) (ρ := ρ) (S := S) (e := e) (g := g) (p := fun _ => true) (f := f) (xs := xs) (acc := acc) fun a ha => by
    obtain ⟨ρ1, e1, e2⟩ := h a ha
    exact ⟨ρ1, e1, rfl, fun _ => e2⟩
  rw [this, List.filter_eq_self.mpr (fun _ _ => rfl)]
/-- what a test that draws leaves is a part of all -/
theorem comp_sub {t : Tg} {tt : DT} {de : DE} {ρ : PD.Env} {I : Store → Prop} {f : PyData → PyData} : ∀ {ds acc : List PyData} {S : Store}, I S → (∀ d ∈ ds, ∀ S, I S → ∃ ρ1, t.bind d ρ = some ρ1 ∧ ∃ b S1, tt ρ1 S = .ok b S1 ∧ I S1 ∧ (b = true → de ρ1 S1 = .ok (f d) S1)) →
    ∃ (ys : List PyData) (S' : Store), compL t tt de ρ acc ds S = .ok (.list (acc ++ ys.map f)) S' ∧ I S' ∧ ys.Sublist ds
  | [], acc, S, hi, _ => ⟨[], S, by simp [compL_nil], hi, .slnil⟩
  | d :: ds, acc, S, hi, h => by
    obtain ⟨ρ1, e1, b, S1, e2, i1, hb⟩ := h d (List.mem_cons_self ..) S hi
    rw [compL_cons, e1]
    simp only [e2, R.calm_ok, R.bind_ok]
    cases b with
    | false =>
      rw [if_neg (by simp)]
      obtain ⟨ys, S', q1, q2, q3⟩ := comp_sub (acc := acc) i1 fun d' hd => h d' (List.mem_cons_of_mem _ hd)
      exact ⟨ys, S', q1, q2, .cons _ q3⟩
    | true =>
      rw [if_pos rfl, hb rfl]
      simp only [R.calm_ok, R.bind_ok]
      obtain ⟨ys, S', q1, q2, q3⟩ := comp_sub (acc := acc ++ [f d]) i1 fun d' hd => h d' (List.mem_cons_of_mem _ hd)
      exact ⟨d :: ys, S', by rw [q1]; simp, q2, .cons₂ _ q3⟩
theorem for_n {t : Tg} {body : DS} {I : Nat → PD.Env → Store → Prop} : ∀ {ds : List PyData} {k : Nat} {ρ : PD.Env} {S : Store}, I k ρ S → (∀ j d, ds[j]? = some d → ∀ ρ S, I (k + j) ρ S → ∃ ρ1, t.bind d ρ = some ρ1 ∧ ∃ ρ2 S2, body ρ1 S = .nx ρ2 S2 ∧ I (k + j + 1) ρ2 S2) → ∃ ρ' S', forL t body ds ρ S = .nx ρ' S' ∧ I (k + ds.length) ρ' S'
  | [], k, ρ, S, hi, _ => ⟨ρ, S, forL_nil .., hi⟩
  | d :: ds, k, ρ, S, hi, h => by
    obtain ⟨ρ1, e1, ρ2, S2, e2, i2⟩ := h 0 d rfl ρ S hi
    rw [forL_cons, e1]
    simp only [e2]
    obtain ⟨ρ', S', q1, q2⟩ := for_n (k := k + 1) i2 fun j d' hd ρ S hi => by
      have := h (j + 1) d' (by simpa using hd) ρ S (by rw [show k + (j + 1) = k + 1 + j from by omega]; exact hi)
      rw [show k + (j + 1) + 1 = k + 1 + j + 1 from by omega] at this
      exact this
    exact ⟨ρ', S', q1, by rw [List.length_cons, show k + (ds.length + 1) = k + 1 + ds.length from by omega]; exact q2⟩
/-- a while with a measure -/
theorem while_go {t : DT} {body : DS} {I : PD.Env → Store → Prop} {μ : PD.Env → Nat} {G : RS → Prop}
    (h : ∀ ρ S, I ρ S → (∃ S1, t ρ S = .ok false S1 ∧ G (.nx ρ S1)) ∨ (∃ S1, t ρ S = .ok true S1 ∧ ((∃ ρ2 S2, body ρ S1 = .nx ρ2 S2 ∧ I ρ2 S2 ∧ μ ρ2 < μ ρ) ∨ ∃ d S2, body ρ S1 = .ret d S2 ∧ G (.ret d S2)))) :
    ∀ (n : Nat) (ρ : PD.Env) (S : Store), I ρ S → μ ρ < n → G (whL t body n ρ S)
  | 0, ρ, S, _, hm => absurd hm (Nat.not_lt_zero _)
  | n + 1, ρ, S, hi, hm => by
    rw [whL_succ]
    rcases h ρ S hi with ⟨S1, e1, g⟩ | ⟨S1, e1, ⟨ρ2, S2, e2, i2, m2⟩ | ⟨d, S2, e2, g⟩⟩
    · rw [e1]
      simp only [R.st_ok]
      rw [if_neg (by simp)]
      exact g
    · rw [e1]
      simp only [R.st_ok, if_true, e2]
      exact while_go h n ρ2 S2 i2 (by omega)
    · rw [e1]
      simp only [R.st_ok, if_true, e2]
      exact g
@[simp] theorem ap_rng1 {a : DE} {ρ : PD.Env} {S : Store} : dRng1 a ρ S = (a ρ S).bind fun x S1 => match x with | .int j => if cR j && sz j.toNat then .ok (rngD 0 j.toNat) S1 else .bad | _ => .bad := rfl
@[simp] theorem ap_rng2 {a b : DE} {ρ : PD.Env} {S : Store} : dRng2 a b ρ S = (a ρ S).bind fun x S1 => (b ρ S1).bind fun y S2 => match x, y with | .int i, .int j => if cR i && cR j && sz (j - i).toNat then .ok (rngD i (j - i).toNat) S2 else .bad | _, _ => .bad := rfl
@[simp] theorem ap_andv {a b : DE} {ρ : PD.Env} {S : Store} : dAndV a b ρ S = (a ρ S).bind fun x S1 => asB x (b ρ) (.ok (.bool false)) S1 := rfl
@[simp] theorem ap_orv {a b : DE} {ρ : PD.Env} {S : Store} : dOrV a b ρ S = (a ρ S).bind fun x S1 => asB x (.ok (.bool true)) (b ρ) S1 := rfl
@[simp] theorem ap_notv {a : DE} {ρ : PD.Env} {S : Store} : dNotV a ρ S = (a ρ S).bind fun x S1 => asB x (.ok (.bool false)) (.ok (.bool true)) S1 := rfl
@[simp] theorem asB_t {t f : Store → R PyData} {S : Store} : asB (.bool true) t f S = t S := rfl
@[simp] theorem asB_f {t f : Store → R PyData} {S : Store} : asB (.bool false) t f S = f S := rfl
@[simp] theorem ap_while {n : Nat} {t : DT} {body : DS} {ρ : PD.Env} {S : Store} : dWhile n t body ρ S = whL t body n ρ S := rfl
@[simp] theorem ap_m2 {F : PyData → PyData → Option PyData} {a b : DE} {ρ : PD.Env} {S : Store} : dM2 F a b ρ S = (a ρ S).bind fun x S1 => match x with | .list _ => (b ρ S1).bind fun y S2 => ofO (F x y) S2 | _ => .bad := rfl
@[simp] theorem sz_small {n : Nat} (h : n ≤ 10000) : sz n = true := by
  unfold sz
  rw [decide_eq_true_iff, sizeLine_eq]
  omega
theorem cR_small {i : Int} (h1 : -10000 ≤ i) (h2 : i ≤ 10000) : cR i = true := by
  unfold cR
  rw [decide_eq_true_iff]
  omega
@[simp] theorem fTupleL {xs : List PyData} : fTuple (.list xs) = some (.tuple xs) := rfl
@[simp] theorem seqT {xs : List PyData} : seqD (.tuple xs) = some xs := rfl
@[simp] theorem seqL {xs : List PyData} : seqD (.list xs) = some xs := rfl
@[simp] theorem neI {i j : Int} : fNe (.int i) (.int j) = some (.bool (!decide (i = j))) := by
  have h : ∀ i : Int, SeqAt.shaped (.int i) = true := fun i => rfl
  unfold fNe orF fNeS fNeD
  simp only [h, Bool.and_self, if_true]
  rw [show PyData.eqv (.int i) (.int j) = (i == j) from rfl]
  rfl
@[simp] theorem isT_int {i : Int} : isT "int" (.int i) = true := rfl
@[simp] theorem isT_bool {i : Int} : isT "bool" (.int i) = false := rfl
@[simp] theorem isT_tuple {xs : List PyData} : isT "tuple" (.tuple xs) = true := rfl
theorem fAddT_ok {xs ys : List PyData} (h : xs.length + ys.length ≤ 10000) : fAdd (.tuple xs) (.tuple ys) = some (.tuple (xs ++ ys)) := by
  show (if sz (xs.length + ys.length) then some (PyData.tuple (xs ++ ys)) else none) = _
  rw [sz_small h]
  rfl
theorem fAddL_ok {xs ys : List PyData} (h : xs.length + ys.length ≤ 10000) : fAddL (.list xs) (.list ys) = some (.list (xs ++ ys)) := by
  show (if sz (xs.length + ys.length) then some (PyData.list (xs ++ ys)) else none) = _
  rw [sz_small h]
  rfl
theorem fExt_ok {xs ys : List PyData} (h : xs.length + ys.length ≤ 10000) : fExt xs (.list ys) = some (.list (xs ++ ys)) := by
  unfold fExt
  simp [sz_small h]
theorem fApp_ok {xs : List PyData} {d : PyData} (h : xs.length < 10000) : fApp xs d = some (.list (xs ++ [d])) := by
  unfold fApp
  rw [if_pos (by rw [decide_eq_true_iff, sizeLine_eq]; omega)]
theorem cutA_take {α : Type} (l : List α) (k : Nat) : cutA l none (some (k : Int)) = l.take k := by
  unfold cutA
  rw [show HT.sIx l.length 0 none = 0 from rfl, show HT.sIx l.length l.length (some (k : Int)) = min k l.length from HT.sIx_nat ..]
  simp
theorem cutA_drop {α : Type} (l : List α) (k : Nat) : cutA l (some (k : Int)) none = l.drop k := by
  unfold cutA
  rw [show HT.sIx l.length l.length none = l.length from rfl, show HT.sIx l.length 0 (some (k : Int)) = min k l.length from HT.sIx_nat ..]
  by_cases h : k ≤ l.length
  · rw [Nat.min_eq_left h]
    exact List.take_of_length_le (by simp)
  · rw [Nat.min_eq_right (by omega)]
    simp
    omega
theorem slT {xs : List PyData} {lo hi : Option Int} : fSl (.tuple xs) lo hi = some (.tuple (cutA xs lo hi)) := rfl
theorem slL {xs : List PyData} {lo hi : Option Int} : fSl (.list xs) lo hi = some (.list (cutA xs lo hi)) := rfl
theorem ixT {xs : List PyData} {i : Nat} {d : PyData} (h : xs[i]? = some d) : fIx (.tuple xs) (.int (i : Int)) = some d := by
  show L2.atI xs (i : Int) = some d
  unfold L2.atI
  rw [ixN_nat (List.getElem?_eq_some_iff.mp h).1]
  exact h
theorem ixT_0 {x : PyData} {xs : List PyData} : fIx (.tuple (x :: xs)) (.int 0) = some x := ixT (i := 0) rfl
theorem ixT_1 {x y : PyData} {xs : List PyData} : fIx (.tuple (x :: y :: xs)) (.int 1) = some y := ixT (i := 1) rfl
theorem ixT_2 {x y z : PyData} {xs : List PyData} : fIx (.tuple (x :: y :: z :: xs)) (.int 2) = some z := ixT (i := 2) rfl
theorem ixL_0 {x : PyData} {xs : List PyData} : fIx (.list (x :: xs)) (.int 0) = some x := ix_nat (i := 0) rfl
theorem rngD0 (n : Nat) : rngD 0 n = (List.range n).map fun i : Nat => PyData.int (i : Int) := by
  unfold rngD
  apply List.map_congr_left
  intro i _
  simp
theorem rngD_get {lo : Int} {n j : Nat} {d : PyData} (h : (rngD lo n)[j]? = some d) : d = .int (lo + j) ∧ j < n := by
  unfold rngD at h
  rw [List.getElem?_map] at h
  cases e : (List.range n)[j]? with
  | none => rw [e] at h; cases h
  | some i =>
    rw [e] at h
    obtain ⟨h1, h2⟩ := List.getElem?_eq_some_iff.mp e
    rw [List.getElem_range] at h2
    subst h2
    rw [List.length_range] at h1
    exact ⟨(Option.some.inj h).symm, h1⟩
@[simp] theorem rngD_len {lo : Int} {n : Nat} : (rngD lo n).length = n := by simp [rngD]
theorem all_map {α : Type} {f : α → PyData} {P : α → Prop} : ∀ {xs : List PyData}, (∀ x ∈ xs, ∃ a, x = f a ∧ P a) → ∃ as : List α, xs = as.map f ∧ ∀ a ∈ as, P a
  | [], _ => ⟨[], rfl, fun a h => by cases h⟩
  | x :: xs, h => by
    obtain ⟨a, rfl, ha⟩ := h x (List.mem_cons_self ..)
    obtain ⟨as, rfl, hs⟩ := all_map (xs := xs) fun y hy => h y (List.mem_cons_of_mem _ hy)
    exact ⟨a :: as, rfl, fun b hb => by
      rcases List.mem_cons.mp hb with rfl | hb
      · exact ha
      · exact hs b hb⟩
/-! ### webs, paints, sheets -/
abbrev Tie := Nat × Nat
abbrev Paint := List (Option Nat)
abbrev natD (i : Nat) : PyData := .int (i : Int)
def tieD (p : Tie) : PyData := .tuple [.int (p.1 : Int), .int (p.2 : Int)]
def webD (n : Nat) (ts : List Tie) : PyData := .tuple [.int (n : Int), .tuple (ts.map tieD)]
def colD : Option Nat → PyData
  | none => .none
  | some c => .int (c : Int)
def paintD (p : Paint) : PyData := .tuple (p.map colD)
def sheetD (n : Nat) (ts : List Tie) (k : Nat) (p : Paint) : PyData := .tuple [webD n ts, .int (k : Int), paintD p]
def tieLt (a b : Tie) : Prop := a.1 < b.1 ∨ (a.1 = b.1 ∧ a.2 < b.2)
structure WebOk (n : Nat) (ts : List Tie) : Prop where
  lo : 1 ≤ n
  hi : n ≤ 6
  few : ts.length ≤ 100
  lt : ∀ p ∈ ts, p.1 < p.2 ∧ p.2 < n
  up : ts.Pairwise tieLt
/-- the places tied to one -/
def tiedTo (ts : List Tie) (v : Nat) : List Nat := ((ts.filter fun t => decide (t.1 = v)).map (·.2)) ++ ((ts.filter fun t => decide (t.2 = v)).map (·.1))
theorem mem_tied {ts : List Tie} {v o : Nat} : o ∈ tiedTo ts v ↔ (v, o) ∈ ts ∨ (o, v) ∈ ts := by
  unfold tiedTo
  simp only [List.mem_append, List.mem_map, List.mem_filter, decide_eq_true_eq]
  constructor
  · rintro (⟨t, ⟨h, rfl⟩, rfl⟩ | ⟨t, ⟨h, rfl⟩, rfl⟩)
    · exact .inl h
    · exact .inr h
  · rintro (h | h)
    · exact .inl ⟨_, ⟨h, rfl⟩, rfl⟩
    · exact .inr ⟨_, ⟨h, rfl⟩, rfl⟩
theorem tied_lt {n : Nat} {ts : List Tie} (w : WebOk n ts) {v o : Nat} (h : o ∈ tiedTo ts v) : o < n ∧ v < n := by
  rcases mem_tied.mp h with h | h
  · have := w.lt _ h; simp at this; omega
  · have := w.lt _ h; simp at this; omega
theorem tied_ok {n : Nat} {ts : List Tie} (w : WebOk n ts) (v : Nat) (S : Store) : d_tied_to [webD n ts, natD v] S = .ok (.list ((tiedTo ts v).map natD)) S := by
  have h1 := comp_t (t := .tup [2, 3]) (tt := (dTest (d2 fEq (dVar 2) (dVar 1)))) (de := (dVar 3)) (ρ := [some (webD n ts), some (natD v), none, none]) (S := S) (e := tieD) (g := natD) (p := fun t => decide (t.1 = v)) (f := (·.2)) (xs := ts) (acc := []) fun t _ => ⟨[some (webD n ts), some (natD v), some (natD t.1), some (natD t.2)], rfl, by simp [natD, Int.natCast_inj], fun _ => by simp⟩
  have h2 := comp_t (t := .tup [2, 3]) (tt := (dTest (d2 fEq (dVar 3) (dVar 1)))) (de := (dVar 2)) (ρ := [some (webD n ts), some (natD v), none, none]) (S := S) (e := tieD) (g := natD) (p := fun t => decide (t.2 = v)) (f := (·.1)) (xs := ts) (acc := []) fun t _ => ⟨[some (webD n ts), some (natD v), some (natD t.1), some (natD t.2)], rfl, by simp [natD, Int.natCast_inj], fun _ => by simp⟩
  have i1 : fIx (webD n ts) (.int 1) = some (.tuple (ts.map tieD)) := ixT_1
  have hf := w.few
  have l1 := List.length_filter_le (fun t : Tie => decide (t.1 = v)) ts
  have l2 := List.length_filter_le (fun t : Tie => decide (t.2 = v)) ts
  have ha := fAddL_ok (xs := ((ts.filter fun t => decide (t.1 = v)).map (·.2)).map natD) (ys := ((ts.filter fun t => decide (t.2 = v)).map (·.1)).map natD) (by simp; omega)
  rw [← List.map_append] at ha
  rw [List.nil_append] at h1 h2
  unfold d_tied_to dFn b_tied_to env0
  unfold tiedTo
  generalize ((ts.filter fun t => decide (t.1 = v)).map (·.2)).map natD = u1 at *
  generalize ((ts.filter fun t => decide (t.2 = v)).map (·.1)).map natD = u2 at *
  simp [i1, h1, h2, ha, RS.fin, -List.map_append]
/-- a place's colour -/
def colAt (p : Paint) (v : Nat) : Option Nat := p.getD v none
/-- the colours about a place -/
def usedC (ts : List Tie) (p : Paint) (v : Nat) : List (Option Nat) := (tiedTo ts v).map fun o => colAt p o
def freeC (ts : List Tie) (k : Nat) (p : Paint) (v : Nat) : List Nat := (List.range k).filter fun c => !decide (some c ∈ usedC ts p v)
theorem eqv_col (a : Option Nat) (c : Nat) : PyData.eqv (colD a) (.int (c : Int)) = decide (a = some c) := by
  cases a with
  | none => rfl
  | some a =>
    show ((a : Int) == (c : Int)) = _
    rw [Bool.eq_iff_iff]
    simp [Int.natCast_inj]
theorem in_cols (c : Nat) (l : List (Option Nat)) : fIn true (.int (c : Int)) (.list (l.map colD)) = some (.bool (!decide (some c ∈ l))) := by
  have e : inOk (.int (c : Int)) (l.map colD) = true := by
    unfold inOk
    rw [Bool.or_eq_true]
    left
    show (true && (l.map colD).all flatD) = true
    rw [Bool.true_and, List.all_eq_true]
    intro x hx
    obtain ⟨a, _, rfl⟩ := List.mem_map.mp hx
    cases a <;> rfl
  show (if inOk (.int (c : Int)) (l.map colD) = true then _ else none) = _
  rw [if_pos e]
  simp only [if_true]
  congr 3
  unfold inD
  rw [List.any_map, Bool.eq_iff_iff]
  simp only [Function.comp_def, eqv_col, List.any_eq_true, decide_eq_true_eq]
  constructor
  · rintro ⟨a, ha, rfl⟩; exact ha
  · exact fun h => ⟨_, h, rfl⟩
theorem paint_get {p : Paint} {o : Nat} (h : o < p.length) : (p.map colD)[o]? = some (colD (colAt p o)) := by
  unfold colAt
  rw [List.getElem?_map, List.getD_eq_getElem?_getD, List.getElem?_eq_getElem h]
  rfl
theorem enumD_t {α : Type} {e : α → PyData} : ∀ (xs : List α) (k : Nat), enumD (k : Int) (xs.map e) = (xs.zipIdx k).map fun a => PyData.tuple [.int (a.2 : Int), e a.1]
  | [], k => rfl
  | x :: xs, k => by
    have := enumD_t (e := e) xs (k + 1)
    show PyData.tuple [.int (k : Int), e x] :: enumD ((k : Int) + 1) (xs.map e) = _
    rw [show ((k : Int) + 1) = ((k + 1 : Nat) : Int) by omega, this]
    rfl
end K85
namespace K85
open PySem PySem.Spec PyProof.Rows L2 PD
theorem flat_len {α β : Type} {g : α → List β} {c : Nat} : ∀ {l : List α}, (∀ a ∈ l, (g a).length ≤ c) → (l.flatMap g).length ≤ c * l.length
  | [], _ => by simp
  | a :: l, h => by
    have h1 := h a (List.mem_cons_self ..)
    have h2 := flat_len (l := l) fun b hb => h b (List.mem_cons_of_mem _ hb)
    rw [List.flatMap_cons, List.length_append, List.length_cons, Nat.mul_add, Nat.mul_one]
    omega
theorem free_len (ts : List Tie) (k : Nat) (p : Paint) (v : Nat) : (freeC ts k p v).length ≤ k := by
  have := List.length_filter_le (fun c => !decide (some c ∈ usedC ts p v)) (List.range k)
  rw [List.length_range] at this
  exact this
def strokesAt (ts : List Tie) (k : Nat) (p : Paint) (v : Nat) : List (Nat × Nat) := if colAt p v = none then (freeC ts k p v).map fun c => (v, c) else []
def strokesOf (ts : List Tie) (k : Nat) (p : Paint) : List (Nat × Nat) := (List.range p.length).flatMap (strokesAt ts k p)
theorem strokesAt_len (ts : List Tie) (k : Nat) (p : Paint) (v : Nat) : (strokesAt ts k p v).length ≤ k := by
  unfold strokesAt
  split
  · rw [List.length_map]; exact free_len ..
  · simp
theorem isNone_col (a : Option Nat) : isNone (colD a) = decide (a = none) := by cases a <;> rfl
def sbody : DS := (dIfS (dTest (d2 (fIsN false) (dVar 5) (dC .none))) (dSeq (dSet 6 (dComp (dIt seqD (dCall d_tied_to (dCons (dVar 0) (dCons (dVar 4) (dNil))))) (.nm 7) (dYes) (d2 fIx (dVar 2) (dVar 7)))) (dExt 3 (dComp (dRng1 (dVar 1)) (.nm 8) (dTest (d2 (fIn true) (dVar 8) (dVar 6))) (dTup (dCons (dVar 4) (dCons (dVar 8) (dNil))))))) (dNx))
theorem isN_col {a : Option Nat} : fIsN false (colD a) .none = some (.bool (decide (a = none))) := by
  show some (PyData.bool (isNone (colD a))) = _
  rw [isNone_col]
theorem isN_colN {a : Option Nat} : fIsN true (colD a) .none = some (.bool (!decide (a = none))) := by
  show some (PyData.bool (!isNone (colD a))) = _
  rw [isNone_col]
theorem stroke_step {W P C : PyData} {kk : Int} {V : PyData} {xs ls us fs : List PyData} {Z : PyData} {o6 : Option PyData} {S : Store} (hN : fIsN false C .none = some (.bool true)) (e1 : d_tied_to [W, V] S = .ok (.list ls) S)
    (h1 : compL (.nm 7) dYes (d2 fIx (dVar 2) (dVar 7)) [some W, some (.int kk), some P, some (.list xs), some V, some C, o6, none, none] [] ls S = .ok (.list us) S) (c1 : cR kk = true) (c2 : sz kk.toNat = true)
    (h2 : compL (.nm 8) (dTest (d2 (fIn true) (dVar 8) (dVar 6))) (dTup (dCons (dVar 4) (dCons (dVar 8) (dNil)))) [some W, some (.int kk), some P, some (.list xs), some V, some C, some (.list us), none, none] [] (rngD 0 kk.toNat) S = .ok (.list fs) S) (hx : fExt xs (.list fs) = some Z) :
    sbody [some W, some (.int kk), some P, some (.list xs), some V, some C, o6, none, none] S = .nx [some W, some (.int kk), some P, some Z, some V, some C, some (.list us), none, none] S := by
  unfold sbody
  simp [hN, e1, h1, onLst, c1, c2, h2, putO, hx]
theorem stroke_turn {n : Nat} {ts : List Tie} {k : Nat} {p : Paint} {S : Store} {xs : List (Nat × Nat)} {o6 : Option PyData} {v : Nat} (w : WebOk n ts) (hp : p.length = n) (hk : k ≤ 4) (hx : xs.length ≤ 1000) (hv : v < n) :
    ∃ o6', sbody [some (webD n ts), some (natD k), some (paintD p), some (.list (xs.map tieD)), some (natD v), some (colD (colAt p v)), o6, none, none] S = .nx [some (webD n ts), some (natD k), some (paintD p), some (.list ((xs ++ strokesAt ts k p v).map tieD)), some (natD v), some (colD (colAt p v)), o6', none, none] S := by
  unfold strokesAt
  by_cases h : colAt p v = none
  · have h1 := comp_y (t := .nm 7) (de := (d2 fIx (dVar 2) (dVar 7))) (ρ := [some (webD n ts), some (natD k), some (paintD p), some (.list (xs.map tieD)), some (natD v), some (colD (colAt p v)), o6, none, none]) (S := S) (e := natD) (g := colD) (f := fun o => colAt p o) (xs := tiedTo ts v) (acc := []) (fun o ho => by
      refine ⟨_, rfl, ?_⟩
      have := ixT (paint_get (p := p) (o := o) (by rw [hp]; exact (tied_lt w ho).1))
      simp only [ap_d2, ap_var, List.getD_cons_succ, List.getD_cons_zero, List.set_cons_succ, List.set_cons_zero, ofO_some, R.bind_ok]
      show ofO (fIx (.tuple (p.map colD)) (.int (o : Int))) S = _
      rw [this]
      rfl)
    rw [List.nil_append] at h1
    have h2 := comp_t (t := .nm 8) (tt := (dTest (d2 (fIn true) (dVar 8) (dVar 6)))) (de := (dTup (dCons (dVar 4) (dCons (dVar 8) (dNil))))) (ρ := [some (webD n ts), some (natD k), some (paintD p), some (.list (xs.map tieD)), some (natD v), some (colD (colAt p v)), some (.list ((usedC ts p v).map colD)), none, none]) (S := S) (e := natD) (g := tieD) (p := fun c => !decide (some c ∈ usedC ts p v)) (f := fun c => (v, c)) (xs := List.range k) (acc := []) (fun c hc => by
      refine ⟨_, rfl, ?_, fun _ => ?_⟩
      · have := in_cols c (usedC ts p v)
        simp [natD, this]
      · simp [sz_small, tieD, natD])
    rw [List.nil_append] at h2
    have e1 := tied_ok w v S
    have c1 : cR (k : Int) = true := cR_small (by omega) (by omega)
    have c2 : sz (k : Int).toNat = true := sz_small (by omega)
    have hr : rngD 0 (k : Int).toNat = (List.range k).map natD := by rw [Int.toNat_natCast, rngD0]
    have hl := free_len ts k p v
    have hx2 := fExt_ok (xs := xs.map tieD) (ys := ((freeC ts k p v).map fun c => (v, c)).map tieD) (by simp; omega)
    rw [← List.map_append] at hx2
    refine ⟨some (.list ((usedC ts p v).map colD)), ?_⟩
    rw [if_pos h]
    have hN : fIsN false (colD (colAt p v)) .none = some (.bool true) := by rw [isN_col, decide_eq_true h]
    rw [← hr] at h2
    exact stroke_step hN e1 h1 c1 c2 h2 hx2
  · refine ⟨o6, ?_⟩
    rw [if_neg h]
    have hN : fIsN false (colD (colAt p v)) .none = some (.bool false) := by rw [isN_col, decide_eq_false h]
    unfold sbody
    simp [hN]
theorem strokes_ok {n : Nat} {ts : List Tie} {k : Nat} {p : Paint} (w : WebOk n ts) (hp : p.length = n) (hk : k ≤ 4) (S : Store) : d_strokes_of [webD n ts, natD k, paintD p] S = .ok (.list ((strokesOf ts k p).map tieD)) S := by
  have hn := w.hi
  have hen : enumD 0 (p.map colD) = (p.zipIdx 0).map fun a => PyData.tuple [.int (a.2 : Int), colD a.1] := enumD_t (e := colD) p 0
  have key := for_n (t := .tup [4, 5]) (body := sbody) (I := fun j ρ S' => S' = S ∧ ∃ o4 o5 o6, ρ = [some (webD n ts), some (natD k), some (paintD p), some (.list (((List.range j).flatMap (strokesAt ts k p)).map tieD)), o4, o5, o6, none, none]) (ds := enumD 0 (p.map colD)) (k := 0)
    (ρ := [some (webD n ts), some (natD k), some (paintD p), some (.list []), none, none, none, none, none]) (S := S) ⟨rfl, none, none, none, rfl⟩ (by
    rintro j d hd ρ S' ⟨rfl, o4, o5, o6, rfl⟩
    obtain ⟨x, hx, rfl⟩ := enumD_get _ _ _ _ hd
    have hj : j < p.length := by
      have := (List.getElem?_eq_some_iff.mp hx).1
      simpa using this
    rw [paint_get hj] at hx
    cases hx
    have hl := flat_len (l := List.range (0 + j)) (g := strokesAt ts k p) (c := k) fun a _ => strokesAt_len ts k p a
    have hkj : k * (0 + j) ≤ 4 * 6 := Nat.mul_le_mul hk (by omega)
    obtain ⟨o6', h⟩ := stroke_turn (S := S') (xs := (List.range (0 + j)).flatMap (strokesAt ts k p)) (o6 := o6) (v := j) w hp hk (by rw [List.length_range] at hl; omega) (by omega)
    refine ⟨_, rfl, _, S', ?_, rfl, some (natD j), some (colD (colAt p j)), o6', rfl⟩
    rw [List.range_succ, List.flatMap_append, List.flatMap_singleton]
    rw [show (0 : Int) + (j : Int) = (j : Int) by omega]
    rw [show 0 + j = j by omega] at *
    exact h)
  obtain ⟨ρ', S', q, rfl, o4, o5, o6, rfl⟩ := key
  have hlen : 0 + (enumD 0 (p.map colD)).length = p.length := by rw [enumD_len]; simp
  rw [hlen] at q
  have he : fEnum 0 (paintD p) = some (enumD 0 (p.map colD)) := rfl
  unfold d_strokes_of dFn b_strokes_of env0
  unfold sbody at q
  unfold strokesOf
  simp [he, q, RS.fin, sz_small]
/-! painted -/
theorem painted_ok {p : Paint} {v c : Nat} (hv : v < p.length) (hp : p.length ≤ 10) (S : Store) : d_painted [paintD p, tieD (v, c)] S = .ok (paintD (p.set v (some c))) S := by
  have i0 : fIx (tieD (v, c)) (.int 0) = some (.int (v : Int)) := ixT_0
  have i1 : fIx (tieD (v, c)) (.int 1) = some (.int (c : Int)) := ixT_1
  have t1 : fSl (paintD p) none (some (v : Int)) = some (.tuple ((p.take v).map colD)) := by
    unfold paintD
    rw [slT, cutA_take, List.map_take]
  have t2 : fSl (paintD p) (some ((v : Int) + 1)) none = some (.tuple ((p.drop (v + 1)).map colD)) := by
    unfold paintD
    rw [slT, show ((v : Int) + 1) = ((v + 1 : Nat) : Int) by omega, cutA_drop, List.map_drop]
  have a1 := fAddT_ok (xs := (p.take v).map colD) (ys := [.int (c : Int)]) (by simp; omega)
  have a2 := fAddT_ok (xs := (p.take v).map colD ++ [.int (c : Int)]) (ys := (p.drop (v + 1)).map colD) (by simp; omega)
  have e : (p.take v).map colD ++ [.int (c : Int)] ++ (p.drop (v + 1)).map colD = (p.set v (some c)).map colD := by
    rw [List.set_eq_take_append_cons_drop, if_pos hv, List.map_append, List.map_cons, List.append_assoc]
    rfl
  rw [e] at a2
  unfold d_painted dFn b_painted env0
  unfold paintD at *
  generalize (p.take v).map colD = u1 at *
  generalize (p.drop (v + 1)).map colD = u2 at *
  simp [i0, i1, t1, t2, a1, a2, sz_small, RS.fin]
end K85
namespace K85
open PySem PySem.Spec PyProof.Rows L2 PD
/-! ### what webs and sheets are -/
theorem is_integer_ok {i : Int} (S : Store) : d_is_integer [.int i] S = .ok (.bool true) S := by
  unfold d_is_integer dFn b_is_integer env0
  simp [RS.fin]
theorem is_within_ok {i a b : Int} (S : Store) : d_is_within [.int i, .int a, .int b] S = .ok (.bool (decide (a ≤ i) && decide (i ≤ b))) S := by
  unfold d_is_within dFn b_is_within env0
  by_cases h : a ≤ i
  · simp [is_integer_ok, h, RS.fin]
  · simp [is_integer_ok, h, RS.fin]
theorem is_sized_ok {xs : List PyData} {a b : Int} (S : Store) : d_is_sized [.tuple xs, .int a, .int b] S = .ok (.bool (decide (a ≤ xs.length) && decide ((xs.length : Int) ≤ b))) S := by
  unfold d_is_sized dFn b_is_sized env0
  by_cases h : a ≤ (xs.length : Int)
  · simp [h, RS.fin]
  · simp [h, RS.fin]
theorem all_true {xs : List PyData} (h : ∀ x ∈ xs, x = .bool true) : fBs (fun bs => bs.all _root_.id) (.list xs) = some (.bool true) := by
  obtain ⟨bs, rfl, hb⟩ := all_map (f := PyData.bool) (P := fun b => b = true) (xs := xs) fun x hx => ⟨true, h x hx, rfl⟩
  show (boolsOf (bs.map .bool)).map (fun bs => PyData.bool (bs.all _root_.id)) = _
  rw [boolsOf_bools]
  simp only [Option.map_some]
  congr 2
  rw [List.all_eq_true]
  intro b hb'
  exact hb b hb'
theorem any_false {xs : List PyData} (h : ∀ x ∈ xs, x = .bool false) : fBs (fun bs => bs.any _root_.id) (.list xs) = some (.bool false) := by
  obtain ⟨bs, rfl, hb⟩ := all_map (f := PyData.bool) (P := fun b => b = false) (xs := xs) fun x hx => ⟨false, h x hx, rfl⟩
  show (boolsOf (bs.map .bool)).map (fun bs => PyData.bool (bs.any _root_.id)) = _
  rw [boolsOf_bools]
  simp only [Option.map_some]
  congr 2
  rw [List.any_eq_false]
  intro b hb'
  rw [hb b hb']
  simp
/-- a comprehension whose items are all one thing -/
theorem comp_k {t : Tg} {de : DE} {ρ : PD.Env} {S : Store} {z : PyData} {ds : List PyData} (h : ∀ d ∈ ds, ∃ ρ1, t.bind d ρ = some ρ1 ∧ de ρ1 S = .ok z S) : ∃ xs, compL t dYes de ρ [] ds S = .ok (.list xs) S ∧ ∀ x ∈ xs, x = z := by
  refine ⟨ds.map fun _ => z, ?_, fun x hx => ?_⟩
  · have := comp_map (t := t) (de := de) (ρ := ρ) (S := S) (f := fun _ => z) (ds := ds) (acc := []) h
    rw [List.nil_append] at this
    exact this
  · obtain ⟨_, _, rfl⟩ := List.mem_map.mp hx
    rfl
theorem zipD_t {α β : Type} {e : α → PyData} {f : β → PyData} : ∀ (xs : List α) (ys : List β), zipD (xs.map e) (ys.map f) = (xs.zip ys).map fun a => PyData.tuple [e a.1, f a.2]
  | [], ys => by cases ys <;> rfl
  | x :: xs, [] => rfl
  | x :: xs, y :: ys => by
    show PyData.tuple [e x, f y] :: zipD (xs.map e) (ys.map f) = _
    rw [zipD_t xs ys]
    rfl
theorem zip_next {α : Type} {R : α → α → Prop} : ∀ {xs : List α}, xs.Pairwise R → ∀ z ∈ xs.zip (xs.drop 1), R z.1 z.2
  | [], _, z, h => by simp at h
  | [x], _, z, h => by simp at h
  | x :: y :: r, hp, z, h => by
    have hp := List.pairwise_cons.mp hp
    simp only [List.drop_succ_cons, List.drop_zero, List.zip_cons_cons] at h
    rcases List.mem_cons.mp h with rfl | h
    · exact hp.1 y (List.mem_cons_self ..)
    · exact zip_next hp.2 z (by simpa using h)
theorem fLtI {i j : Int} : fLt (.int i) (.int j) = some (.bool (decide (i < j))) := rfl
theorem fLt_tie {a b : Tie} (h : tieLt a b) : fLt (tieD a) (tieD b) = some (.bool true) := by
  show some (PyData.bool (HT.lexLt [(a.1 : Int), (a.2 : Int)] [(b.1 : Int), (b.2 : Int)])) = _
  congr 2
  rcases h with h | ⟨h1, h2⟩
  · have : ¬ ((a.1 : Int) = (b.1 : Int)) := by omega
    have h' : (a.1 : Int) < (b.1 : Int) := by omega
    simp [HT.lexLt, this, h']
  · have h1' : (a.1 : Int) = (b.1 : Int) := by omega
    have h' : (a.2 : Int) < (b.2 : Int) := by omega
    have : ¬ ((a.2 : Int) = (b.2 : Int)) := by omega
    simp [HT.lexLt, h1', h', this]
theorem is_lot_ok {n : Nat} {p : Tie} (h1 : p.1 < p.2) (h2 : p.2 < n) (S : Store) : d_is_lot [tieD p, .int (n : Int)] S = .ok (.bool true) S := by
  obtain ⟨xs, q1, q2⟩ := comp_k (t := .nm 2) (de := (dCall d_is_within (dCons (dVar 2) (dCons (dC (.int 0)) (dCons (d2 (fI (fun _ _ => true) fun i j => i - j) (dVar 1) (dC (.int 1))) (dNil)))))) (ρ := [some (tieD p), some (.int (n : Int)), none, none]) (S := S) (z := .bool true) (ds := [.int (p.1 : Int), .int (p.2 : Int)]) (fun d hd => by
    refine ⟨_, rfl, ?_⟩
    simp only [List.mem_cons, List.not_mem_nil, or_false] at hd
    rcases hd with rfl | rfl
    · have a1 : (0 : Int) ≤ (p.1 : Int) := by omega
      have a2 : (p.1 : Int) ≤ (n : Int) - 1 := by omega
      simp [is_within_ok, a2]
    · have a2 : (p.2 : Int) ≤ (n : Int) - 1 := by omega
      simp [is_within_ok, a2])
  obtain ⟨ys, r1, r2⟩ := comp_k (t := .tup [2, 3]) (de := (d2 fLt (dVar 2) (dVar 3))) (ρ := [some (tieD p), some (.int (n : Int)), none, none]) (S := S) (z := .bool true) (ds := [.tuple [.int (p.1 : Int), .int (p.2 : Int)]]) (fun d hd => by
    rw [List.mem_singleton.mp hd]
    refine ⟨_, rfl, ?_⟩
    have : (p.1 : Int) < (p.2 : Int) := by omega
    simp [h1])
  have e1 := all_true q2
  have e2 := all_true r2
  have hz : fZip (tieD p) (.tuple [.int (p.2 : Int)]) = some [.tuple [.int (p.1 : Int), .int (p.2 : Int)]] := rfl
  have hs : fSl (tieD p) (some 1) none = some (.tuple [.int (p.2 : Int)]) := rfl
  have hq : seqD (tieD p) = some [.int (p.1 : Int), .int (p.2 : Int)] := rfl
  have ht : isT "tuple" (tieD p) = true := rfl
  unfold d_is_lot dFn b_is_lot env0
  simp [ht, hq, q1, e1, hs, hz, r1, e2, RS.fin]
theorem are_ties_ok {n : Nat} {ts : List Tie} (w : WebOk n ts) (S : Store) : d_are_ties [.int (n : Int), .tuple (ts.map tieD)] S = .ok (.bool true) S := by
  obtain ⟨xs, q1, q2⟩ := comp_k (t := .nm 4) (de := (dAndV (dCall d_is_sized (dCons (dVar 4) (dCons (dC (.int 2)) (dCons (dC (.int 2)) (dNil))))) (dCall d_is_lot (dCons (dVar 4) (dCons (dVar 0) (dNil)))))) (ρ := [some (.int (n : Int)), some (.tuple (ts.map tieD)), none, none, none]) (S := S) (z := .bool true) (ds := ts.map tieD) (fun d hd => by
    obtain ⟨p, hp, rfl⟩ := List.mem_map.mp hd
    obtain ⟨h1, h2⟩ := w.lt p hp
    have e1 : d_is_sized [tieD p, .int 2, .int 2] S = .ok (.bool true) S := is_sized_ok S
    exact ⟨_, rfl, by simp [e1, is_lot_ok h1 h2]⟩)
  obtain ⟨ys, r1, r2⟩ := comp_k (t := .tup [2, 3]) (de := (d2 fLt (dVar 2) (dVar 3))) (ρ := [some (.int (n : Int)), some (.tuple (ts.map tieD)), none, none, none]) (S := S) (z := .bool true) (ds := (ts.zip (ts.drop 1)).map fun a => PyData.tuple [tieD a.1, tieD a.2]) (fun d hd => by
    obtain ⟨z, hz, rfl⟩ := List.mem_map.mp hd
    refine ⟨_, rfl, ?_⟩
    have := fLt_tie (zip_next w.up z hz)
    simp [this])
  have e1 := all_true q2
  have e2 := all_true r2
  have hs : fSl (.tuple (ts.map tieD)) (some 1) none = some (.tuple ((ts.drop 1).map tieD)) := by
    rw [slT, show (1 : Int) = ((1 : Nat) : Int) from rfl, cutA_drop, List.map_drop]
  have hz : fZip (.tuple (ts.map tieD)) (.tuple ((ts.drop 1).map tieD)) = some ((ts.zip (ts.drop 1)).map fun a => PyData.tuple [tieD a.1, tieD a.2]) := by
    show some (zipD _ _) = _
    rw [zipD_t]
  generalize (ts.drop 1).map tieD = t1 at *
  generalize (ts.zip (ts.drop 1)).map (fun a => PyData.tuple [tieD a.1, tieD a.2]) = t2 at *
  generalize ts.map tieD = t0 at *
  unfold d_are_ties dFn b_are_ties env0
  simp [q1, e1, hs, hz, r1, e2, RS.fin]
theorem is_web_ok {n : Nat} {ts : List Tie} (w : WebOk n ts) (S : Store) : d_is_web [webD n ts] S = .ok (.bool true) S := by
  have e1 : d_is_sized [webD n ts, .int 2, .int 2] S = .ok (.bool true) S := is_sized_ok S
  have i0 : fIx (webD n ts) (.int 0) = some (.int (n : Int)) := ixT_0
  have i1 : fIx (webD n ts) (.int 1) = some (.tuple (ts.map tieD)) := ixT_1
  have e2 : d_is_within [.int (n : Int), .int 1, .int 8] S = .ok (.bool true) S := by
    rw [is_within_ok]
    have h1 := w.lo
    have h2 := w.hi
    have a1 : (1 : Int) ≤ (n : Int) := by omega
    have a2 : (n : Int) ≤ 8 := by omega
    rw [decide_eq_true a1, decide_eq_true a2]
    rfl
  unfold d_is_web dFn b_is_web env0
  simp [e1, i0, i1, e2, are_ties_ok w, RS.fin]
structure SheetOk (n : Nat) (ts : List Tie) (k : Nat) (p : Paint) : Prop where
  w : WebOk n ts
  k1 : 1 ≤ k
  k4 : k ≤ 4
  len : p.length = n
  col : ∀ v c, colAt p v = some c → c < k
  apart : ∀ t ∈ ts, ∀ c, colAt p t.1 = some c → colAt p t.2 ≠ some c
theorem colAt_mem {p : Paint} {x : Option Nat} (h : x ∈ p) : ∃ v, v < p.length ∧ colAt p v = x := by
  obtain ⟨v, hv, rfl⟩ := List.mem_iff_getElem.mp h
  exact ⟨v, hv, by unfold colAt; rw [List.getD_eq_getElem?_getD, List.getElem?_eq_getElem hv]; rfl⟩
theorem eq_cols (a b : Option Nat) : fEq (colD a) (colD b) = some (.bool (decide (a = b))) := by
  have hs : ∀ a : Option Nat, SeqAt.shaped (colD a) = true := fun a => by cases a <;> rfl
  have h0 : fEqS (colD a) (colD b) = none := by cases a <;> rfl
  unfold fEq orF fEqD
  rw [h0, hs, hs]
  simp only [Bool.and_self, if_true]
  congr 2
  cases b with
  | some b => rw [show colD (some b) = .int (b : Int) from rfl, eqv_col]
  | none => cases a <;> rfl
theorem is_sheet_ok {n : Nat} {ts : List Tie} {k : Nat} {p : Paint} (s : SheetOk n ts k p) (S : Store) : d_is_sheet [sheetD n ts k p] S = .ok (.bool true) S := by
  have h1 := s.w.lo
  have h2 := s.w.hi
  have e1 : d_is_sized [sheetD n ts k p, .int 3, .int 3] S = .ok (.bool true) S := is_sized_ok S
  have i0 : fIx (sheetD n ts k p) (.int 0) = some (webD n ts) := ixT_0
  have j0 : fIx (webD n ts) (.int 0) = some (.int (n : Int)) := ixT_0
  have j1 : fIx (webD n ts) (.int 1) = some (.tuple (ts.map tieD)) := ixT_1
  have h6 : ¬ (6 : Int) < (n : Int) := by omega
  have e2 : d_is_within [.int (k : Int), .int 1, .int 4] S = .ok (.bool true) S := by
    rw [is_within_ok]
    have a1 : (1 : Int) ≤ (k : Int) := by have := s.k1; omega
    have a2 : (k : Int) ≤ 4 := by have := s.k4; omega
    rw [decide_eq_true a1, decide_eq_true a2]
    rfl
  have e3 : d_is_sized [paintD p, .int (n : Int), .int (n : Int)] S = .ok (.bool true) S := by
    have := is_sized_ok (xs := p.map colD) (a := (n : Int)) (b := (n : Int)) S
    rw [List.length_map, s.len] at this
    show d_is_sized [.tuple (p.map colD), _, _] S = _
    simpa using this
  obtain ⟨xs, q1, q2⟩ := comp_k (t := .nm 4) (de := (dOrV (d2 (fIsN false) (dVar 4) (dC .none)) (dCall d_is_within (dCons (dVar 4) (dCons (dC (.int 0)) (dCons (d2 (fI (fun _ _ => true) fun i j => i - j) (dVar 2) (dC (.int 1))) (dNil))))))) (ρ := [some (sheetD n ts k p), some (webD n ts), some (.int (k : Int)), some (paintD p), none, none, none]) (S := S) (z := .bool true) (ds := p.map colD) (fun d hd => by
    obtain ⟨x, hx, rfl⟩ := List.mem_map.mp hd
    refine ⟨_, rfl, ?_⟩
    cases x with
    | none => simp [isN_col]
    | some c =>
      obtain ⟨v, _, hv⟩ := colAt_mem hx
      have hc := s.col v c hv
      have a2 : (c : Int) ≤ (k : Int) - 1 := by omega
      have hw : d_is_within [colD (some c), .int 0, .int ((k : Int) - 1)] S = .ok (.bool true) S := by
        show d_is_within [.int (c : Int), _, _] S = _
        rw [is_within_ok, decide_eq_true (by omega), decide_eq_true a2]
        rfl
      simp [isN_col, hw])
  obtain ⟨ys, r1, r2⟩ := comp_k (t := .tup [5, 6]) (de := (dAndV (d2 (fIsN true) (d2 fIx (dVar 3) (dVar 5)) (dC .none)) (d2 fEq (d2 fIx (dVar 3) (dVar 5)) (d2 fIx (dVar 3) (dVar 6))))) (ρ := [some (sheetD n ts k p), some (webD n ts), some (.int (k : Int)), some (paintD p), none, none, none]) (S := S) (z := .bool false) (ds := ts.map tieD) (fun d hd => by
    obtain ⟨t, ht, rfl⟩ := List.mem_map.mp hd
    refine ⟨_, rfl, ?_⟩
    obtain ⟨l1, l2⟩ := s.w.lt t ht
    have g1 : fIx (paintD p) (.int (t.1 : Int)) = some (colD (colAt p t.1)) := ixT (paint_get (by rw [s.len]; omega))
    have g2 : fIx (paintD p) (.int (t.2 : Int)) = some (colD (colAt p t.2)) := ixT (paint_get (by rw [s.len]; omega))
    have ha := s.apart t ht
    cases hc : colAt p t.1 with
    | none =>
      rw [hc] at g1
      simp [g1, isN_colN]
    | some c =>
      rw [hc] at g1
      have hne := ha c hc
      have he := eq_cols (some c) (colAt p t.2)
      rw [decide_eq_false (fun z => hne z.symm)] at he
      simp [g1, g2, isN_colN, he])
  have e4 := all_true q2
  have e5 := any_false r2
  have hseq : seqD (paintD p) = some (p.map colD) := rfl
  have hb : (Tg.tup [1, 2, 3]).bind (sheetD n ts k p) [some (sheetD n ts k p), none, none, none, none, none, none] = some [some (sheetD n ts k p), some (webD n ts), some (.int (k : Int)), some (paintD p), none, none, none] := rfl
  unfold d_is_sheet dFn b_is_sheet env0
  generalize sheetD n ts k p = sh at *
  generalize paintD p = pp at *
  simp [e1, i0, is_web_ok s.w, j0, h6, hb, e2, e3, hseq, q1, e4, j1, r1, e5, RS.fin]
theorem check_ok {n : Nat} {ts : List Tie} {k : Nat} {p : Paint} (s : SheetOk n ts k p) (S : Store) : d_check_sheet [sheetD n ts k p] S = .ok .none S := by
  unfold d_check_sheet dFn b_check_sheet env0
  simp [is_sheet_ok s, RS.fin]
end K85
namespace K85
open PySem PySem.Spec PyProof.Rows L2 PD
/-! ### leading on -/
def bareN (p : Paint) : Nat := p.countP fun x => decide (x = none)
theorem colAt_some {p : Paint} {v c : Nat} (h : colAt p v = some c) : v < p.length := by
  unfold colAt at h
  rw [List.getD_eq_getElem?_getD] at h
  by_cases hv : v < p.length
  · exact hv
  · rw [List.getElem?_eq_none (by omega)] at h; cases h
theorem colAt_set {p : Paint} {v w : Nat} {x : Option Nat} (hv : v < p.length) : colAt (p.set v x) w = if w = v then x else colAt p w := by
  unfold colAt
  rw [List.getD_eq_getElem?_getD, List.getD_eq_getElem?_getD]
  by_cases h : w = v
  · subst h
    rw [List.getElem?_set_self hv, if_pos rfl]
    rfl
  · rw [List.getElem?_set_ne (Ne.symm h), if_neg h]
theorem bare_set : ∀ {p : Paint} {v c : Nat}, v < p.length → colAt p v = none → bareN (p.set v (some c)) + 1 = bareN p
  | [], v, c, h, _ => by simp at h
  | x :: p, 0, c, _, h => by
    have : x = none := h
    subst this
    simp [bareN]
  | x :: p, v + 1, c, h, h2 => by
    have h2 : colAt p v = none := h2
    have := bare_set (p := p) (v := v) (c := c) (by simpa using h) h2
    unfold bareN at *
    simp only [List.set_cons_succ, List.countP_cons] at *
    omega
theorem used_mem {n : Nat} {ts : List Tie} {p : Paint} {v c : Nat} : some c ∈ usedC ts p v ↔ ∃ o, ((v, o) ∈ ts ∨ (o, v) ∈ ts) ∧ colAt p o = some c := by
  unfold usedC
  rw [List.mem_map]
  constructor
  · rintro ⟨o, h1, h2⟩; exact ⟨o, mem_tied.mp h1, h2⟩
  · rintro ⟨o, h1, h2⟩; exact ⟨o, mem_tied.mpr h1, h2⟩
theorem free_mem {ts : List Tie} {k : Nat} {p : Paint} {v c : Nat} : c ∈ freeC ts k p v ↔ c < k ∧ some c ∉ usedC ts p v := by
  unfold freeC
  rw [List.mem_filter, List.mem_range]
  simp
/-- a place painted by a free colour -/
theorem SheetOk.paint {n : Nat} {ts : List Tie} {k : Nat} {p : Paint} (s : SheetOk n ts k p) {v c : Nat} (hv : v < n) (hc : c ∈ freeC ts k p v) : SheetOk n ts k (p.set v (some c)) := by
  obtain ⟨h1, h2⟩ := free_mem.mp hc
  have hl : v < p.length := by rw [s.len]; exact hv
  refine ⟨s.w, s.k1, s.k4, by rw [List.length_set]; exact s.len, fun w d hd => ?_, fun t ht d h3 h4 => ?_⟩
  · rw [colAt_set hl] at hd
    split at hd
    · cases hd; exact h1
    · exact s.col w d hd
  · rw [colAt_set hl] at h3 h4
    have hne := (s.w.lt t ht).1
    by_cases e1 : t.1 = v
    · rw [if_pos e1] at h3
      cases h3
      rw [if_neg (by omega)] at h4
      exact h2 ((used_mem (n := n)).mpr ⟨t.2, .inl (by rw [← e1]; exact ht), h4⟩)
    · rw [if_neg e1] at h3
      by_cases e2 : t.2 = v
      · rw [if_pos e2] at h4
        cases h4
        exact h2 ((used_mem (n := n)).mpr ⟨t.1, .inr (by rw [← e2]; exact ht), h3⟩)
      · rw [if_neg e2] at h4
        exact s.apart t ht d h3 h4
/-! the strokes at a place -/
theorem strokes_filter {ts : List Tie} {k : Nat} {p : Paint} {v : Nat} (hv : v < p.length) : (strokesOf ts k p).filter (fun s => decide (s.1 = v)) = strokesAt ts k p v := by
  have key : ∀ l : List Nat, l.Nodup → (l.flatMap (strokesAt ts k p)).filter (fun s => decide (s.1 = v)) = if v ∈ l then strokesAt ts k p v else [] := by
    intro l
    induction l with
    | nil => intro _; rfl
    | cons a r ih =>
      intro hn
      obtain ⟨h1, h2⟩ := List.nodup_cons.mp hn
      rw [List.flatMap_cons, List.filter_append, ih h2]
      have hs : ∀ s ∈ strokesAt ts k p a, s.1 = a := fun s hs => by
        unfold strokesAt at hs
        split at hs
        · obtain ⟨c, _, rfl⟩ := List.mem_map.mp hs; rfl
        · cases hs
      by_cases e : a = v
      · subst e
        rw [if_neg h1, List.append_nil, if_pos (List.mem_cons_self ..)]
        exact List.filter_eq_self.mpr fun s h => decide_eq_true (hs s h)
      · rw [List.filter_eq_nil_iff.mpr fun s h => by rw [decide_eq_true_eq, hs s h]; exact e, List.nil_append]
        by_cases hm : v ∈ r
        · rw [if_pos hm, if_pos (List.mem_cons_of_mem _ hm)]
        · rw [if_neg hm, if_neg fun z => (List.mem_cons.mp z).elim (fun z => e z.symm) hm]
  unfold strokesOf
  rw [key _ List.nodup_range, if_pos (List.mem_range.mpr hv)]
end K85
namespace K85
open PySem PySem.Spec PyProof.Rows L2 PD
/-! ### all fillings, first ones first -/
def leftL (p : Paint) : List Nat := (List.range p.length).filter fun v => decide (colAt p v = none)
def fillsN (ts : List Tie) (k : Nat) : Nat → Paint → List Paint
  | 0, p => [p]
  | m + 1, p => match leftL p with
    | [] => [p]
    | v :: _ => (freeC ts k p v).flatMap fun c => fillsN ts k m (p.set v (some c))
def allF (ts : List Tie) (k : Nat) (p : Paint) : List Paint := fillsN ts k (bareN p) p
theorem left_len (p : Paint) : (leftL p).length = bareN p := by
  unfold leftL bareN
  rw [← List.countP_eq_length_filter]
  have e : p.countP (fun x => decide (x = none)) = ((List.range p.length).map (colAt p)).countP fun x => decide (x = none) := by
    congr 1
    apply List.ext_getElem?
    intro i
    rw [List.getElem?_map]
    by_cases h : i < p.length
    · rw [List.getElem?_range h, List.getElem?_eq_getElem h]
      show some _ = some (colAt p i)
      unfold colAt
      rw [List.getD_eq_getElem?_getD, List.getElem?_eq_getElem h]
      rfl
    · rw [List.getElem?_eq_none (by omega), List.getElem?_eq_none (by simpa using Nat.not_lt.mp h)]
      rfl
  rw [e, List.countP_map]
  rfl
theorem left_mem {p : Paint} {v : Nat} : v ∈ leftL p ↔ v < p.length ∧ colAt p v = none := by
  unfold leftL
  rw [List.mem_filter, List.mem_range, decide_eq_true_eq]
theorem allF_nil {ts : List Tie} {k : Nat} {p : Paint} (h : leftL p = []) : allF ts k p = [p] := by
  have : bareN p = 0 := by rw [← left_len, h]; rfl
  unfold allF
  rw [this]
  rfl
theorem allF_cons {ts : List Tie} {k : Nat} {p : Paint} {v : Nat} {r : List Nat} (h : leftL p = v :: r) : allF ts k p = (freeC ts k p v).flatMap fun c => allF ts k (p.set v (some c)) := by
  have hm : v ∈ leftL p := by rw [h]; exact List.mem_cons_self ..
  obtain ⟨h1, h2⟩ := left_mem.mp hm
  obtain ⟨m, hb⟩ : ∃ m, bareN p = m + 1 := ⟨r.length, by rw [← left_len, h]; rfl⟩
  unfold allF
  rw [hb]
  show (match leftL p with | [] => [p] | v :: _ => (freeC ts k p v).flatMap fun c => fillsN ts k m (p.set v (some c))) = _
  rw [h]
  have e : ∀ c, bareN (p.set v (some c)) = m := fun c => by
    have := bare_set (c := c) h1 h2
    omega
  simp only [e]
def Full (p : Paint) : Prop := ∀ v, v < p.length → colAt p v ≠ none
def Ext' (p x : Paint) : Prop := ∀ v c, colAt p v = some c → colAt x v = some c
def Sol (n : Nat) (ts : List Tie) (k : Nat) (p x : Paint) : Prop := SheetOk n ts k x ∧ Full x ∧ Ext' p x
theorem left_nil {p : Paint} (h : leftL p = []) : Full p := fun v hv hn => by
  have : v ∈ leftL p := left_mem.mpr ⟨hv, hn⟩
  rw [h] at this
  cases this
theorem colAt_ext {p x : Paint} (h : p.length = x.length) (e : ∀ v, v < p.length → colAt p v = colAt x v) : p = x := by
  apply List.ext_getElem h
  intro i h1 h2
  have := e i h1
  unfold colAt at this
  rw [List.getD_eq_getElem?_getD, List.getD_eq_getElem?_getD, List.getElem?_eq_getElem h1, List.getElem?_eq_getElem h2] at this
  exact this
theorem full_ext {p x : Paint} (h : p.length = x.length) (hf : Full p) (he : Ext' p x) : x = p := by
  symm
  apply colAt_ext h
  intro v hv
  cases hc : colAt p v with
  | none => exact absurd hc (hf v hv)
  | some c => exact (he v c hc).symm
/-- a solution's colour at a bare place is free -/
theorem sol_free {n : Nat} {ts : List Tie} {k : Nat} {p x : Paint} (h : Sol n ts k p x) {v : Nat} (hv : v < n) : ∃ c, colAt x v = some c ∧ c ∈ freeC ts k p v := by
  obtain ⟨s, f, e⟩ := h
  cases hc : colAt x v with
  | none => exact absurd hc (f v (by rw [s.len]; exact hv))
  | some c =>
    refine ⟨c, rfl, free_mem.mpr ⟨s.col v c hc, fun hu => ?_⟩⟩
    obtain ⟨o, ho, hoc⟩ := (used_mem (n := n)).mp hu
    have := e o c hoc
    rcases ho with ho | ho
    · exact s.apart _ ho c hc this
    · exact s.apart _ ho c this hc
theorem sol_set {n : Nat} {ts : List Tie} {k : Nat} {p x : Paint} {v c : Nat} (hl : v < p.length) (hn : colAt p v = none) : Sol n ts k (p.set v (some c)) x ↔ Sol n ts k p x ∧ colAt x v = some c := by
  constructor
  · rintro ⟨s, f, e⟩
    refine ⟨⟨s, f, fun w d hd => ?_⟩, e v c (by rw [colAt_set hl, if_pos rfl])⟩
    by_cases hw : w = v
    · rw [hw, hn] at hd; cases hd
    · exact e w d (by rw [colAt_set hl, if_neg hw]; exact hd)
  · rintro ⟨⟨s, f, e⟩, hx⟩
    refine ⟨s, f, fun w d hd => ?_⟩
    rw [colAt_set hl] at hd
    by_cases hw : w = v
    · rw [if_pos hw] at hd; cases hd; rw [hw]; exact hx
    · rw [if_neg hw] at hd; exact e w d hd
theorem mem_allF {n : Nat} {ts : List Tie} {k : Nat} : ∀ (m : Nat) (p : Paint), bareN p = m → SheetOk n ts k p → ∀ x, x ∈ allF ts k p ↔ Sol n ts k p x
  | 0, p, hb, s, x => by
    have hl : leftL p = [] := List.length_eq_zero_iff.mp (by rw [left_len]; exact hb)
    rw [allF_nil hl, List.mem_singleton]
    constructor
    · rintro rfl
      exact ⟨s, left_nil hl, fun v c h => h⟩
    · rintro ⟨s', f, e⟩
      exact full_ext (by rw [s.len, s'.len]) (left_nil hl) e
  | m + 1, p, hb, s, x => by
    cases hl : leftL p with
    | nil => rw [← left_len, hl] at hb; cases hb
    | cons v r =>
      have hm : v ∈ leftL p := by rw [hl]; exact List.mem_cons_self ..
      obtain ⟨h1, h2⟩ := left_mem.mp hm
      have hv : v < n := by rw [← s.len]; exact h1
      have hbc : ∀ c, bareN (p.set v (some c)) = m := fun c => by
        have := bare_set (c := c) h1 h2
        omega
      rw [allF_cons hl, List.mem_flatMap]
      constructor
      · rintro ⟨c, hc, hx⟩
        exact ((sol_set h1 h2).mp ((mem_allF m _ (hbc c) (s.paint hv hc) x).mp hx)).1
      · intro hx
        obtain ⟨c, hc, hf⟩ := sol_free hx hv
        exact ⟨c, hf, (mem_allF m _ (hbc c) (s.paint hv hf) x).mpr ((sol_set h1 h2).mpr ⟨hx, hc⟩)⟩
/-! leading on keeps the solutions -/
/-! ### the program's search -/
def wB : Nat → Nat
  | 0 => 1
  | b + 1 => 1 + 4 * wB b
theorem wB_pos (b : Nat) : 1 ≤ wB b := by cases b <;> simp [wB]
def wS (W : List Paint) : Nat := (W.map fun q => wB (bareN q)).sum
@[simp] theorem wS_app (a b : List Paint) : wS (a ++ b) = wS a + wS b := by simp [wS]
@[simp] theorem wS_one (a : Paint) : wS [a] = wB (bareN a) := by simp [wS]
theorem wS_len (W : List Paint) : W.length ≤ wS W := by
  induction W with
  | nil => simp [wS]
  | cons q r ih =>
    have := wB_pos (bareN q)
    show r.length + 1 ≤ wS ([q] ++ r)
    rw [wS_app, wS_one]
    omega
theorem wB_mono {a b : Nat} (h : a ≤ b) : wB a ≤ wB b := by
  induction h with
  | refl => exact Nat.le_refl _
  | step _ ih => simp only [wB]; omega
def fbody : DS := (dSeq (dPop (.nm 6) 5) (dSeq (dSet 7 (dComp (dIt (fEnum 0) (dVar 6)) (.tup [9, 10]) (dTest (d2 (fIsN false) (dVar 10) (dC .none))) (dVar 9))) (dIfS (dTest (d2 fEq (d1 fLen (dVar 7)) (dC (.int 0)))) (dApp 4 (dVar 6)) (dSeq (dSet 8 (dComp (dIt seqD (dCall d_strokes_of (dCons (dVar 0) (dCons (dVar 1) (dCons (dVar 6) (dNil)))))) (.nm 11) (dTest (d2 fEq (d2 fIx (dVar 11) (dC (.int 0))) (d2 fIx (dVar 7) (dC (.int 0))))) (dVar 11))) (dExt 5 (dComp (dIt seqD (d1 fRevA (dVar 8))) (.nm 11) (dYes) (dCall d_painted (dCons (dVar 6) (dCons (dVar 11) (dNil))))))))))
theorem pop_ok {ρ : PD.Env} {S : Store} {xs : List PyData} {d : PyData} (h : ρ.getD 5 none = some (.list (xs ++ [d]))) : dPop (.nm 6) 5 ρ S = .nx ((ρ.set 5 (some (.list xs))).set 6 (some d)) S := by
  unfold dPop onLst
  rw [h]
  simp [Tg.bind]
theorem fill_step {W K P M Q : PyData} {fs ws ls ss st ns : List PyData} {Z Z' : PyData} {o6 o7 o8 : Option PyData} {S : Store}
    (h7 : ∀ o6 o7 o8, compL (.tup [9, 10]) (dTest (d2 (fIsN false) (dVar 10) (dC .none))) (dVar 9) [some W, some K, some P, some M, some (.list fs), some (.list ws), o6, o7, o8, none, none, none] [] ss S = .ok (.list ls) S) (he : fEnum 0 Q = some ss) :
    (ls = [] → fApp fs Q = some Z → fbody [some W, some K, some P, some M, some (.list fs), some (.list (ws ++ [Q])), o6, o7, o8, none, none, none] S = .nx [some W, some K, some P, some M, some Z, some (.list ws), some Q, some (.list ls), o8, none, none, none] S) ∧
    (∀ v r us, ls = v :: r → d_strokes_of [W, K, Q] S = .ok (.list us) S → (∀ o8, compL (.nm 11) (dTest (d2 fEq (d2 fIx (dVar 11) (dC (.int 0))) (d2 fIx (dVar 7) (dC (.int 0))))) (dVar 11) [some W, some K, some P, some M, some (.list fs), some (.list ws), some Q, some (.list ls), o8, none, none, none] [] us S = .ok (.list st) S) →
      (compL (.nm 11) dYes (dCall d_painted (dCons (dVar 6) (dCons (dVar 11) (dNil)))) [some W, some K, some P, some M, some (.list fs), some (.list ws), some Q, some (.list ls), some (.list st), none, none, none] [] st.reverse S = .ok (.list ns) S) → fExt ws (.list ns) = some Z' →
      fbody [some W, some K, some P, some M, some (.list fs), some (.list (ws ++ [Q])), o6, o7, o8, none, none, none] S = .nx [some W, some K, some P, some M, some (.list fs), some Z', some Q, some (.list ls), some (.list st), none, none, none] S) := by
  have hp := pop_ok (ρ := [some W, some K, some P, some M, some (.list fs), some (.list (ws ++ [Q])), o6, o7, o8, none, none, none]) (S := S) (xs := ws) (d := Q) rfl
  have hrev : ∀ xs : List PyData, fRevA (.list xs) = some (.list xs.reverse) := fun xs => rfl
  refine ⟨?_, ?_⟩
  · rintro rfl hz
    unfold fbody
    simp [hp, he, h7, onLst, putO, hz]
  · rintro v r us rfl hu h8 h9 hz
    have h0 : ¬ (r.length : Int) + 1 = 0 := by omega
    unfold fbody
    simp [hp, he, h7, hu, h8, hrev, h9, onLst, putO, hz, h0]
end K85
namespace K85
open PySem PySem.Spec PyProof.Rows L2 PD
theorem zip_left (p : Paint) : ((p.zipIdx 0).filter fun a => decide (a.1 = none)).map (·.2) = leftL p := by
  have key : ∀ (p : Paint) (k : Nat), ((p.zipIdx k).filter fun a => decide (a.1 = none)).map (·.2) = ((List.range p.length).filter fun v => decide (colAt p v = none)).map (k + ·) := by
    intro p
    induction p with
    | nil => intro k; rfl
    | cons x r ih =>
      intro k
      have h1 : (List.range (x :: r).length) = 0 :: (List.range r.length).map Nat.succ := by rw [List.length_cons, List.range_succ_eq_map]
      rw [h1, List.zipIdx_cons]
      have h2 : ((List.range r.length).map Nat.succ).filter (fun v => decide (colAt (x :: r) v = none)) = ((List.range r.length).filter fun v => decide (colAt r v = none)).map Nat.succ := by
        rw [List.filter_map]
        rfl
      have h3 : ((((List.range r.length).filter fun v => decide (colAt r v = none)).map Nat.succ).map fun x => k + x) = ((List.range r.length).filter fun v => decide (colAt r v = none)).map fun x => k + 1 + x := by
        rw [List.map_map]
        apply List.map_congr_left
        intro a _
        show k + (a + 1) = k + 1 + a
        omega
      cases x with
      | none =>
        rw [List.filter_cons_of_pos (by simp), List.filter_cons_of_pos (by simp [colAt]), List.map_cons, List.map_cons, ih, h2, h3]
        simp
      | some c =>
        rw [List.filter_cons_of_neg (by simp), List.filter_cons_of_neg (by simp [colAt]), ih, h2, h3]
  have := key p 0
  unfold leftL
  rw [this]
  simp
theorem strokesAt_left {ts : List Tie} {k : Nat} {p : Paint} {v : Nat} (h : colAt p v = none) : strokesAt ts k p v = (freeC ts k p v).map fun c => (v, c) := by
  unfold strokesAt
  rw [if_pos h]
/-- the paints that follow, the last one first -/
def nextP (ts : List Tie) (k : Nat) (q : Paint) (v : Nat) : List Paint := ((freeC ts k q v).reverse).map fun c => q.set v (some c)
theorem fill_turn {n : Nat} {ts : List Tie} {k : Nat} {q : Paint} {fs W : List Paint} {M : PyData} (p : Paint) (s : SheetOk n ts k q) (hf : fs.length < 9000) (hW : W.length < 9000) (o6 o7 o8 : Option PyData) (S : Store) : match leftL q with
    | [] => ∃ p6 p7 p8, fbody [some (webD n ts), some (natD k), some (paintD p), some M, some (.list (fs.map paintD)), some (.list ((W ++ [q]).map paintD)), o6, o7, o8, none, none, none] S = .nx [some (webD n ts), some (natD k), some (paintD p), some M, some (.list ((fs ++ [q]).map paintD)), some (.list (W.map paintD)), p6, p7, p8, none, none, none] S
    | v :: _ => ∃ p6 p7 p8, fbody [some (webD n ts), some (natD k), some (paintD p), some M, some (.list (fs.map paintD)), some (.list ((W ++ [q]).map paintD)), o6, o7, o8, none, none, none] S = .nx [some (webD n ts), some (natD k), some (paintD p), some M, some (.list (fs.map paintD)), some (.list ((W ++ nextP ts k q v).map paintD)), p6, p7, p8, none, none, none] S := by
  have hn := s.w.hi
  have hk := s.k4
  have he : fEnum 0 (paintD q) = some ((q.zipIdx 0).map fun a => PyData.tuple [.int (a.2 : Int), colD a.1]) := by
    show some (enumD 0 (q.map colD)) = _
    exact congrArg some (enumD_t (e := colD) q 0)
  have h7 : ∀ o6 o7 o8, compL (.tup [9, 10]) (dTest (d2 (fIsN false) (dVar 10) (dC .none))) (dVar 9) [some (webD n ts), some (natD k), some (paintD p), some M, some (.list (fs.map paintD)), some (.list (W.map paintD)), o6, o7, o8, none, none, none] [] ((q.zipIdx 0).map fun a => PyData.tuple [.int (a.2 : Int), colD a.1]) S = .ok (.list ((leftL q).map natD)) S := fun o6 o7 o8 => by
    have := comp_t (t := .tup [9, 10]) (tt := (dTest (d2 (fIsN false) (dVar 10) (dC .none)))) (de := (dVar 9)) (ρ := [some (webD n ts), some (natD k), some (paintD p), some M, some (.list (fs.map paintD)), some (.list (W.map paintD)), o6, o7, o8, none, none, none]) (S := S) (e := fun a : Option Nat × Nat => PyData.tuple [.int (a.2 : Int), colD a.1]) (g := natD) (p := fun a => decide (a.1 = none)) (f := (·.2)) (xs := q.zipIdx 0) (acc := []) (fun a ha => ⟨_, rfl, by simp [isN_col], fun _ => by simp⟩)
    rw [List.nil_append, zip_left] at this
    exact this
  obtain ⟨r1, r2⟩ := fill_step (M := M) (K := natD k) (W := webD n ts) (P := paintD p) (o6 := o6) (o7 := o7) (o8 := o8) (st := (match leftL q with | v :: _ => (strokesAt ts k q v).map tieD | [] => [])) (ns := (match leftL q with | v :: _ => (nextP ts k q v).map paintD | [] => [])) (Z := .list ((fs ++ [q]).map paintD)) (Z' := (match leftL q with | v :: _ => .list ((W ++ nextP ts k q v).map paintD) | [] => .none)) h7 he
  have hWm : (W ++ [q]).map paintD = W.map paintD ++ [paintD q] := by rw [List.map_append]; rfl
  rw [hWm]
  cases hl : leftL q with
  | nil =>
    dsimp only
    have ha : fApp (fs.map paintD) (paintD q) = some (.list ((fs ++ [q]).map paintD)) := by
      rw [fApp_ok (by simp; omega), List.map_append]
      rfl
    exact ⟨_, _, _, r1 (by rw [hl]; rfl) ha⟩
  | cons v r =>
    dsimp only
    have hm : v ∈ leftL q := by rw [hl]; exact List.mem_cons_self ..
    obtain ⟨h1, h2⟩ := left_mem.mp hm
    rw [hl] at r2
    dsimp only at r2
    have hfl := free_len ts k q v
    refine ⟨_, _, _, r2 (natD v) (r.map natD) _ rfl (strokes_ok s.w s.len s.k4 S) (fun o8 => ?_) ?_ ?_⟩
    · have := comp_t (t := .nm 11) (tt := (dTest (d2 fEq (d2 fIx (dVar 11) (dC (.int 0))) (d2 fIx (dVar 7) (dC (.int 0)))))) (de := (dVar 11)) (ρ := [some (webD n ts), some (natD k), some (paintD p), some M, some (.list (fs.map paintD)), some (.list (W.map paintD)), some (paintD q), some (.list ((v :: r).map natD)), o8, none, none, none]) (S := S) (e := tieD) (g := tieD) (p := fun s => decide (s.1 = v)) (f := fun s => s) (xs := strokesOf ts k q) (acc := []) (fun s hs => by
        have g1 : fIx (tieD s) (.int 0) = some (.int (s.1 : Int)) := ixT_0
        exact ⟨_, rfl, by simp [g1, ixL_0, Int.natCast_inj], fun _ => by simp⟩)
      rw [List.nil_append, List.map_id', strokes_filter h1] at this
      exact this
    · have := comp_y (t := .nm 11) (de := (dCall d_painted (dCons (dVar 6) (dCons (dVar 11) (dNil))))) (ρ := [some (webD n ts), some (natD k), some (paintD p), some M, some (.list (fs.map paintD)), some (.list (W.map paintD)), some (paintD q), some (.list ((v :: r).map natD)), some (.list ((strokesAt ts k q v).map tieD)), none, none, none]) (S := S) (e := tieD) (g := paintD) (f := fun s => q.set v (some s.2)) (xs := (strokesAt ts k q v).reverse) (acc := []) (fun s hs => by
        rw [List.mem_reverse, strokesAt_left h2] at hs
        obtain ⟨c, _, rfl⟩ := List.mem_map.mp hs
        have := painted_ok (p := q) (v := v) (c := c) h1 (by rw [s.len]; omega) S
        exact ⟨_, rfl, by simp [this]⟩)
      rw [List.nil_append] at this
      rw [← List.map_reverse, this]
      congr 2
      unfold nextP
      rw [strokesAt_left h2, ← List.map_reverse]
      simp only [List.map_map]
      apply List.map_congr_left
      intro c _
      rfl
    · have hnl : (nextP ts k q v).length ≤ 4 := by
        unfold nextP
        rw [List.length_map, List.length_reverse]
        omega
      rw [fExt_ok (by simp; omega), List.map_append]
theorem next_wS {ts : List Tie} {k : Nat} {q : Paint} {v : Nat} (hk : k ≤ 4) (h1 : v < q.length) (h2 : colAt q v = none) : wS (nextP ts k q v) + 1 ≤ wB (bareN q) := by
  obtain ⟨m, hb⟩ : ∃ m, bareN q = m + 1 := ⟨bareN (q.set v (some 0)), (bare_set (c := 0) h1 h2).symm⟩
  have hbc : ∀ c, bareN (q.set v (some c)) = m := fun c => by
    have := bare_set (c := c) h1 h2
    omega
  have key : ∀ l : List Nat, wS (l.map fun c => q.set v (some c)) = l.length * wB m := by
    intro l
    induction l with
    | nil => simp [wS]
    | cons c r ih =>
      show wS ([q.set v (some c)] ++ r.map fun c => q.set v (some c)) = _
      rw [wS_app, wS_one, hbc, ih, List.length_cons, Nat.add_mul]
      omega
  unfold nextP
  rw [key, hb, List.length_reverse]
  have := free_len ts k q v
  have h4 : (freeC ts k q v).length * wB m ≤ 4 * wB m := Nat.mul_le_mul_right _ (by omega)
  simp only [wB]
  omega
theorem next_all {ts : List Tie} {k : Nat} {q : Paint} {v : Nat} {r : List Nat} (hl : leftL q = v :: r) (W : List Paint) : ((W ++ nextP ts k q v).reverse).flatMap (allF ts k) = ((W ++ [q]).reverse).flatMap (allF ts k) := by
  rw [List.reverse_append, List.reverse_append, List.flatMap_append, List.flatMap_append]
  congr 1
  unfold nextP
  rw [← List.map_reverse, List.reverse_reverse, List.reverse_singleton, List.flatMap_singleton, allF_cons hl, List.flatMap_map]
def wtest : DT := (dAnd (dTest (d2 fGt (d1 fLen (dVar 5)) (dC (.int 0)))) (dOr (dTest (d2 (fIsN false) (dVar 3) (dC .none))) (dTest (d2 fLt (d1 fLen (dVar 4)) (dVar 3)))))
theorem test_e {W K P M : PyData} {gs : List PyData} {o6 o7 o8 : Option PyData} {S : Store} : wtest [some W, some K, some P, some M, some (.list gs), some (.list []), o6, o7, o8, none, none, none] S = .ok false S := by
  unfold wtest
  simp
theorem test_n {W K P : PyData} {gs ws : List PyData} {o6 o7 o8 : Option PyData} {S : Store} (h : 0 < ws.length) : wtest [some W, some K, some P, some .none, some (.list gs), some (.list ws), o6, o7, o8, none, none, none] S = .ok true S := by
  have h1 : fIsN false .none .none = some (.bool true) := rfl
  have h0 : (0 : Int) < (ws.length : Int) := by omega
  have h2 : ws ≠ [] := by rintro rfl; simp at h
  unfold wtest
  simp [h1, h0, h2]
theorem test_j {W K P : PyData} {j : Int} {gs ws : List PyData} {o6 o7 o8 : Option PyData} {S : Store} (h : 0 < ws.length) : wtest [some W, some K, some P, some (.int j), some (.list gs), some (.list ws), o6, o7, o8, none, none, none] S = .ok (decide ((gs.length : Int) < j)) S := by
  have h1 : fIsN false (.int j) .none = some (.bool false) := rfl
  have h0 : (0 : Int) < (ws.length : Int) := by omega
  have h2 : ws ≠ [] := by rintro rfl; simp at h
  unfold wtest
  simp [h1, h0, h2]
def takeM {α : Type} (m : Option Nat) (l : List α) : List α := match m with
  | none => l
  | some j => l.take j
/-- the search, so many at most -/
theorem filled_ok {n : Nat} {ts : List Tie} {k : Nat} {p : Paint} (s : SheetOk n ts k p) (m : Option Nat) (S : Store) : d_filled [webD n ts, natD k, paintD p, colD m] S = .ok (.list ((takeM m (allF ts k p)).map paintD)) S := by
  have hn := s.w.hi
  have hbn : bareN p ≤ 6 := by
    have := left_len p
    have h := List.length_filter_le (fun v => decide (colAt p v = none)) (List.range p.length)
    rw [List.length_range, s.len] at h
    unfold leftL at this
    rw [s.len] at this
    omega
  have hw0 : wS [p] ≤ 5461 := by
    rw [wS_one]
    have h6 : wB 6 = 5461 := rfl
    have := wB_mono hbn
    omega
  have key := while_go (t := wtest) (body := fbody)
    (I := fun ρ S' => S' = S ∧ ∃ fs W o6 o7 o8, ρ = [some (webD n ts), some (natD k), some (paintD p), some (colD m), some (.list (fs.map paintD)), some (.list (W.map paintD)), o6, o7, o8, none, none, none] ∧ (∀ q ∈ W, SheetOk n ts k q) ∧ fs ++ (W.reverse).flatMap (allF ts k) = allF ts k p ∧ fs.length + wS W ≤ 5461 ∧ (∀ j, m = some j → fs.length ≤ j))
    (μ := fun ρ => match ρ.getD 5 none with | some (.list ds) => (ds.map fun d => match d with | .tuple xs => wB (xs.countP fun d => isNone d) | _ => 0).sum | _ => 0)
    (G := fun rs => ∃ fs ρ', rs = .nx ρ' S ∧ ρ'.getD 4 none = some (.list (fs.map paintD)) ∧ fs = takeM m (allF ts k p)) (by
    rintro ρ S' ⟨rfl, fs, W, o6, o7, o8, rfl, hs, heq, hlen, hm⟩
    rcases List.eq_nil_or_concat W with rfl | ⟨W, q, rfl⟩
    · refine .inl ⟨S', test_e, fs, _, rfl, rfl, ?_⟩
      simp only [List.reverse_nil, List.flatMap_nil, List.append_nil] at heq
      cases m with
      | none => exact heq
      | some j =>
        show fs = (allF ts k p).take j
        rw [← heq, List.take_of_length_le (hm j rfl)]
    · rw [List.concat_eq_append] at *
      have hpos : (0 : Int) < ((((W ++ [q]).map paintD).length : Nat) : Int) := by simp
      by_cases hstop : ∃ j, m = some j ∧ ¬ fs.length < j
      · obtain ⟨j, rfl, hj⟩ := hstop
        refine .inl ⟨S', ?_, fs, _, rfl, rfl, ?_⟩
        · have ht := test_j (W := webD n ts) (K := natD k) (P := paintD p) (j := (j : Int)) (gs := fs.map paintD) (ws := (W ++ [q]).map paintD) (o6 := o6) (o7 := o7) (o8 := o8) (S := S') (by simp)
          have hd : ¬ ((((fs.map paintD).length : Nat) : Int) < (j : Int)) := by rw [List.length_map]; omega
          rw [decide_eq_false hd] at ht
          exact ht
        · have := hm j rfl
          show fs = (allF ts k p).take j
          rw [← heq, List.take_append_of_le_length (by omega), List.take_of_length_le (by omega)]
      · have hgo : wtest [some (webD n ts), some (natD k), some (paintD p), some (colD m), some (.list (fs.map paintD)), some (.list ((W ++ [q]).map paintD)), o6, o7, o8, none, none, none] S' = .ok true S' := by
          cases m with
          | none => exact test_n (by simp)
          | some j =>
            have hj : fs.length < j := Nat.lt_of_not_le fun z => hstop ⟨j, rfl, by omega⟩
            have ht := test_j (W := webD n ts) (K := natD k) (P := paintD p) (j := (j : Int)) (gs := fs.map paintD) (ws := (W ++ [q]).map paintD) (o6 := o6) (o7 := o7) (o8 := o8) (S := S') (by simp)
            have hd : (((fs.map paintD).length : Nat) : Int) < (j : Int) := by rw [List.length_map]; omega
            rw [decide_eq_true hd] at ht
            exact ht
        refine .inr ⟨S', hgo, .inl ?_⟩
        have sq := hs q (by simp)
        have hWl := wS_len W
        rw [wS_app, wS_one] at hlen
        have hqw := wB_pos (bareN q)
        have hturn := fill_turn (fs := fs) (W := W) (M := colD m) p sq (by omega) (by omega) o6 o7 o8 S'
        have μe : ∀ W : List Paint, ((W.map paintD).map fun d => match d with | .tuple xs => wB (xs.countP fun d => isNone d) | _ => 0).sum = wS W := fun W => by
          unfold wS
          rw [List.map_map]
          congr 1
          apply List.map_congr_left
          intro q _
          show wB ((q.map colD).countP fun d => isNone d) = wB (bareN q)
          rw [List.countP_map]
          unfold bareN
          congr 2
          funext x
          exact isNone_col x
        cases hl : leftL q with
        | nil =>
          rw [hl] at hturn
          obtain ⟨p6, p7, p8, h⟩ := hturn
          refine ⟨_, _, h, ⟨rfl, fs ++ [q], W, p6, p7, p8, rfl, fun q' hq' => hs q' (List.mem_append_left _ hq'), ?_, ?_, fun j hj => ?_⟩, ?_⟩
          · rw [← heq, List.reverse_append, List.flatMap_append, List.reverse_singleton, List.flatMap_singleton, allF_nil hl]
            simp
          · rw [List.length_append, List.length_singleton]
            omega
          · have : fs.length < j := Nat.lt_of_not_le fun z => hstop ⟨j, hj, Nat.not_lt_of_le z⟩
            rw [List.length_append, List.length_singleton]
            omega
          · show ((W.map paintD).map _).sum < (((W ++ [q]).map paintD).map _).sum
            rw [μe, μe, wS_app, wS_one]
            omega
        | cons v r =>
          rw [hl] at hturn
          obtain ⟨p6, p7, p8, h⟩ := hturn
          have hmv : v ∈ leftL q := by rw [hl]; exact List.mem_cons_self ..
          obtain ⟨h1, h2⟩ := left_mem.mp hmv
          have hnw := next_wS (ts := ts) (k := k) sq.k4 h1 h2
          refine ⟨_, _, h, ⟨rfl, fs, W ++ nextP ts k q v, p6, p7, p8, rfl, fun q' hq' => ?_, ?_, ?_, hm⟩, ?_⟩
          · rcases List.mem_append.mp hq' with hq' | hq'
            · exact hs q' (List.mem_append_left _ hq')
            · unfold nextP at hq'
              obtain ⟨c, hc, rfl⟩ := List.mem_map.mp hq'
              exact sq.paint (by rw [← sq.len]; exact h1) (List.mem_reverse.mp hc)
          · rw [next_all hl W]
            exact heq
          · rw [wS_app]
            omega
          · show (((W ++ nextP ts k q v).map paintD).map _).sum < (((W ++ [q]).map paintD).map _).sum
            rw [μe, μe, wS_app, wS_app, wS_one]
            omega)
    fuel [some (webD n ts), some (natD k), some (paintD p), some (colD m), some (.list []), some (.list [paintD p]), none, none, none, none, none, none] S ⟨rfl, [], [p], none, none, none, rfl, fun q hq => by rw [List.mem_singleton.mp hq]; exact s, by simp, by simpa using hw0, fun j _ => Nat.zero_le _⟩ (by
      show ([paintD p].map _).sum < fuel
      have : wB ((p.map colD).countP fun d => isNone d) ≤ 5461 := by
        have e : ((p.map colD).countP fun d => isNone d) = bareN p := by
          rw [List.countP_map]
          unfold bareN
          congr 1
          funext x
          exact isNone_col x
        rw [e, ← wS_one]
        exact hw0
      show wB ((p.map colD).countP fun d => isNone d) + 0 < fuel
      unfold fuel
      omega)
  obtain ⟨fs, ρ', h1, h2, rfl⟩ := key
  unfold d_filled dFn b_filled env0
  unfold fbody wtest at h1
  simp [setAll, sz_small, h1]
  rw [List.getD_eq_getElem?_getD] at h2
  simp [h2, RS.fin]
end K85
namespace K85
open PySem PySem.Spec PyProof.Rows L2 PD
/-! ### the package's functions -/
theorem sheet_0 {n : Nat} {ts : List Tie} {k : Nat} {p : Paint} : fIx (sheetD n ts k p) (.int 0) = some (webD n ts) := ixT_0
theorem sheet_1 {n : Nat} {ts : List Tie} {k : Nat} {p : Paint} : fIx (sheetD n ts k p) (.int 1) = some (.int (k : Int)) := ixT_1
theorem sheet_2 {n : Nat} {ts : List Tie} {k : Nat} {p : Paint} : fIx (sheetD n ts k p) (.int 2) = some (paintD p) := ixT_2
theorem in_none (q : Paint) : fIn true .none (paintD q) = some (.bool (!decide ((none : Option Nat) ∈ q))) := by
  have e : inOk .none (q.map colD) = true := by
    unfold inOk
    rw [Bool.or_eq_true]
    left
    show (true && (q.map colD).all flatD) = true
    rw [Bool.true_and, List.all_eq_true]
    intro x hx
    obtain ⟨a, _, rfl⟩ := List.mem_map.mp hx
    cases a <;> rfl
  show (if inOk .none (q.map colD) = true then _ else none) = _
  rw [if_pos e]
  simp only [if_true]
  congr 3
  unfold inD
  rw [List.any_map, Bool.eq_iff_iff]
  have hc : ∀ a : Option Nat, PyData.eqv (colD a) .none = decide (a = none) := fun a => by cases a <;> rfl
  simp only [Function.comp_def, hc, List.any_eq_true, decide_eq_true_eq]
  constructor
  · rintro ⟨a, ha, rfl⟩; exact ha
  · exact fun h => ⟨_, h, rfl⟩
/-! ### the law's lists of the places tied to each -/
def lD (l : List Nat) : PyData := .list (l.map natD)
def sortN (l : List Nat) : List Nat := l.mergeSort fun a b => decide (a ≤ b)
theorem sortN_mem {l : List Nat} {x : Nat} : x ∈ sortN l ↔ x ∈ l := (List.mergeSort_perm ..).mem_iff
theorem intsOf_nat (l : List Nat) : intsOf (l.map natD) = some (l.map fun i : Nat => (i : Int)) := by
  have := intsOf_ints (ns := l.map fun i : Nat => (i : Int))
  rw [List.map_map] at this
  exact this
theorem sort_ok (l : List Nat) : fSort (lD l) = some (lD (sortN l)) := by
  apply fSort_I
  show (intsOf (l.map natD)).map _ = _
  rw [intsOf_nat]
  simp only [Option.map_some]
  congr 1
  unfold lD
  have e : sortI (l.map fun i : Nat => (i : Int)) = (sortN l).map fun i : Nat => (i : Int) := by
    symm
    apply sortI_eq
    · exact (List.mergeSort_perm ..).map _
    · have h := List.pairwise_mergeSort (le := fun a b : Nat => decide (a ≤ b)) (fun a b c h1 h2 => by simp only [decide_eq_true_eq] at *; omega) (fun a b => by simp only [Bool.or_eq_true, decide_eq_true_eq]; omega) l
      unfold sortN
      rw [List.pairwise_map]
      exact h.imp fun h => by have := of_decide_eq_true h; omega
  rw [e, List.map_map]
  rfl
theorem app2_ok {ρ : PD.Env} {S : Store} {i : Nat} {dk da : DE} {XL : List (List Nat)} {a b : Nat} (h : ρ.getD i none = some (.list (XL.map lD))) (hk : dk ρ S = .ok (natD a) S) (ha : da ρ S = .ok (natD b) S) (hl : a < XL.length) (hs : (XL.getD a []).length < 9000) :
    dApp2 i dk da ρ S = .nx (ρ.set i (some (.list ((XL.set a (XL.getD a [] ++ [b])).map lD)))) S := by
  unfold dApp2 onLst
  rw [h]
  simp only [hk, R.st_ok]
  have hget : (XL.map lD)[a]? = some (.list ((XL.getD a []).map natD)) := by
    rw [List.getElem?_map, List.getD_eq_getElem?_getD, List.getElem?_eq_getElem hl]
    rfl
  have hf : fSub2 (XL.map lD) (natD a) = some (a, (XL.getD a []).map natD) := by
    show ((ixN (XL.map lD).length (a : Int)).bind fun n => match (XL.map lD)[n]? with | some (.list xs) => some (n, xs) | _ => none) = _
    rw [ixN_nat (by rw [List.length_map]; exact hl)]
    simp only [Option.bind_some, hget]
  rw [hf]
  simp only [ha, R.st_ok]
  rw [fApp_ok (by rw [List.length_map]; omega)]
  simp only [Option.map_some, putO]
  congr 4
  rw [List.map_set]
  congr 1
  unfold lD
  rw [List.map_append]
  rfl
def nbody : DS := (dSeq (dApp2 1 (dVar 2) (dVar 3)) (dApp2 1 (dVar 3) (dVar 2)))
structure NearOk (n : Nat) (ts : List Tie) (NL : List (List Nat)) : Prop where
  len : NL.length = n
  mem : ∀ v, v < n → ∀ o, o ∈ NL.getD v [] ↔ (v, o) ∈ ts ∨ (o, v) ∈ ts
  few : ∀ v, v < n → (NL.getD v []).length ≤ 200
theorem getD_map {f : List Nat → List Nat} (hf : f [] = []) {XL : List (List Nat)} {v : Nat} : (XL.map f).getD v [] = f (XL.getD v []) := by
  rw [List.getD_eq_getElem?_getD, List.getD_eq_getElem?_getD, List.getElem?_map]
  cases XL[v]? with
  | none => exact hf.symm
  | some l => rfl
theorem getD_setL {XL : List (List Nat)} {a v : Nat} {l : List Nat} (ha : a < XL.length) : (XL.set a l).getD v [] = if a = v then l else XL.getD v [] := by
  rw [List.getD_eq_getElem?_getD, List.getD_eq_getElem?_getD]
  by_cases h : a = v
  · subst h
    rw [List.getElem?_set_self ha, if_pos rfl]
    rfl
  · rw [List.getElem?_set_ne h, if_neg h]
theorem near_ok {n : Nat} {ts : List Tie} (w : WebOk n ts) (S : Store) : ∃ NL, NearOk n ts NL ∧ d__law_near [webD n ts] S = .ok (.list (NL.map lD)) S := by
  have hn := w.hi
  have hfew := w.few
  have h1 := comp_y (t := .nm 4) (de := dLst dNil) (ρ := [some (webD n ts), none, none, none, none, none]) (S := S) (e := natD) (g := lD) (f := fun _ => []) (xs := List.range n) (acc := []) fun a _ => ⟨_, rfl, rfl⟩
  rw [List.nil_append] at h1
  have h0 : ∀ v, v < n → (((List.range n).map fun _ => ([] : List Nat)).getD v []) = [] := fun v hv => by
    rw [List.getD_eq_getElem?_getD, List.getElem?_map, List.getElem?_range hv]
    rfl
  have key := for_n (t := .tup [2, 3]) (body := nbody) (I := fun j ρ S' => S' = S ∧ ∃ (XL : List (List Nat)) (o2 o3 : Option PyData), ρ = [some (webD n ts), some (.list (XL.map lD)), o2, o3, none, none] ∧ XL.length = n ∧ (∀ v, v < n → (XL.getD v []).length ≤ 2 * j) ∧ ∀ v, v < n → ∀ o, o ∈ XL.getD v [] ↔ (v, o) ∈ ts.take j ∨ (o, v) ∈ ts.take j) (ds := ts.map tieD) (k := 0)
    (ρ := [some (webD n ts), some (.list (((List.range n).map fun _ => ([] : List Nat)).map lD)), none, none, none, none]) (S := S) ⟨rfl, _, none, none, rfl, by simp, fun v hv => by rw [h0 v hv]; simp, fun v hv o => by rw [h0 v hv]; simp⟩ (by
    rintro j d hd ρ S' ⟨rfl, XL, o2, o3, rfl, hl, hs, hm⟩
    rw [List.getElem?_map] at hd
    cases ht : ts[j]? with
    | none => rw [ht] at hd; cases hd
    | some t =>
      rw [ht] at hd
      cases hd
      obtain ⟨hj, htj⟩ := List.getElem?_eq_some_iff.mp ht
      obtain ⟨l1, l2⟩ := w.lt t (List.mem_of_getElem? ht)
      rw [Nat.zero_add] at *
      have hs1 := hs t.1 (by omega)
      have a1 := app2_ok (ρ := [some (webD n ts), some (.list (XL.map lD)), some (natD t.1), some (natD t.2), none, none]) (S := S') (i := 1) (dk := dVar 2) (da := dVar 3) (XL := XL) (a := t.1) (b := t.2) rfl rfl rfl (by omega) (by omega)
      have hs2 : ((XL.set t.1 (XL.getD t.1 [] ++ [t.2])).getD t.2 []).length < 9000 := by
        rw [getD_setL (by omega), if_neg (by omega)]
        have := hs t.2 (by omega)
        omega
      have a2 := app2_ok (ρ := [some (webD n ts), some (.list ((XL.set t.1 (XL.getD t.1 [] ++ [t.2])).map lD)), some (natD t.1), some (natD t.2), none, none]) (S := S') (i := 1) (dk := dVar 3) (da := dVar 2) (XL := XL.set t.1 (XL.getD t.1 [] ++ [t.2])) (a := t.2) (b := t.1) rfl rfl rfl (by rw [List.length_set]; omega) hs2
      have hset2 : ∀ v, ((XL.set t.1 (XL.getD t.1 [] ++ [t.2])).set t.2 ((XL.set t.1 (XL.getD t.1 [] ++ [t.2])).getD t.2 [] ++ [t.1])).getD v [] = if t.2 = v then XL.getD t.2 [] ++ [t.1] else if t.1 = v then XL.getD t.1 [] ++ [t.2] else XL.getD v [] := fun v => by
        rw [getD_setL (by rw [List.length_set]; omega), getD_setL (by omega), getD_setL (by omega), if_neg (show ¬ t.1 = t.2 by omega)]
      have hb : nbody [some (webD n ts), some (.list (XL.map lD)), some (natD t.1), some (natD t.2), none, none] S' = .nx [some (webD n ts), some (.list (((XL.set t.1 (XL.getD t.1 [] ++ [t.2])).set t.2 ((XL.set t.1 (XL.getD t.1 [] ++ [t.2])).getD t.2 [] ++ [t.1])).map lD)), some (natD t.1), some (natD t.2), none, none] S' := by
        unfold nbody dSeq
        rw [a1]
        exact a2
      refine ⟨_, rfl, _, S', hb, rfl, _, some (natD t.1), some (natD t.2), rfl, by rw [List.length_set, List.length_set]; exact hl, fun v hv => ?_, fun v hv o => ?_⟩
      · rw [hset2]
        have b0 := hs v hv
        have b2 := hs t.2 (by omega)
        split
        · rw [List.length_append, List.length_singleton]; omega
        · split
          · rw [List.length_append, List.length_singleton]; omega
          · omega
      · rw [hset2, List.take_succ, ht]
        simp only [Option.toList_some, List.mem_append, List.mem_singleton]
        have b0 := hm v hv o
        have b1 := hm t.1 (by omega) o
        have b2 := hm t.2 (by omega) o
        by_cases e2 : t.2 = v
        · rw [if_pos e2]
          subst e2
          rw [List.mem_append, b2, List.mem_singleton]
          constructor
          · rintro ((h | h) | rfl)
            · exact .inl (.inl h)
            · exact .inr (.inl h)
            · exact .inr (.inr rfl)
          · rintro ((h | h) | (h | h))
            · exact .inl (.inl h)
            · have h1 := congrArg Prod.fst h; dsimp only at h1; omega
            · exact .inl (.inr h)
            · right; exact congrArg Prod.fst h
        · rw [if_neg e2]
          by_cases e1 : t.1 = v
          · rw [if_pos e1]
            subst e1
            rw [List.mem_append, b1, List.mem_singleton]
            constructor
            · rintro ((h | h) | rfl)
              · exact .inl (.inl h)
              · exact .inr (.inl h)
              · exact .inl (.inr rfl)
            · rintro ((h | h) | (h | h))
              · exact .inl (.inl h)
              · right; exact congrArg Prod.snd h
              · exact .inl (.inr h)
              · have h1 := congrArg Prod.snd h; dsimp only at h1; omega
          · rw [if_neg e1, b0]
            constructor
            · rintro (h | h)
              · exact .inl (.inl h)
              · exact .inr (.inl h)
            · rintro ((h | h) | (h | h))
              · exact .inl h
              · exact absurd (congrArg Prod.fst h).symm e1
              · exact .inr h
              · exact absurd (congrArg Prod.snd h).symm e2)
  obtain ⟨ρ', S', q, rfl, XL, o2, o3, rfl, hl, hs, hm⟩ := key
  have h2 := comp_y (t := .nm 5) (de := (d1 fSort (dVar 5))) (ρ := [some (webD n ts), some (.list (XL.map lD)), o2, o3, none, none]) (S := S') (e := lD) (g := lD) (f := sortN) (xs := XL) (acc := []) fun l _ => ⟨_, rfl, by simp [sort_ok]⟩
  rw [List.nil_append] at h2
  refine ⟨XL.map sortN, ⟨by simp [hl], fun v hv o => ?_, fun v hv => ?_⟩, ?_⟩
  · rw [getD_map (f := sortN) (by simp [sortN]), sortN_mem, hm v hv o]
    rw [show 0 + (ts.map tieD).length = ts.length by simp, List.take_length]
  · rw [getD_map (f := sortN) (by simp [sortN])]
    unfold sortN
    have := hs v hv
    rw [List.length_mergeSort]
    rw [List.length_map] at this
    omega
  · have i0 : fIx (webD n ts) (.int 0) = some (.int (n : Int)) := ixT_0
    have i1 : fIx (webD n ts) (.int 1) = some (.tuple (ts.map tieD)) := ixT_1
    have c1 : cR (n : Int) = true := cR_small (by omega) (by omega)
    have c2 : sz (n : Int).toNat = true := sz_small (by omega)
    have hr : rngD 0 (n : Int).toNat = (List.range n).map natD := by rw [Int.toNat_natCast, rngD0]
    rw [← hr] at h1
    have step : ∀ (W : PyData) (nn : Int) (es ts' xs rs : List PyData) (ρ' : PD.Env), fIx W (.int 0) = some (.int nn) → fIx W (.int 1) = some (.tuple ts') → cR nn = true → sz nn.toNat = true → compL (.nm 4) dYes (dLst dNil) [some W, none, none, none, none, none] [] (rngD 0 nn.toNat) S' = .ok (.list es) S' →
        forL (.tup [2, 3]) nbody ts' [some W, some (.list es), none, none, none, none] S' = .nx [some W, some (.list xs), o2, o3, none, none] S' → compL (.nm 5) dYes (d1 fSort (dVar 5)) [some W, some (.list xs), o2, o3, none, none] [] xs S' = .ok (.list rs) S' → d__law_near [W] S' = .ok (.list rs) S' := by
      intro W nn es ts' xs rs ρ' i0 i1 c1 c2 h1 q h2
      unfold d__law_near dFn b__law_near env0
      unfold nbody at q
      simp [i0, i1, c1, c2, h1, q, h2, RS.fin]
    exact step _ _ _ _ _ _ [] i0 i1 c1 c2 h1 q h2
theorem fillings_ok {n : Nat} {ts : List Tie} {k : Nat} {p : Paint} (s : SheetOk n ts k p) {m : Nat} (h1 : 1 ≤ m) (h2 : m ≤ 100) (S : Store) : d_fillings [sheetD n ts k p, .int (m : Int)] S = .ok (.tuple (((allF ts k p).take m).map paintD)) S := by
  have e1 := check_ok s S
  have e2 : d_is_within [.int (m : Int), .int 1, .int 100] S = .ok (.bool true) S := by
    rw [is_within_ok, decide_eq_true (by omega), decide_eq_true (by omega)]
    rfl
  have e3 : d_filled [webD n ts, .int (k : Int), paintD p, .int (m : Int)] S = .ok (.list (((allF ts k p).take m).map paintD)) S := filled_ok s (some m) S
  have i0 := sheet_0 (n := n) (ts := ts) (k := k) (p := p)
  have i1 := sheet_1 (n := n) (ts := ts) (k := k) (p := p)
  have i2 := sheet_2 (n := n) (ts := ts) (k := k) (p := p)
  generalize ((allF ts k p).take m).map paintD = res at *
  unfold d_fillings dFn b_fillings env0
  simp [e1, e2, i0, i1, i2, e3, RS.fin]
end K85
namespace K85
open PySem PySem.Spec PyProof.Rows L2 PD
/-! ### all paintings by rows -/
def rowD (r : List Nat) : PyData := .tuple (r.map natD)
def okC (ts : List Tie) (r : List Nat) (v c : Nat) : Bool := !((tiedTo ts v).any fun o => decide (o < v) && decide (r.getD o 0 = c))
def extR (ts : List Tie) (k v : Nat) (r : List Nat) : List (List Nat) := ((List.range k).filter (okC ts r v)).map fun c => r ++ [c]
def rowsN (ts : List Tie) (k : Nat) : Nat → List (List Nat)
  | 0 => [[]]
  | v + 1 => (rowsN ts k v).flatMap (extR ts k v)
theorem extR_len (ts : List Tie) (k v : Nat) (r : List Nat) : (extR ts k v r).length ≤ k := by
  unfold extR
  rw [List.length_map]
  have := List.length_filter_le (okC ts r v) (List.range k)
  rw [List.length_range] at this
  exact this
theorem rows_len {ts : List Tie} {k : Nat} (hk : k ≤ 4) : ∀ v, (rowsN ts k v).length ≤ 4 ^ v
  | 0 => by simp [rowsN]
  | v + 1 => by
    have ih := rows_len (ts := ts) hk v
    have h := flat_len (l := rowsN ts k v) (g := extR ts k v) (c := k) fun r _ => extR_len ts k v r
    have h2 : k * (rowsN ts k v).length ≤ 4 * 4 ^ v := Nat.mul_le_mul hk ih
    show ((rowsN ts k v).flatMap (extR ts k v)).length ≤ 4 ^ (v + 1)
    rw [Nat.pow_succ]
    omega
theorem in_nats (c : Nat) (l : List Nat) : fIn true (.int (c : Int)) (.list (l.map natD)) = some (.bool (!decide (c ∈ l))) := by
  have := in_cols c (l.map some)
  rw [List.map_map] at this
  have e : (colD ∘ some) = natD := rfl
  rw [e] at this
  rw [this]
  congr 3
  rw [decide_eq_decide]
  simp
theorem row_get {r : List Nat} {o : Nat} (h : o < r.length) : (r.map natD)[o]? = some (natD (r.getD o 0)) := by
  rw [List.getElem?_map, List.getD_eq_getElem?_getD, List.getElem?_eq_getElem h]
  rfl
def ibody : DS := (dSeq (dSet 7 (dComp (dIt seqD (d2 fIx (dVar 2) (dVar 4))) (.nm 8) (dTest (d2 fLt (dVar 8) (dVar 4))) (d2 fIx (dVar 6) (dVar 8)))) (dSet 5 (d2 fAddL (dVar 5) (dComp (dRng1 (dVar 1)) (.nm 9) (dTest (d2 (fIn true) (dVar 9) (dVar 7))) (d2 fAdd (dVar 6) (dTup (dCons (dVar 9) (dNil))))))))
theorem tst2 {F : PyData → PyData → Option PyData} {i j : Nat} {ρ : PD.Env} {x y : PyData} {b : Bool} {S : Store} (hi : ρ.getD i none = some x) (hj : ρ.getD j none = some y) (h : F x y = some (.bool b)) : dTest (d2 F (dVar i) (dVar j)) ρ S = .ok b S := by
  simp only [ap_test, ap_d2, ap_var, hi, hj, h, ofO_some, R.bind_ok]
theorem inner_step {W N F R : PyData} {kk : Int} {V : PyData} {ls us ns ws : List PyData} {L : PyData} {o7 : Option PyData} {S : Store} (hN : fIx N V = some L) (hs : seqD L = some ls) (c1 : cR kk = true) (c2 : sz kk.toNat = true) {gs : List PyData}
    (h7 : compL (.nm 8) (dTest (d2 fLt (dVar 8) (dVar 4))) (d2 fIx (dVar 6) (dVar 8)) [some W, some (.int kk), some N, some F, some V, some (.list gs), some R, o7, none, none] [] ls S = .ok (.list us) S)
    (h9 : compL (.nm 9) (dTest (d2 (fIn true) (dVar 9) (dVar 7))) (d2 fAdd (dVar 6) (dTup (dCons (dVar 9) (dNil)))) [some W, some (.int kk), some N, some F, some V, some (.list gs), some R, some (.list us), none, none] [] (rngD 0 kk.toNat) S = .ok (.list ns) S) (ha : fAddL (.list gs) (.list ns) = some (.list ws)) :
    ibody [some W, some (.int kk), some N, some F, some V, some (.list gs), some R, o7, none, none] S = .nx [some W, some (.int kk), some N, some F, some V, some (.list ws), some R, some (.list us), none, none] S := by
  unfold ibody
  simp [hN, hs, c1, c2, h7, h9, ha]
theorem inner_turn {n : Nat} {ts : List Tie} {k v : Nat} {NL : List (List Nat)} {r : List Nat} {F : PyData} {gs : List (List Nat)} {o7 : Option PyData} {S : Store} (hn : NearOk n ts NL) (hn6 : n ≤ 6) (hk : k ≤ 4) (hv : v < n) (hr : r.length = v) (hg : gs.length ≤ 5000) :
    ∃ p7, ibody [some (webD n ts), some (natD k), some (.list (NL.map lD)), some F, some (natD v), some (.list (gs.map rowD)), some (rowD r), o7, none, none] S = .nx [some (webD n ts), some (natD k), some (.list (NL.map lD)), some F, some (natD v), some (.list ((gs ++ extR ts k v r).map rowD)), some (rowD r), p7, none, none] S := by
  have hN : fIx (.list (NL.map lD)) (natD v) = some (lD (NL.getD v [])) := ix_nat (by
    rw [List.getElem?_map, List.getD_eq_getElem?_getD, List.getElem?_eq_getElem (by rw [hn.len]; exact hv)]
    rfl)
  have hs : seqD (lD (NL.getD v [])) = some ((NL.getD v []).map natD) := rfl
  have c1 : cR (k : Int) = true := cR_small (by omega) (by omega)
  have c2 : sz (k : Int).toNat = true := sz_small (by omega)
  have hrg : rngD 0 (k : Int).toNat = (List.range k).map natD := by rw [Int.toNat_natCast, rngD0]
  have h7 := comp_t (t := .nm 8) (tt := (dTest (d2 fLt (dVar 8) (dVar 4)))) (de := (d2 fIx (dVar 6) (dVar 8))) (ρ := [some (webD n ts), some (natD k), some (.list (NL.map lD)), some F, some (natD v), some (.list (gs.map rowD)), some (rowD r), o7, none, none]) (S := S) (e := natD) (g := natD) (p := fun o => decide (o < v)) (f := fun o => r.getD o 0) (xs := NL.getD v []) (acc := []) (fun o _ => by
    refine ⟨_, rfl, by simp, fun h => ?_⟩
    have ho : o < r.length := by have := of_decide_eq_true h; omega
    have := ixT (row_get (r := r) ho)
    have e : fIx (rowD r) (.int (o : Int)) = some (natD (r.getD o 0)) := this
    generalize rowD r = R at *
    generalize r.getD o 0 = z at *
    simp [e])
  rw [List.nil_append] at h7
  have h9 := comp_t (t := .nm 9) (tt := (dTest (d2 (fIn true) (dVar 9) (dVar 7)))) (de := (d2 fAdd (dVar 6) (dTup (dCons (dVar 9) (dNil))))) (ρ := [some (webD n ts), some (natD k), some (.list (NL.map lD)), some F, some (natD v), some (.list (gs.map rowD)), some (rowD r), some (.list ((((NL.getD v []).filter fun o => decide (o < v)).map fun o => r.getD o 0).map natD)), none, none]) (S := S) (e := natD) (g := rowD) (p := fun c => !decide (c ∈ ((NL.getD v []).filter fun o => decide (o < v)).map fun o => r.getD o 0)) (f := fun c => r ++ [c]) (xs := List.range k) (acc := []) (fun c _ => by
    have hi := in_nats c (((NL.getD v []).filter fun o => decide (o < v)).map fun o => r.getD o 0)
    have ha := fAddT_ok (xs := r.map natD) (ys := [natD c]) (by simp; omega)
    have e : fAdd (rowD r) (.tuple [natD c]) = some (rowD (r ++ [c])) := by
      show fAdd (.tuple (r.map natD)) _ = _
      rw [ha]
      unfold rowD
      rw [List.map_append]
      rfl
    refine ⟨_, rfl, tst2 rfl rfl hi, fun _ => ?_⟩
    generalize rowD r = R at *
    generalize rowD (r ++ [c]) = R' at *
    simp [e, sz_small])
  rw [List.nil_append, ← hrg] at h9
  have hcong : (List.range k).filter (fun c => !decide (c ∈ ((NL.getD v []).filter fun o => decide (o < v)).map fun o => r.getD o 0)) = (List.range k).filter (okC ts r v) := by
    apply List.filter_congr
    intro c _
    have h : decide (c ∈ ((NL.getD v []).filter fun o => decide (o < v)).map fun o => r.getD o 0) = (tiedTo ts v).any fun o => decide (o < v) && decide (r.getD o 0 = c) := by
      rw [Bool.eq_iff_iff]
      simp only [decide_eq_true_eq, List.mem_map, List.mem_filter, List.any_eq_true, Bool.and_eq_true]
      constructor
      · rintro ⟨o, ⟨h1, h2⟩, h3⟩
        exact ⟨o, mem_tied.mpr ((hn.mem v hv o).mp h1), h2, h3⟩
      · rintro ⟨o, h1, h2, h3⟩
        exact ⟨o, ⟨(hn.mem v hv o).mpr (mem_tied.mp h1), h2⟩, h3⟩
    rw [h]
    rfl
  rw [hcong] at h9
  have hl := extR_len ts k v r
  have ha := fAddL_ok (xs := gs.map rowD) (ys := (extR ts k v r).map rowD) (by simp; omega)
  rw [← List.map_append] at ha
  exact ⟨_, inner_step hN hs c1 c2 h7 h9 ha⟩
def obody : DS := (dSeq (dSet 5 (dLst (dNil))) (dSeq (dFor (dIt seqD (dVar 3)) (.nm 6) ibody) (dSet 3 (dVar 5))))
theorem rows_member_len {ts : List Tie} {k : Nat} : ∀ {v : Nat} {r : List Nat}, r ∈ rowsN ts k v → r.length = v
  | 0, r, h => by
    have : r = [] := by simpa [rowsN] using h
    subst this; rfl
  | v + 1, r, h => by
    obtain ⟨r', h1, h2⟩ := List.mem_flatMap.mp h
    unfold extR at h2
    obtain ⟨c, _, rfl⟩ := List.mem_map.mp h2
    rw [List.length_append, rows_member_len h1]
    rfl
theorem outer_turn {n : Nat} {ts : List Tie} {k v : Nat} {NL : List (List Nat)} {o5 o6 o7 : Option PyData} {S : Store} (hn : NearOk n ts NL) (hn6 : n ≤ 6) (hk : k ≤ 4) (hv : v < n) :
    ∃ p5 p6 p7, obody [some (webD n ts), some (natD k), some (.list (NL.map lD)), some (.list ((rowsN ts k v).map rowD)), some (natD v), o5, o6, o7, none, none] S = .nx [some (webD n ts), some (natD k), some (.list (NL.map lD)), some (.list ((rowsN ts k (v + 1)).map rowD)), some (natD v), p5, p6, p7, none, none] S := by
  have hrl := rows_len (ts := ts) (k := k) hk v
  have hp : 4 ^ v ≤ 4 ^ 5 := Nat.pow_le_pow_right (by decide) (by omega)
  have h1024 : (4 : Nat) ^ 5 = 1024 := rfl
  obtain ⟨ρ', S', q, rfl, o6', o7', rfl⟩ := for_n (t := .nm 6) (body := ibody) (I := fun j ρ S' => S' = S ∧ ∃ p6 p7, ρ = [some (webD n ts), some (natD k), some (.list (NL.map lD)), some (.list ((rowsN ts k v).map rowD)), some (natD v), some (.list ((((rowsN ts k v).take j).flatMap (extR ts k v)).map rowD)), p6, p7, none, none]) (ds := (rowsN ts k v).map rowD) (k := 0)
    (ρ := [some (webD n ts), some (natD k), some (.list (NL.map lD)), some (.list ((rowsN ts k v).map rowD)), some (natD v), some (.list []), o6, o7, none, none]) (S := S) ⟨rfl, o6, o7, rfl⟩ (by
    rintro j d hd ρ S' ⟨rfl, p6, p7, rfl⟩
    rw [List.getElem?_map] at hd
    cases hr : (rowsN ts k v)[j]? with
    | none => rw [hr] at hd; cases hd
    | some r =>
      rw [hr] at hd
      cases hd
      have hj := (List.getElem?_eq_some_iff.mp hr).1
      rw [Nat.zero_add] at *
      have hfl := flat_len (l := (rowsN ts k v).take j) (g := extR ts k v) (c := k) fun r _ => extR_len ts k v r
      have hkj : k * ((rowsN ts k v).take j).length ≤ 4 * 1024 := Nat.mul_le_mul hk (by rw [List.length_take]; omega)
      obtain ⟨p7', h⟩ := inner_turn (F := .list ((rowsN ts k v).map rowD)) (gs := ((rowsN ts k v).take j).flatMap (extR ts k v)) (o7 := p7) (S := S') hn hn6 hk hv (rows_member_len (List.mem_of_getElem? hr)) (by omega)
      refine ⟨_, rfl, _, S', h, rfl, some (rowD r), p7', ?_⟩
      rw [List.take_succ, hr, List.flatMap_append]
      simp)
  have hlen : 0 + ((rowsN ts k v).map rowD).length = (rowsN ts k v).length := by simp
  rw [hlen, List.take_length] at q
  have step : ∀ (W K N V : PyData) (os ns : List PyData), forL (.nm 6) ibody os [some W, some K, some N, some (.list os), some V, some (.list []), o6, o7, none, none] S' = .nx [some W, some K, some N, some (.list os), some V, some (.list ns), o6', o7', none, none] S' →
      obody [some W, some K, some N, some (.list os), some V, o5, o6, o7, none, none] S' = .nx [some W, some K, some N, some (.list ns), some V, some (.list ns), o6', o7', none, none] S' := by
    intro W K N V os ns q
    unfold obody
    simp [q, sz_small]
  exact ⟨_, o6', o7', step _ _ _ _ _ _ q⟩
theorem paintings_ok {n : Nat} {ts : List Tie} {k : Nat} (w : WebOk n ts) (hk : k ≤ 4) (S : Store) : d__law_paintings [webD n ts, natD k] S = .ok (.list ((rowsN ts k n).map rowD)) S := by
  have hn := w.hi
  obtain ⟨NL, hN, e1⟩ := near_ok w S
  obtain ⟨ρ', S', q, rfl, o4, o5, o6, o7, rfl⟩ := for_n (t := .nm 4) (body := obody) (I := fun j ρ S' => S' = S ∧ ∃ o4 o5 o6 o7, ρ = [some (webD n ts), some (natD k), some (.list (NL.map lD)), some (.list ((rowsN ts k j).map rowD)), o4, o5, o6, o7, none, none]) (ds := rngD 0 (n : Int).toNat) (k := 0)
    (ρ := [some (webD n ts), some (natD k), some (.list (NL.map lD)), some (.list [.tuple []]), none, none, none, none, none, none]) (S := S) ⟨rfl, none, none, none, none, rfl⟩ (by
    rintro j d hd ρ S' ⟨rfl, o4, o5, o6, o7, rfl⟩
    obtain ⟨rfl, hj⟩ := rngD_get hd
    obtain ⟨p5, p6, p7, h⟩ := outer_turn (o5 := o5) (o6 := o6) (o7 := o7) (S := S') (v := j) hN hn hk (by omega)
    rw [Nat.zero_add] at *
    refine ⟨_, rfl, _, S', ?_, rfl, some (natD j), p5, p6, p7, rfl⟩
    rw [show (0 : Int) + (j : Int) = (j : Int) by omega]
    exact h)
  rw [rngD_len, Nat.zero_add, Int.toNat_natCast] at q
  have i0 : fIx (webD n ts) (.int 0) = some (.int (n : Int)) := ixT_0
  have c1 : cR (n : Int) = true := cR_small (by omega) (by omega)
  have c2 : sz (n : Int).toNat = true := sz_small (by omega)
  have step : ∀ (W K : PyData) (nn : Int) (NS : PyData) (rs : List PyData), d__law_near [W] S' = .ok NS S' → fIx W (.int 0) = some (.int nn) → cR nn = true → sz nn.toNat = true →
      forL (.nm 4) obody (rngD 0 nn.toNat) [some W, some K, some NS, some (.list [.tuple []]), none, none, none, none, none, none] S' = .nx [some W, some K, some NS, some (.list rs), o4, o5, o6, o7, none, none] S' → d__law_paintings [W, K] S' = .ok (.list rs) S' := by
    intro W K nn NS rs e1 i0 c1 c2 q
    unfold d__law_paintings dFn b__law_paintings env0
    unfold obody ibody at q
    simp [e1, i0, c1, c2, setAll, sz_small, q, RS.fin]
  rw [Int.toNat_natCast] at c2
  exact step _ _ (n : Int) _ _ e1 i0 c1 (by rw [Int.toNat_natCast]; exact c2) (by rw [Int.toNat_natCast]; exact q)
/-! ### the law's fillings -/
def agreeB (p : Paint) (r : List Nat) : Bool := (p.zip r).all fun x => decide (x.1 = none) || decide (x.1 = some x.2)
def gbody : DS := (dIfS (dTest (d1 (fBs fun bs => bs.all _root_.id) (dComp (dIt2 fZip (dVar 3) (dVar 5)) (.tup [6, 7]) (dYes) (dOrV (d2 (fIsN false) (dVar 6) (dC .none)) (d2 fEq (dVar 6) (dVar 7)))))) (dApp 4 (dVar 5)) (dNx))
theorem agree_step {A W K P R : PyData} {gs zs bs : List PyData} {b : Bool} {Z : PyData} {o6 o7 : Option PyData} {S : Store} (hz : fZip P R = some zs) (hc : compL (.tup [6, 7]) dYes (dOrV (d2 (fIsN false) (dVar 6) (dC .none)) (d2 fEq (dVar 6) (dVar 7))) [some A, some W, some K, some P, some (.list gs), some R, o6, o7] [] zs S = .ok (.list bs) S) (hb : fBs (fun bs => bs.all _root_.id) (.list bs) = some (.bool b)) (ha : fApp gs R = some Z) :
    gbody [some A, some W, some K, some P, some (.list gs), some R, o6, o7] S = .nx [some A, some W, some K, some P, some (if b = true then Z else .list gs), some R, o6, o7] S := by
  unfold gbody
  cases b with
  | true => simp [hz, hc, hb, onLst, putO, ha]
  | false => simp [hz, hc, hb, onLst, putO, ha]
theorem eq_col_int (a : Option Nat) (c : Nat) : fEq (colD a) (.int (c : Int)) = some (.bool (decide (a = some c))) := eq_cols a (some c)
theorem law_fillings_ok {n : Nat} {ts : List Tie} {k : Nat} {p : Paint} (s : SheetOk n ts k p) (S : Store) : d__law_fillings [sheetD n ts k p] S = .ok (.list (((rowsN ts k n).filter (agreeB p)).map rowD)) S := by
  have hn := s.w.hi
  have e1 : d__law_paintings [webD n ts, .int (k : Int)] S = .ok (.list ((rowsN ts k n).map rowD)) S := paintings_ok s.w s.k4 S
  have hrl := rows_len (ts := ts) (k := k) s.k4 n
  have hp : 4 ^ n ≤ 4 ^ 6 := Nat.pow_le_pow_right (by decide) hn
  have h4096 : (4 : Nat) ^ 6 = 4096 := rfl
  obtain ⟨ρ', S', q, rfl, o5, o6, o7, rfl⟩ := for_n (t := .nm 5) (body := gbody) (I := fun j ρ S' => S' = S ∧ ∃ o5 o6 o7, ρ = [some (sheetD n ts k p), some (webD n ts), some (natD k), some (paintD p), some (.list ((((rowsN ts k n).take j).filter (agreeB p)).map rowD)), o5, o6, o7]) (ds := (rowsN ts k n).map rowD) (k := 0)
    (ρ := [some (sheetD n ts k p), some (webD n ts), some (natD k), some (paintD p), some (.list []), none, none, none]) (S := S) ⟨rfl, none, none, none, rfl⟩ (by
    rintro j d hd ρ S' ⟨rfl, o5, o6, o7, rfl⟩
    rw [List.getElem?_map] at hd
    cases hr : (rowsN ts k n)[j]? with
    | none => rw [hr] at hd; cases hd
    | some r =>
      rw [hr] at hd
      cases hd
      have hj := (List.getElem?_eq_some_iff.mp hr).1
      rw [Nat.zero_add] at *
      have hz : fZip (paintD p) (rowD r) = some ((p.zip r).map fun a => PyData.tuple [colD a.1, natD a.2]) := by
        show some (zipD (p.map colD) (r.map natD)) = _
        rw [zipD_t]
      have hc := comp_y (t := .tup [6, 7]) (de := (dOrV (d2 (fIsN false) (dVar 6) (dC .none)) (d2 fEq (dVar 6) (dVar 7)))) (ρ := [some (sheetD n ts k p), some (webD n ts), some (natD k), some (paintD p), some (.list ((((rowsN ts k n).take j).filter (agreeB p)).map rowD)), some (rowD r), o6, o7]) (S := S') (e := fun a : Option Nat × Nat => PyData.tuple [colD a.1, natD a.2]) (g := PyData.bool) (f := fun x => decide (x.1 = none) || decide (x.1 = some x.2)) (xs := p.zip r) (acc := []) (fun a _ => by
        refine ⟨_, rfl, ?_⟩
        have h1 := eq_col_int a.1 a.2
        by_cases h : a.1 = none
        · simp [isN_col, h]
        · simp [isN_col, h, h1])
      rw [List.nil_append] at hc
      have hb : fBs (fun bs => bs.all _root_.id) (.list (((p.zip r).map fun x => decide (x.1 = none) || decide (x.1 = some x.2)).map PyData.bool)) = some (.bool (agreeB p r)) := by
        show (boolsOf _).map (fun bs => PyData.bool (bs.all _root_.id)) = _
        rw [boolsOf_bools]
        simp only [Option.map_some]
        have e : ((p.zip r).map fun x => decide (x.1 = none) || decide (x.1 = some x.2)).all _root_.id = agreeB p r := by
          unfold agreeB
          rw [List.all_map]
          rfl
        rw [e]
      have hfl := List.length_filter_le (agreeB p) ((rowsN ts k n).take j)
      rw [List.length_take] at hfl
      have ha := fApp_ok (xs := (((rowsN ts k n).take j).filter (agreeB p)).map rowD) (d := rowD r) (by rw [List.length_map]; omega)
      refine ⟨_, rfl, _, S', agree_step hz hc hb ha, rfl, some (rowD r), o6, o7, ?_⟩
      rw [List.take_succ, hr]
      simp only [Option.toList_some, List.filter_append]
      cases hag : agreeB p r with
      | true => rw [List.filter_cons_of_pos (by simpa using hag)]; simp
      | false => rw [List.filter_cons_of_neg (by simp [hag])]; simp)
  have hlen : 0 + ((rowsN ts k n).map rowD).length = (rowsN ts k n).length := by simp
  rw [hlen, List.take_length] at q
  have step : ∀ (A W K P : PyData) (rs fs : List PyData), (Tg.tup [1, 2, 3]).bind A [some A, none, none, none, none, none, none, none] = some [some A, some W, some K, some P, none, none, none, none] → d__law_paintings [W, K] S' = .ok (.list rs) S' → forL (.nm 5) gbody rs [some A, some W, some K, some P, some (.list []), none, none, none] S' = .nx [some A, some W, some K, some P, some (.list fs), o5, o6, o7] S' → d__law_fillings [A] S' = .ok (.list fs) S' := by
    intro A W K P rs fs hb e1 q
    unfold d__law_fillings dFn b__law_fillings env0
    unfold gbody at q
    simp [hb, e1, q, sz_small, RS.fin]
  exact step _ _ _ _ _ _ rfl e1 q
end K85
namespace K85
open PySem PySem.Spec PyProof.Rows L2 PD
/-! ### rows and solutions -/
def rowP (r : List Nat) : Paint := r.map some
theorem colAt_row {r : List Nat} {o : Nat} : colAt (rowP r) o = r[o]? := by
  unfold colAt rowP
  rw [List.getD_eq_getElem?_getD, List.getElem?_map]
  cases r[o]? <;> rfl
theorem getD_app {r : List Nat} {c o : Nat} : (r ++ [c]).getD o 0 = if o < r.length then r.getD o 0 else if o = r.length then c else 0 := by
  rw [List.getD_eq_getElem?_getD, List.getD_eq_getElem?_getD]
  by_cases h : o < r.length
  · rw [if_pos h, List.getElem?_append_left h]
  · rw [if_neg h, List.getElem?_append_right (by omega)]
    by_cases h2 : o = r.length
    · rw [if_pos h2, h2]; simp
    · rw [if_neg h2, List.getElem?_eq_none (by simp; omega)]; rfl
theorem okC_iff {ts : List Tie} {r : List Nat} {v c : Nat} : okC ts r v c = true ↔ ∀ o, ((v, o) ∈ ts ∨ (o, v) ∈ ts) → o < v → r.getD o 0 ≠ c := by
  unfold okC
  rw [Bool.not_eq_true', List.any_eq_false]
  constructor
  · intro h o ho hv he
    exact h o (mem_tied.mpr ho) (by rw [Bool.and_eq_true]; exact ⟨decide_eq_true hv, decide_eq_true he⟩)
  · intro h o ho hb
    rw [Bool.and_eq_true, decide_eq_true_eq, decide_eq_true_eq] at hb
    exact h o (mem_tied.mp ho) hb.1 hb.2
theorem mem_ext {ts : List Tie} {k v : Nat} {r x : List Nat} : x ∈ extR ts k v r ↔ ∃ c, c < k ∧ okC ts r v c = true ∧ x = r ++ [c] := by
  unfold extR
  rw [List.mem_map]
  constructor
  · rintro ⟨c, hc, rfl⟩
    rw [List.mem_filter, List.mem_range] at hc
    exact ⟨c, hc.1, hc.2, rfl⟩
  · rintro ⟨c, h1, h2, rfl⟩
    exact ⟨c, List.mem_filter.mpr ⟨List.mem_range.mpr h1, h2⟩, rfl⟩
theorem mem_rows {n : Nat} {ts : List Tie} {k : Nat} (w : WebOk n ts) : ∀ (v : Nat) (r : List Nat), r ∈ rowsN ts k v ↔ r.length = v ∧ (∀ o, o < v → r.getD o 0 < k) ∧ ∀ t ∈ ts, t.2 < v → r.getD t.1 0 ≠ r.getD t.2 0
  | 0, r => by
    constructor
    · intro h
      have : r = [] := by simpa [rowsN] using h
      subst this
      exact ⟨rfl, fun o h => by omega, fun t _ h => by omega⟩
    · rintro ⟨h, _, _⟩
      have : r = [] := List.length_eq_zero_iff.mp h
      subst this
      simp [rowsN]
  | v + 1, x => by
    show x ∈ (rowsN ts k v).flatMap (extR ts k v) ↔ _
    rw [List.mem_flatMap]
    constructor
    · rintro ⟨r, hr, hx⟩
      obtain ⟨c, hc, hok, rfl⟩ := mem_ext.mp hx
      obtain ⟨h1, h2, h3⟩ := (mem_rows w v r).mp hr
      refine ⟨by simp [h1], fun o ho => ?_, fun t ht htv => ?_⟩
      · rw [getD_app, h1]
        split
        · exact h2 o (by assumption)
        · rw [if_pos (by omega)]; exact hc
      · have hl := (w.lt t ht).1
        rw [getD_app, getD_app, h1, if_pos (show t.1 < v by omega)]
        by_cases e : t.2 < v
        · rw [if_pos e]; exact h3 t ht e
        · rw [if_neg e, if_pos (by omega)]
          have e2 : t.2 = v := by omega
          exact okC_iff.mp hok t.1 (.inr (by rw [← e2]; exact ht)) (by omega)
    · rintro ⟨h1, h2, h3⟩
      rcases List.eq_nil_or_concat x with rfl | ⟨r, c, rfl⟩
      · simp at h1
      · rw [List.concat_eq_append] at *
        have hl : r.length = v := by simpa using h1
        refine ⟨r, (mem_rows w v r).mpr ⟨hl, fun o ho => ?_, fun t ht htv => ?_⟩, mem_ext.mpr ⟨c, ?_, okC_iff.mpr fun o ho hov => ?_, rfl⟩⟩
        · have := h2 o (by omega)
          rw [getD_app, hl, if_pos ho] at this
          exact this
        · have hlt := (w.lt t ht).1
          have := h3 t ht (by omega)
          rw [getD_app, getD_app, hl, if_pos (by omega), if_pos htv] at this
          exact this
        · have := h2 v (by omega)
          rw [getD_app, hl, if_neg (by omega), if_pos rfl] at this
          exact this
        · rcases ho with ho | ho
          · have := (w.lt _ ho).1
            dsimp only at this
            omega
          · have := h3 _ ho (by dsimp only; omega)
            dsimp only at this
            rw [getD_app, getD_app, hl, if_pos hov, if_neg (by omega), if_pos rfl] at this
            exact this
theorem agree_iff {p : Paint} {r : List Nat} (hl : p.length = r.length) : agreeB p r = true ↔ Ext' p (rowP r) := by
  unfold agreeB Ext'
  rw [List.all_eq_true]
  constructor
  · intro h v c hc
    have hv := colAt_some hc
    have hr : v < r.length := by omega
    have hm : (p[v], r[v]) ∈ p.zip r := by
      rw [List.mem_iff_getElem]
      exact ⟨v, by rw [List.length_zip]; omega, by rw [List.getElem_zip]⟩
    have := h _ hm
    have hp : p[v] = some c := by
      unfold colAt at hc
      rw [List.getD_eq_getElem?_getD, List.getElem?_eq_getElem hv] at hc
      exact hc
    rw [hp] at this
    simp at this
    rw [colAt_row, List.getElem?_eq_getElem hr, this]
  · intro h x hx
    obtain ⟨i, hi, rfl⟩ := List.mem_iff_getElem.mp hx
    rw [List.length_zip] at hi
    rw [List.getElem_zip]
    dsimp only
    cases hp : p[i] with
    | none => rfl
    | some c =>
      have hc : colAt p i = some c := by
        unfold colAt
        rw [List.getD_eq_getElem?_getD, List.getElem?_eq_getElem (by omega), hp]
        rfl
      have := h i c hc
      rw [colAt_row, List.getElem?_eq_getElem (by omega)] at this
      simp at this
      simp [this]
theorem row_sol {n : Nat} {ts : List Tie} {k : Nat} {p : Paint} (s : SheetOk n ts k p) {r : List Nat} (hl : r.length = n) : (r ∈ rowsN ts k n ∧ agreeB p r = true) ↔ Sol n ts k p (rowP r) := by
  rw [mem_rows s.w, agree_iff (by rw [s.len, hl])]
  have hget : ∀ o, o < n → colAt (rowP r) o = some (r.getD o 0) := fun o ho => by
    rw [colAt_row, List.getD_eq_getElem?_getD, List.getElem?_eq_getElem (by omega)]
    rfl
  constructor
  · rintro ⟨⟨_, h2, h3⟩, he⟩
    refine ⟨⟨s.w, s.k1, s.k4, by unfold rowP; rw [List.length_map]; exact hl, fun v c hc => ?_, fun t ht c h4 h5 => ?_⟩, fun v hv hn => ?_, he⟩
    · have hv := colAt_some hc
      unfold rowP at hv
      rw [List.length_map, hl] at hv
      rw [hget v hv] at hc
      cases hc
      exact h2 v hv
    · obtain ⟨l1, l2⟩ := s.w.lt t ht
      rw [hget t.1 (by omega)] at h4
      rw [hget t.2 (by omega)] at h5
      exact h3 t ht l2 ((Option.some.inj h4).trans (Option.some.inj h5).symm)
    · unfold rowP at hv
      rw [List.length_map, hl] at hv
      rw [hget v hv] at hn
      cases hn
  · rintro ⟨s', _, he⟩
    refine ⟨⟨hl, fun o ho => s'.col o _ (hget o ho), fun t ht htv hEq => ?_⟩, he⟩
    have l1 := (s.w.lt t ht).1
    exact s'.apart t ht _ (hget t.1 (by omega)) (by rw [hget t.2 htv, hEq])
theorem rows_nodup {ts : List Tie} {k : Nat} : ∀ v, (rowsN ts k v).Nodup
  | 0 => by simp [rowsN]
  | v + 1 => by
    show ((rowsN ts k v).flatMap (extR ts k v)).Pairwise (· ≠ ·)
    rw [List.pairwise_flatMap]
    refine ⟨fun r _ => ?_, ?_⟩
    · unfold extR
      rw [List.pairwise_map]
      refine List.Pairwise.imp ?_ (List.Pairwise.filter _ (List.nodup_range (n := k)))
      intro a b hab h
      exact hab (by simpa using h)
    · refine List.Pairwise.imp ?_ (rows_nodup v)
      intro r r' hr x hx y hy hxy
      obtain ⟨c, _, _, rfl⟩ := mem_ext.mp hx
      obtain ⟨d, _, _, rfl⟩ := mem_ext.mp hy
      exact hr (List.append_inj' hxy rfl).1
theorem filter_one {α : Type} {P : α → Bool} {a : α} : ∀ {l : List α}, l.Nodup → a ∈ l → (∀ x ∈ l, P x = true ↔ x = a) → l.filter P = [a]
  | [], _, h, _ => by cases h
  | b :: l, hn, hm, hP => by
    obtain ⟨h1, h2⟩ := List.nodup_cons.mp hn
    by_cases e : b = a
    · subst e
      rw [List.filter_cons_of_pos ((hP b (List.mem_cons_self ..)).mpr rfl)]
      congr 1
      rw [List.filter_eq_nil_iff]
      intro x hx hp
      have := (hP x (List.mem_cons_of_mem _ hx)).mp hp
      exact h1 (this ▸ hx)
    · rw [List.filter_cons_of_neg (fun z => e ((hP b (List.mem_cons_self ..)).mp z))]
      exact filter_one h2 ((List.mem_cons.mp hm).resolve_left fun z => e z.symm) fun x hx => hP x (List.mem_cons_of_mem _ hx)
/-! what the law asks of fillings -/
end K85
namespace K85
open PySem PySem.Spec PyProof.Rows L2 PD
/-! ### data that compare -/
theorem lay_all : ∀ {xs : List PyData}, (∀ x ∈ xs, x.canLay0 = true) → PyData.canLayAll0 xs = true
  | [], _ => by simp [PyData.canLayAll0]
  | x :: xs, h => by
    simp only [PyData.canLayAll0, h x (List.mem_cons_self ..), Bool.true_and]
    exact lay_all fun y hy => h y (List.mem_cons_of_mem _ hy)
theorem depth_all {n : Nat} : ∀ {xs : List PyData}, (∀ x ∈ xs, x.depth ≤ n) → PyData.depthAll xs ≤ n
  | [], _ => by simp [PyData.depthAll]
  | x :: xs, h => by
    have h1 := h x (List.mem_cons_self ..)
    have h2 := depth_all fun y hy => h y (List.mem_cons_of_mem _ hy)
    simp only [PyData.depthAll]
    omega
/-- may be compared, so deep at most -/
def Sh (n : Nat) (d : PyData) : Prop := d.canLay0 = true ∧ d.depth ≤ n
theorem Sh.mono {m n : Nat} {d : PyData} (h : Sh m d) (hmn : m ≤ n) : Sh n d := ⟨h.1, Nat.le_trans h.2 hmn⟩
theorem Sh.ok {n : Nat} {d : PyData} (h : Sh n d) (hn : n ≤ 64 := by decide) : SeqAt.shaped d = true := by
  show (d.canLay0 && decide (d.depth ≤ 64)) = true
  rw [h.1, decide_eq_true (Nat.le_trans h.2 hn)]
  rfl
theorem sh_lst {n : Nat} {xs : List PyData} (h : ∀ x ∈ xs, Sh n x) : Sh (n + 1) (.list xs) := by
  have h1 := lay_all fun x hx => (h x hx).1
  have h2 := depth_all fun x hx => (h x hx).2
  refine ⟨by simpa only [PyData.canLay0] using h1, ?_⟩
  simp only [PyData.depth]
  omega
theorem sh_tup {n : Nat} {xs : List PyData} (h : ∀ x ∈ xs, Sh n x) : Sh (n + 1) (.tuple xs) := by
  have h1 := lay_all fun x hx => (h x hx).1
  have h2 := depth_all fun x hx => (h x hx).2
  refine ⟨by simpa only [PyData.canLay0] using h1, ?_⟩
  simp only [PyData.depth]
  omega
theorem sh_int {i : Int} : Sh 0 (.int i) := ⟨rfl, Nat.le_refl _⟩
theorem sh_non : Sh 0 .none := ⟨rfl, Nat.le_refl _⟩
theorem sh_str {z : Str} (h : PyData.strOk z = true) : Sh 0 (.str z) := ⟨by simpa only [PyData.canLay0] using h, Nat.le_refl _⟩
theorem sh_map {α : Type} {n : Nat} {f : α → PyData} {l : List α} (h : ∀ a, Sh n (f a)) : ∀ x ∈ l.map f, Sh n x := fun x hx => by
  obtain ⟨a, _, rfl⟩ := List.mem_map.mp hx
  exact h a
theorem sh_col (a : Option Nat) : Sh 0 (colD a) := by cases a <;> first | exact sh_non | exact sh_int
theorem sh_paint (p : Paint) : Sh 1 (paintD p) := sh_tup (sh_map sh_col)
theorem sh_row (r : List Nat) : Sh 1 (rowD r) := sh_tup (sh_map fun _ => sh_int)
theorem sh_tie (t : Tie) : Sh 1 (tieD t) := sh_tup fun x hx => by
  simp only [List.mem_cons, List.not_mem_nil, or_false] at hx
  rcases hx with rfl | rfl <;> exact sh_int
theorem sh_web (n : Nat) (ts : List Tie) : Sh 3 (webD n ts) := sh_tup fun x hx => by
  simp only [List.mem_cons, List.not_mem_nil, or_false] at hx
  rcases hx with rfl | rfl
  · exact sh_int.mono (by decide)
  · exact sh_tup (sh_map sh_tie)
theorem sh_sheet (n : Nat) (ts : List Tie) (k : Nat) (p : Paint) : Sh 4 (sheetD n ts k p) := sh_tup fun x hx => by
  simp only [List.mem_cons, List.not_mem_nil, or_false] at hx
  rcases hx with rfl | rfl | rfl
  · exact sh_web n ts
  · exact sh_int.mono (by decide)
  · exact (sh_paint p).mono (by decide)
mutual
theorem eqv_same : ∀ d : PyData, d.canLay0 = true → PyData.eqv d d = true
  | .none, _ => rfl
  | .bool b, _ => by cases b <;> rfl
  | .int i, _ => by show (i == i) = true; simp
  | .str z, _ => by show (z == z) = true; simp
  | .list xs, h => by
    have := eqv_sameA xs (by simpa only [PyData.canLay0] using h)
    simpa [PyData.eqv] using this
  | .tuple xs, h => by
    have := eqv_sameA xs (by simpa only [PyData.canLay0] using h)
    simpa [PyData.eqv] using this
  | .dict _, h => by simp [PyData.canLay0] at h
theorem eqv_sameA : ∀ xs : List PyData, PyData.canLayAll0 xs = true → PyData.eqvAll xs xs = true
  | [], _ => by simp [PyData.eqvAll]
  | x :: xs, h => by
    simp only [PyData.canLayAll0, Bool.and_eq_true] at h
    simp only [PyData.eqvAll, Bool.and_eq_true]
    exact ⟨eqv_same x h.1, eqv_sameA xs h.2⟩
end
theorem orF_eq {x y : PyData} (hx : SeqAt.shaped x = true) (hy : SeqAt.shaped y = true) (h0 : fEqS x y = none) : fEq x y = some (.bool (PyData.eqv x y)) := by
  unfold fEq orF
  rw [h0]
  unfold fEqD
  rw [hx, hy]
  rfl
theorem orF_ne {x y : PyData} (hx : SeqAt.shaped x = true) (hy : SeqAt.shaped y = true) (h0 : fNeS x y = none) : fNe x y = some (.bool (!PyData.eqv x y)) := by
  unfold fNe orF
  rw [h0]
  unfold fNeD
  rw [hx, hy]
  rfl
theorem ne_self {x : PyData} {n : Nat} (h : Sh n x) (hn : n ≤ 64 := by decide) (h0 : fNeS x x = none := by rfl) : fNe x x = some (.bool false) := by
  rw [orF_ne (h.ok hn) (h.ok hn) h0, eqv_same x h.1]
  rfl
theorem sh_nil : Sh 1 (.list []) := sh_lst fun x hx => by cases hx
theorem eq_nil {xs : List PyData} {n : Nat} (h : Sh n (.list xs)) (hn : n ≤ 64 := by decide) : fEq (.list xs) (.list []) = some (.bool xs.isEmpty) := by
  rw [orF_eq (h.ok hn) sh_nil.ok rfl]
  cases xs <;> rfl
theorem ne_nil {xs : List PyData} {n : Nat} (h : Sh n (.list xs)) (hn : n ≤ 64 := by decide) : fNe (.list xs) (.list []) = some (.bool !xs.isEmpty) := by
  rw [orF_ne (h.ok hn) sh_nil.ok rfl]
  cases xs <;> rfl
/-! ### the law's leading on -/
theorem stroked_ok {n : Nat} {ts : List Tie} {k : Nat} {p : Paint} {v c : Nat} (hv : v < p.length) (hp : p.length ≤ 10) (S : Store) : d__law_stroked [sheetD n ts k p, natD v, natD c] S = .ok (sheetD n ts k (p.set v (some c))) S := by
  have t1 : fSl (paintD p) none (some (v : Int)) = some (.tuple ((p.take v).map colD)) := by
    unfold paintD
    rw [slT, cutA_take, List.map_take]
  have t2 : fSl (paintD p) (some ((v : Int) + 1)) none = some (.tuple ((p.drop (v + 1)).map colD)) := by
    unfold paintD
    rw [slT, show ((v : Int) + 1) = ((v + 1 : Nat) : Int) by omega, cutA_drop, List.map_drop]
  have a1 := fAddT_ok (xs := (p.take v).map colD) (ys := [.int (c : Int)]) (by simp; omega)
  have a2 := fAddT_ok (xs := (p.take v).map colD ++ [.int (c : Int)]) (ys := (p.drop (v + 1)).map colD) (by simp; omega)
  have e : (p.take v).map colD ++ [.int (c : Int)] ++ (p.drop (v + 1)).map colD = (p.set v (some c)).map colD := by
    rw [List.set_eq_take_append_cons_drop, if_pos hv, List.map_append, List.map_cons, List.append_assoc]
    rfl
  rw [e] at a2
  have step : ∀ (A W K P Q T1 T2 : PyData) (vv : Int) (C : PyData), (Tg.tup [3, 4, 5]).bind A [some A, some (.int vv), some C, none, none, none] = some [some A, some (.int vv), some C, some W, some K, some P] → fSl P none (some vv) = some T1 → fSl P (some (vv + 1)) none = some T2 → ∀ T3, fAdd T1 (.tuple [C]) = some T3 → fAdd T3 T2 = some Q → d__law_stroked [A, .int vv, C] S = .ok (.tuple [W, K, Q]) S := by
    intro A W K P Q T1 T2 vv C hb t1 t2 T3 a1 a2
    unfold d__law_stroked dFn b__law_stroked env0
    simp [hb, t1, t2, a1, a2, sz_small, RS.fin]
  exact step _ _ _ _ _ _ _ (v : Int) _ rfl t1 t2 _ a1 a2
theorem free_near {n : Nat} {ts : List Tie} {k v : Nat} {p : Paint} {NL : List (List Nat)} (hn : NearOk n ts NL) (hv : v < n) : (List.range k).filter (fun c => !decide (some c ∈ (NL.getD v []).map (colAt p))) = freeC ts k p v := by
  unfold freeC
  apply List.filter_congr
  intro c _
  have h : decide (some c ∈ (NL.getD v []).map (colAt p)) = decide (some c ∈ usedC ts p v) := by
    rw [decide_eq_decide]
    unfold usedC
    rw [List.mem_map, List.mem_map]
    constructor
    · rintro ⟨o, h1, h2⟩; exact ⟨o, mem_tied.mpr ((hn.mem v hv o).mp h1), h2⟩
    · rintro ⟨o, h1, h2⟩; exact ⟨o, (hn.mem v hv o).mpr (mem_tied.mp h1), h2⟩
  rw [h]
end K85
namespace K85
open PySem PySem.Spec PyProof.Rows L2 PD
/-! ### fillings are the rows that agree, in the same order -/
def lexP (a b : Paint) : Prop := ∃ i c d, (∀ j, j < i → colAt a j = colAt b j) ∧ colAt a i = some c ∧ colAt b i = some d ∧ c < d
theorem lexP_asym {a b : Paint} (h : lexP a b) (h' : lexP b a) : False := by
  obtain ⟨i, c, d, e, h1, h2, h3⟩ := h
  obtain ⟨i', c', d', e', h1', h2', h3'⟩ := h'
  rcases Nat.lt_trichotomy i i' with q | q | q
  · have := e' i q
    rw [h1, h2] at this
    cases this
    omega
  · subst q
    rw [h1] at h2'
    rw [h2] at h1'
    cases h2'
    cases h1'
    omega
  · have := e i' q
    rw [h1', h2'] at this
    cases this
    omega
theorem sorted_eq {α : Type} {R : α → α → Prop} (as : ∀ a b, R a b → R b a → False) : ∀ {l m : List α}, l.Pairwise R → m.Pairwise R → (∀ x, x ∈ l ↔ x ∈ m) → l = m
  | [], [], _, _, _ => rfl
  | [], b :: m, _, _, h => absurd ((h b).mpr List.mem_cons_self) (by simp)
  | a :: l, [], _, _, h => absurd ((h a).mp List.mem_cons_self) (by simp)
  | a :: l, b :: m, h1, h2, h => by
    obtain ⟨h1a, g1⟩ := List.pairwise_cons.mp h1
    obtain ⟨h2a, g2⟩ := List.pairwise_cons.mp h2
    have e : a = b := by
      rcases List.mem_cons.mp ((h a).mp List.mem_cons_self) with e | q1
      · exact e
      · rcases List.mem_cons.mp ((h b).mpr List.mem_cons_self) with e | q2
        · exact e.symm
        · exact (as _ _ (h1a b q2) (h2a a q1)).elim
    subst e
    refine congrArg (a :: ·) (sorted_eq as g1 g2 fun x => ?_)
    have irr : ¬ R a a := fun q => as _ _ q q
    constructor
    · intro hx
      rcases List.mem_cons.mp ((h x).mp (List.mem_cons_of_mem _ hx)) with e | q
      · exact absurd (e ▸ h1a x hx) irr
      · exact q
    · intro hx
      rcases List.mem_cons.mp ((h x).mpr (List.mem_cons_of_mem _ hx)) with e | q
      · exact absurd (e ▸ h2a x hx) irr
      · exact q
theorem range_up (n : Nat) : (List.range n).Pairwise (· < ·) := List.pairwise_lt_range
theorem left_least {p : Paint} {v : Nat} {r : List Nat} (h : leftL p = v :: r) : ∀ j, j < v → colAt p j ≠ none := by
  intro j hj hn
  have hm : v ∈ leftL p := by rw [h]; exact List.mem_cons_self ..
  have hv := (left_mem.mp hm).1
  have hj' : j ∈ leftL p := left_mem.mpr ⟨by omega, hn⟩
  have up : (leftL p).Pairwise (· < ·) := (range_up _).filter _
  rw [h] at hj' up
  rcases List.mem_cons.mp hj' with e | q
  · omega
  · have := (List.pairwise_cons.mp up).1 j q
    omega
theorem allF_up {n : Nat} {ts : List Tie} {k : Nat} : ∀ (m : Nat) (p : Paint), bareN p = m → SheetOk n ts k p → (allF ts k p).Pairwise lexP
  | 0, p, hb, s => by
    have hl : leftL p = [] := List.length_eq_zero_iff.mp (by rw [left_len]; exact hb)
    rw [allF_nil hl]
    exact List.pairwise_singleton _ _
  | m + 1, p, hb, s => by
    cases hl : leftL p with
    | nil => rw [← left_len, hl] at hb; cases hb
    | cons v r =>
      have hm : v ∈ leftL p := by rw [hl]; exact List.mem_cons_self ..
      obtain ⟨h1, h2⟩ := left_mem.mp hm
      have hv : v < n := by rw [← s.len]; exact h1
      have hbc : ∀ c, bareN (p.set v (some c)) = m := fun c => by
        have := bare_set (c := c) h1 h2
        omega
      rw [allF_cons hl, List.pairwise_flatMap]
      have up : (freeC ts k p v).Pairwise (· < ·) := (range_up _).filter _
      refine ⟨fun c hc => allF_up m _ (hbc c) (s.paint hv hc), (List.pairwise_iff_forall_sublist.mpr fun {c d} hcd x hx y hy => ?_)⟩
      have hlt : c < d := List.pairwise_iff_forall_sublist.mp up hcd
      have hc : c ∈ freeC ts k p v := hcd.subset (by simp)
      have hd : d ∈ freeC ts k p v := hcd.subset (by simp)
      have sx := (mem_allF m _ (hbc c) (s.paint hv hc) x).mp hx
      have sy := (mem_allF m _ (hbc d) (s.paint hv hd) y).mp hy
      obtain ⟨sx, ex⟩ := (sol_set h1 h2).mp sx
      obtain ⟨sy, ey⟩ := (sol_set h1 h2).mp sy
      refine ⟨v, c, d, fun j hj => ?_, ex, ey, hlt⟩
      have hn := left_least hl j hj
      cases hp : colAt p j with
      | none => exact absurd hp hn
      | some e => rw [sx.2.2 j e hp, sy.2.2 j e hp]
theorem rows_up {ts : List Tie} {k : Nat} : ∀ v, (rowsN ts k v).Pairwise fun a b => lexP (rowP a) (rowP b)
  | 0 => by simp [rowsN]
  | v + 1 => by
    show ((rowsN ts k v).flatMap (extR ts k v)).Pairwise _
    rw [List.pairwise_flatMap]
    refine ⟨fun r hr => ?_, (List.pairwise_iff_forall_sublist.mpr fun {r r'} hrr x hx y hy => ?_)⟩
    · have hl := rows_member_len hr
      unfold extR
      rw [List.pairwise_map]
      refine List.Pairwise.imp ?_ ((range_up k).filter _)
      intro c d hcd
      refine ⟨v, c, d, fun j hj => ?_, ?_, ?_, hcd⟩
      · rw [colAt_row, colAt_row, List.getElem?_append_left (by omega), List.getElem?_append_left (by omega)]
      · rw [colAt_row, List.getElem?_append_right (by omega), hl]; simp
      · rw [colAt_row, List.getElem?_append_right (by omega), hl]; simp
    · obtain ⟨i, c, d, h1, h2, h3, h4⟩ := List.pairwise_iff_forall_sublist.mp (rows_up v) hrr
      obtain ⟨e, _, _, rfl⟩ := mem_ext.mp hx
      obtain ⟨f, _, _, rfl⟩ := mem_ext.mp hy
      have l1 := rows_member_len (hrr.subset (by simp : r ∈ [r, r']))
      have l2 := rows_member_len (hrr.subset (by simp : r' ∈ [r, r']))
      have hi : i < v := by
        have := colAt_some h2
        unfold rowP at this
        rw [List.length_map] at this
        omega
      have ea : ∀ j, j < v → colAt (rowP (r ++ [e])) j = colAt (rowP r) j := fun j hj => by
        rw [colAt_row, colAt_row, List.getElem?_append_left (by omega)]
      have eb : ∀ j, j < v → colAt (rowP (r' ++ [f])) j = colAt (rowP r') j := fun j hj => by
        rw [colAt_row, colAt_row, List.getElem?_append_left (by omega)]
      exact ⟨i, c, d, fun j hj => by rw [ea j (by omega), eb j (by omega)]; exact h1 j hj, by rw [ea i hi]; exact h2, by rw [eb i hi]; exact h3, h4⟩
theorem full_row {x : Paint} (h : Full x) : ∃ r : List Nat, x = rowP r := by
  refine ⟨x.map fun x => x.getD 0, ?_⟩
  unfold rowP
  rw [List.map_map]
  conv => lhs; rw [← List.map_id x]
  apply List.map_congr_left
  intro y hy
  cases y with
  | none =>
    obtain ⟨v, hv, e⟩ := colAt_mem hy
    exact absurd e (h v hv)
  | some c => rfl
theorem rowP_len (r : List Nat) : (rowP r).length = r.length := by unfold rowP; rw [List.length_map]
theorem allF_rows {n : Nat} {ts : List Tie} {k : Nat} {p : Paint} (s : SheetOk n ts k p) : allF ts k p = ((rowsN ts k n).filter (agreeB p)).map rowP := by
  refine sorted_eq (R := lexP) (fun a b => lexP_asym) (allF_up _ p rfl s) (List.pairwise_map.mpr ((rows_up n).filter _)) fun x => ?_
  rw [mem_allF _ p rfl s, List.mem_map]
  constructor
  · intro h
    obtain ⟨r, rfl⟩ := full_row h.2.1
    have hl : r.length = n := by rw [← rowP_len, h.1.len]
    have := (row_sol s hl).mpr h
    exact ⟨r, List.mem_filter.mpr this, rfl⟩
  · rintro ⟨r, hr, rfl⟩
    obtain ⟨h1, h2⟩ := List.mem_filter.mp hr
    exact (row_sol s (rows_member_len h1)).mp ⟨h1, h2⟩
/-! ### a full painting masked by a lot -/
theorem row_at {r : List Nat} {v : Nat} (hv : v < r.length) : colAt (rowP r) v = some (r.getD v 0) := by
  rw [colAt_row, List.getD_eq_getElem?_getD, List.getElem?_eq_getElem hv]
  rfl
end K85
namespace K85
open PySem PySem.Spec PyProof.Rows L2 PD
/-! ### drawn webs and sheets -/
def wbody : DS := (dSet 4 (d2 fAddL (dVar 4) (dComp (dRng2 (d2 fAdd (dVar 5) (dC (.int 1))) (dVar 2)) (.nm 6) (dTest (d2 fLt (dCall d__law_draw (dCons dSt (dCons (dC (.int 4)) (dNil)))) (dVar 3))) (dTup (dCons (dVar 5) (dCons (dVar 6) (dNil)))))))
theorem web_step {most nn sh j : Int} {ts zs ws : List PyData} {o6 : Option PyData} {S S' : Store} (c1 : cR (j + 1) = true) (c2 : cR nn = true) (c3 : sz (nn - (j + 1)).toNat = true)
    (h : compL (.nm 6) (dTest (d2 fLt (dCall d__law_draw (dCons dSt (dCons (dC (.int 4)) (dNil)))) (dVar 3))) (dTup (dCons (dVar 5) (dCons (dVar 6) (dNil)))) [some .none, some (.int most), some (.int nn), some (.int sh), some (.list ts), some (.int j), o6] [] (rngD (j + 1) (nn - (j + 1)).toNat) S = .ok (.list zs) S') (ha : fAddL (.list ts) (.list zs) = some (.list ws)) :
    wbody [some .none, some (.int most), some (.int nn), some (.int sh), some (.list ts), some (.int j), o6] S = .nx [some .none, some (.int most), some (.int nn), some (.int sh), some (.list ws), some (.int j), o6] S' := by
  unfold wbody
  simp [c1, c2, c3, h, ha]
theorem web_ok {S : Store} (h : TapeOk S) : ∃ n ts S', d__law_web [.none, .int 6] S = .ok (webD n ts) S' ∧ TapeOk S' ∧ WebOk n ts := by
  obtain ⟨r, S1, e1, ht1, r0, r1⟩ := draw_ok (n := 6) h (by decide) (by decide)
  obtain ⟨m, rfl⟩ : ∃ m : Nat, r = m := ⟨r.toNat, by omega⟩
  obtain ⟨sh, S2, e2, ht2, s0, s1⟩ := draw_ok (n := 3) ht1 (by decide) (by decide)
  have hn1 : (1 : Int) + (m : Int) = ((1 + m : Nat) : Int) := by omega
  obtain ⟨ρ', S', q, ht', ts, o5, o6, rfl, h1, h2, h3⟩ := for_n (t := .nm 5) (body := wbody) (I := fun j ρ S => TapeOk S ∧ ∃ (ts : List Tie) (o5 o6 : Option PyData), ρ = [some .none, some (.int 6), some (.int ((1 + m : Nat) : Int)), some (.int (1 + sh)), some (.list (ts.map tieD)), o5, o6] ∧ ts.length ≤ 6 * j ∧ (∀ p ∈ ts, p.1 < j ∧ p.1 < p.2 ∧ p.2 < 1 + m) ∧ ts.Pairwise tieLt)
    (ds := rngD 0 ((1 + m : Nat) : Int).toNat) (k := 0) (ρ := [some .none, some (.int 6), some (.int ((1 + m : Nat) : Int)), some (.int (1 + sh)), some (.list []), none, none]) (S := S2) ⟨ht2, [], none, none, rfl, by simp, fun p hp => (by cases hp), .nil⟩ (by
    rintro j d hd ρ S ⟨hS, ts, o5, o6, rfl, hl, hts, hup⟩
    obtain ⟨rfl, hj⟩ := rngD_get hd
    rw [Int.toNat_natCast] at hj
    rw [Nat.zero_add] at *
    have ej : (0 : Int) + (j : Int) = (j : Int) := by omega
    rw [ej]
    obtain ⟨ys, S', q1, q2, q3⟩ := comp_sub (t := .nm 6) (tt := (dTest (d2 fLt (dCall d__law_draw (dCons dSt (dCons (dC (.int 4)) (dNil)))) (dVar 3)))) (de := (dTup (dCons (dVar 5) (dCons (dVar 6) (dNil)))))
      (ρ := [some .none, some (.int 6), some (.int ((1 + m : Nat) : Int)), some (.int (1 + sh)), some (.list (ts.map tieD)), some (natD j), o6]) (I := TapeOk) (f := fun d => .tuple [natD j, d]) (ds := rngD ((j : Int) + 1) (((1 + m : Nat) : Int) - ((j : Int) + 1)).toNat) (acc := []) hS (fun d hd S hS => by
        obtain ⟨x, S3, f1, f2, f3, f4⟩ := draw_ok (n := 4) hS (by decide) (by decide)
        refine ⟨_, rfl, decide (x < 1 + sh), S3, ?_, f2, fun _ => ?_⟩
        · simp [f1, fLtI]
        · simp [sz_small])
    rw [List.nil_append] at q1
    unfold rngD at q3
    obtain ⟨is, hsub, rfl⟩ := List.sublist_map_iff.mp q3
    have hil : is.length ≤ 6 := by
      have := hsub.length_le
      rw [List.length_range] at this
      omega
    have hmem : ∀ i ∈ is, i < m - j := fun i hi => by
      have := List.mem_range.mp (hsub.subset hi)
      omega
    have ezs : (is.map fun i : Nat => PyData.int ((j : Int) + 1 + (i : Int))).map (fun d => PyData.tuple [natD j, d]) = (is.map fun i => ((j, j + 1 + i) : Tie)).map tieD := by
      rw [List.map_map, List.map_map]
      apply List.map_congr_left
      intro i _
      show PyData.tuple [natD j, PyData.int ((j : Int) + 1 + (i : Int))] = PyData.tuple [natD j, PyData.int ((j + 1 + i : Nat) : Int)]
      rw [show ((j : Int) + 1 + (i : Int)) = ((j + 1 + i : Nat) : Int) by omega]
    rw [ezs] at q1
    have ha := fAddL_ok (xs := ts.map tieD) (ys := (is.map fun i => ((j, j + 1 + i) : Tie)).map tieD) (by simp; omega)
    rw [← List.map_append] at ha
    have hstep := web_step (most := 6) (nn := ((1 + m : Nat) : Int)) (sh := 1 + sh) (j := (j : Int)) (o6 := o6) (cR_small (by omega) (by omega)) (cR_small (by omega) (by omega)) (sz_small (by omega)) q1 ha
    refine ⟨_, rfl, _, S', hstep, q2, _, some (natD j), o6, rfl, ?_, fun p hp => ?_, ?_⟩
    · rw [List.length_append, List.length_map]
      omega
    · rcases List.mem_append.mp hp with hp | hp
      · have := hts p hp
        omega
      · obtain ⟨i, hi, rfl⟩ := List.mem_map.mp hp
        have := hmem i hi
        dsimp only
        omega
    · rw [List.pairwise_append]
      refine ⟨hup, ?_, fun a ha b hb => ?_⟩
      · rw [List.pairwise_map]
        refine List.Pairwise.imp ?_ (List.Pairwise.sublist hsub List.pairwise_lt_range)
        intro a b hab
        exact .inr ⟨rfl, by dsimp only; omega⟩
      · obtain ⟨i, _, rfl⟩ := List.mem_map.mp hb
        exact .inl (hts a ha).1)
  have e3 : d__law_draw [.none, .int 6] S = .ok (.int (m : Int)) S1 := e1
  refine ⟨1 + m, ts, S', ?_, ht', ⟨by omega, by omega, ?_, fun p hp => (h2 p hp).2, h3⟩⟩
  · have step : ∀ (nn : Int) (ts : List PyData) (ρ' : PD.Env), (1 : Int) + (m : Int) = nn → cR nn = true → sz nn.toNat = true → forL (.nm 5) wbody (rngD 0 nn.toNat) [some .none, some (.int 6), some (.int nn), some (.int (1 + sh)), some (.list []), none, none] S2 = .nx [some .none, some (.int 6), some (.int nn), some (.int (1 + sh)), some (.list ts), o5, o6] S' →
        d__law_web [.none, .int 6] S = .ok (.tuple [.int nn, .tuple ts]) S' := by
      intro nn ts _ hnn c1 c2 q
      unfold d__law_web dFn b__law_web env0
      unfold wbody at q
      simp [e3, e2, setAll, hnn, c1, c2, q, sz_small, RS.fin]
    exact step _ _ [] hn1 (cR_small (by omega) (by omega)) (sz_small (by omega)) q
  · rw [rngD_len, Int.toNat_natCast] at h1
    omega
def hbody : DS := (dSeq (dSet 7 (dComp (dIt seqD (d2 fIx (dVar 4) (dVar 6))) (.nm 9) (dTest (d2 fLt (dVar 9) (dVar 6))) (d2 fIx (dVar 5) (dVar 9)))) (dSeq (dSet 8 (dComp (dRng1 (dVar 3)) (.nm 10) (dTest (d2 (fIn true) (dVar 10) (dVar 7))) (dVar 10))) (dApp 5 (dIfE (dAnd (dTest (d2 fNe (dVar 8) (dLst (dNil)))) (dTest (d2 fEq (dCall d__law_draw (dCons dSt (dCons (dC (.int 3)) (dNil)))) (dC (.int 0))))) (dCall d__law_any (dCons dSt (dCons (dVar 8) (dNil)))) (dC .none)))))
theorem sheet_step {M W N V L C : PyData} {kk : Int} {ps ls us fs : List PyData} {Z : PyData} {o7 o8 : Option PyData} {S S' : Store} (hN : fIx N V = some L) (hs : seqD L = some ls) (c1 : cR kk = true) (c2 : sz kk.toNat = true)
    (h7 : compL (.nm 9) (dTest (d2 fLt (dVar 9) (dVar 6))) (d2 fIx (dVar 5) (dVar 9)) [some .none, some M, some W, some (.int kk), some N, some (.list ps), some V, o7, o8, none, none] [] ls S = .ok (.list us) S)
    (h8 : compL (.nm 10) (dTest (d2 (fIn true) (dVar 10) (dVar 7))) (dVar 10) [some .none, some M, some W, some (.int kk), some N, some (.list ps), some V, some (.list us), o8, none, none] [] (rngD 0 kk.toNat) S = .ok (.list fs) S)
    (hC : (dIfE (dAnd (dTest (d2 fNe (dVar 8) (dLst (dNil)))) (dTest (d2 fEq (dCall d__law_draw (dCons dSt (dCons (dC (.int 3)) (dNil)))) (dC (.int 0))))) (dCall d__law_any (dCons dSt (dCons (dVar 8) (dNil)))) (dC .none)) [some .none, some M, some W, some (.int kk), some N, some (.list ps), some V, some (.list us), some (.list fs), none, none] S = .ok C S') (ha : fApp ps C = some Z) :
    hbody [some .none, some M, some W, some (.int kk), some N, some (.list ps), some V, o7, o8, none, none] S = .nx [some .none, some M, some W, some (.int kk), some N, some Z, some V, some (.list us), some (.list fs), none, none] S' := by
  unfold hbody
  simp only [ap_ife, ap_and, ap_test, ap_d2, ap_var, ap_lst, ap_nil, ap_call, ap_cons, ap_st, ap_c, List.getD_cons_succ, List.getD_cons_zero, ofO_some, R.bind_ok] at hC
  simp [hN, hs, c1, c2, h7, h8, onLst, putO]
  simp at hC
  simp [hC, ha]
structure PreOk (n : Nat) (ts : List Tie) (k : Nat) (p : Paint) : Prop where
  col : ∀ v c, colAt p v = some c → c < k
  apart : ∀ t ∈ ts, ∀ c, colAt p t.1 = some c → colAt p t.2 ≠ some c
theorem pre_nil {n : Nat} {ts : List Tie} {k : Nat} : PreOk n ts k [] := by
  have h : ∀ v, colAt [] v = none := fun v => rfl
  exact ⟨fun v c hc => by (rw [h] at hc; cases hc), fun t _ c hc => by (rw [h] at hc; cases hc)⟩
theorem colAt_app {p : Paint} {x : Option Nat} {o : Nat} : colAt (p ++ [x]) o = if o < p.length then colAt p o else if o = p.length then x else none := by
  unfold colAt
  rw [List.getD_eq_getElem?_getD, List.getD_eq_getElem?_getD]
  by_cases h : o < p.length
  · rw [if_pos h, List.getElem?_append_left h]
  · rw [if_neg h, List.getElem?_append_right (by omega)]
    by_cases h2 : o = p.length
    · rw [if_pos h2, h2]; simp
    · rw [if_neg h2, List.getElem?_eq_none (by simp; omega)]; rfl
theorem colAt_out {p : Paint} {o : Nat} (h : ¬ o < p.length) : colAt p o = none := by
  unfold colAt
  rw [List.getD_eq_getElem?_getD, List.getElem?_eq_none (by omega)]
  rfl
theorem sheet_turn {n : Nat} {ts : List Tie} {k j : Nat} {p : Paint} {NL : List (List Nat)} (w : WebOk n ts) (hN : NearOk n ts NL) (hk : k ≤ 4) (hj : j < n) (hl : p.length = j) (hp : PreOk n ts k p) (o7 o8 : Option PyData) {S : Store} (hS : TapeOk S) :
    ∃ x p7 p8 S', hbody [some .none, some (.int 6), some (webD n ts), some (natD k), some (.list (NL.map lD)), some (.list (p.map colD)), some (natD j), o7, o8, none, none] S = .nx [some .none, some (.int 6), some (webD n ts), some (natD k), some (.list (NL.map lD)), some (.list ((p ++ [x]).map colD)), some (natD j), p7, p8, none, none] S' ∧ TapeOk S' ∧ PreOk n ts k (p ++ [x]) := by
  have hn := w.hi
  have hNx : fIx (.list (NL.map lD)) (natD j) = some (lD (NL.getD j [])) := ix_nat (by
    rw [List.getElem?_map, List.getD_eq_getElem?_getD, List.getElem?_eq_getElem (by rw [hN.len]; exact hj)]
    rfl)
  have c1 : cR (k : Int) = true := cR_small (by omega) (by omega)
  have c2 : sz (k : Int).toNat = true := sz_small (by omega)
  have hrg : rngD 0 (k : Int).toNat = (List.range k).map natD := by rw [Int.toNat_natCast, rngD0]
  have h7 := comp_t (t := .nm 9) (tt := (dTest (d2 fLt (dVar 9) (dVar 6)))) (de := (d2 fIx (dVar 5) (dVar 9))) (ρ := [some .none, some (.int 6), some (webD n ts), some (natD k), some (.list (NL.map lD)), some (.list (p.map colD)), some (natD j), o7, o8, none, none]) (S := S) (e := natD) (g := colD) (p := fun o => decide (o < j)) (f := colAt p) (xs := NL.getD j []) (acc := []) (fun o _ => by
    refine ⟨_, rfl, by simp [fLtI], fun h => ?_⟩
    have ho : o < p.length := by have := of_decide_eq_true h; omega
    have e : fIx (.list (p.map colD)) (.int (o : Int)) = some (colD (colAt p o)) := ix_nat (paint_get ho)
    generalize p.map colD = ps at *
    simp [e])
  rw [List.nil_append] at h7
  have h8 := comp_t (t := .nm 10) (tt := (dTest (d2 (fIn true) (dVar 10) (dVar 7)))) (de := (dVar 10)) (ρ := [some .none, some (.int 6), some (webD n ts), some (natD k), some (.list (NL.map lD)), some (.list (p.map colD)), some (natD j), some (.list ((((NL.getD j []).filter fun o => decide (o < j)).map (colAt p)).map colD)), o8, none, none]) (S := S) (e := natD) (g := natD) (p := fun c => !decide (some c ∈ ((NL.getD j []).filter fun o => decide (o < j)).map (colAt p))) (f := fun c => c) (xs := List.range k) (acc := []) (fun c _ =>
    ⟨_, rfl, tst2 rfl rfl (in_cols c (((NL.getD j []).filter fun o => decide (o < j)).map (colAt p))), fun _ => by simp⟩)
  rw [List.nil_append, List.map_id', ← hrg] at h8
  have none_ok : PreOk n ts k (p ++ [none]) := by
    refine ⟨fun v c hc => ?_, fun t ht c h1 h2 => ?_⟩
    · rw [colAt_app] at hc
      split at hc
      · exact hp.col v c hc
      · split at hc <;> cases hc
    · rw [colAt_app] at h1 h2
      split at h1
      · split at h2
        · exact hp.apart t ht c h1 h2
        · split at h2 <;> cases h2
      · split at h1 <;> cases h1
  have some_ok : ∀ c, c < k → some c ∉ ((NL.getD j []).filter fun o => decide (o < j)).map (colAt p) → PreOk n ts k (p ++ [some c]) := by
    intro c hck hcu
    have hfree : ∀ o, o < j → ((j, o) ∈ ts ∨ (o, j) ∈ ts) → colAt p o ≠ some c := fun o ho ha he => hcu (by
      rw [List.mem_map]
      exact ⟨o, List.mem_filter.mpr ⟨(hN.mem j hj o).mpr ha, decide_eq_true ho⟩, he⟩)
    refine ⟨fun v d hd => ?_, fun t ht d h1 h2 => ?_⟩
    · rw [colAt_app] at hd
      split at hd
      · exact hp.col v d hd
      · split at hd
        · cases hd; exact hck
        · cases hd
    · have hlt := (w.lt t ht).1
      rw [colAt_app] at h1 h2
      rw [hl] at h1 h2
      by_cases e2 : t.2 < j
      · rw [if_pos e2] at h2
        rw [if_pos (by omega)] at h1
        exact hp.apart t ht d h1 h2
      · rw [if_neg e2] at h2
        by_cases e3 : t.2 = j
        · rw [if_pos e3] at h2
          cases h2
          rw [if_pos (by omega)] at h1
          exact hfree t.1 (by omega) (.inr (by rw [← e3]; exact ht)) h1
        · rw [if_neg e3] at h2; cases h2
  have hfl : ((List.range k).filter fun c => !decide (some c ∈ ((NL.getD j []).filter fun o => decide (o < j)).map (colAt p))).length ≤ k := by
    have := List.length_filter_le (fun c => !decide (some c ∈ ((NL.getD j []).filter fun o => decide (o < j)).map (colAt p))) (List.range k)
    rw [List.length_range] at this
    exact this
  have hfm : ∀ c ∈ (List.range k).filter (fun c => !decide (some c ∈ ((NL.getD j []).filter fun o => decide (o < j)).map (colAt p))), PreOk n ts k (p ++ [some c]) := fun c hc => by
    rw [List.mem_filter, List.mem_range] at hc
    exact some_ok c hc.1 (by simpa using hc.2)
  generalize (List.range k).filter (fun c => !decide (some c ∈ ((NL.getD j []).filter fun o => decide (o < j)).map (colAt p))) = fs at *
  have hne := ne_nil (xs := fs.map natD) (sh_lst (sh_map fun _ => sh_int))
  have hC : ∃ x S', (dIfE (dAnd (dTest (d2 fNe (dVar 8) (dLst (dNil)))) (dTest (d2 fEq (dCall d__law_draw (dCons dSt (dCons (dC (.int 3)) (dNil)))) (dC (.int 0))))) (dCall d__law_any (dCons dSt (dCons (dVar 8) (dNil)))) (dC .none)) [some .none, some (.int 6), some (webD n ts), some (natD k), some (.list (NL.map lD)), some (.list (p.map colD)), some (natD j), some (.list ((((NL.getD j []).filter fun o => decide (o < j)).map (colAt p)).map colD)), some (.list (fs.map natD)), none, none] S = .ok (colD x) S' ∧ TapeOk S' ∧ PreOk n ts k (p ++ [x]) := by
    generalize (((NL.getD j []).filter fun o => decide (o < j)).map (colAt p)).map colD = us
    generalize p.map colD = ps
    cases fs with
    | nil =>
      have hne : fNe (.list []) (.list []) = some (.bool false) := hne
      exact ⟨none, S, by simp [hne, sz_small]; rfl, hS, none_ok⟩
    | cons f r =>
      have hne : fNe (.list ((f :: r).map natD)) (.list []) = some (.bool true) := hne
      obtain ⟨d, S1, e1, hS1, _, _⟩ := draw_ok (n := 3) hS (by decide) (by decide)
      by_cases hd : d = 0
      · obtain ⟨x, S2, e2, hS2, hx⟩ := any_ok (xs := (f :: r).map natD) hS1 (by simp) (by rw [List.length_map]; omega)
        obtain ⟨c, hc, rfl⟩ := List.mem_map.mp hx
        generalize (f :: r).map natD = gs at *
        exact ⟨some c, S2, by simp [hne, sz_small, e1, hd, e2]; rfl, hS2, hfm c hc⟩
      · generalize (f :: r).map natD = gs at *
        exact ⟨none, S1, by simp [hne, sz_small, e1, hd]; rfl, hS1, none_ok⟩
  obtain ⟨x, S', e, hS', hpx⟩ := hC
  have ha := fApp_ok (xs := p.map colD) (d := colD x) (by rw [List.length_map]; omega)
  have em : p.map colD ++ [colD x] = (p ++ [x]).map colD := by rw [List.map_append]; rfl
  rw [em] at ha
  exact ⟨x, _, _, S', sheet_step hNx rfl c1 c2 h7 h8 e ha, hS', hpx⟩
theorem sheet_ok {S : Store} (hS : TapeOk S) : ∃ n ts k p S', d__law_sheet [.none, .int 6] S = .ok (sheetD n ts k p) S' ∧ TapeOk S' ∧ SheetOk n ts k p := by
  obtain ⟨n, ts, S1, e1, hS1, w⟩ := web_ok hS
  obtain ⟨r, S2, e2, hS2, r0, r1⟩ := draw_ok (n := 3) hS1 (by decide) (by decide)
  obtain ⟨m, rfl⟩ : ∃ m : Nat, r = m := ⟨r.toNat, by omega⟩
  obtain ⟨NL, hN, e3⟩ := near_ok w S2
  have hn := w.hi
  obtain ⟨ρ', S', q, hS', p, o6, o7, o8, rfl, hl, hp⟩ := for_n (t := .nm 6) (body := hbody) (I := fun j ρ S => TapeOk S ∧ ∃ (p : Paint) (o6 o7 o8 : Option PyData), ρ = [some .none, some (.int 6), some (webD n ts), some (natD (1 + m)), some (.list (NL.map lD)), some (.list (p.map colD)), o6, o7, o8, none, none] ∧ p.length = j ∧ PreOk n ts (1 + m) p)
    (ds := rngD 0 (n : Int).toNat) (k := 0) (ρ := [some .none, some (.int 6), some (webD n ts), some (natD (1 + m)), some (.list (NL.map lD)), some (.list []), none, none, none, none, none]) (S := S2) ⟨hS2, [], none, none, none, rfl, rfl, pre_nil⟩ (by
    rintro j d hd ρ S ⟨hS, p, o6, o7, o8, rfl, hl, hp⟩
    obtain ⟨rfl, hj⟩ := rngD_get hd
    rw [Int.toNat_natCast] at hj
    rw [Nat.zero_add] at *
    obtain ⟨x, p7, p8, S', h1, h2, h3⟩ := sheet_turn w hN (by omega) hj hl hp o7 o8 hS
    refine ⟨_, rfl, _, S', ?_, h2, p ++ [x], some (natD j), p7, p8, rfl, by rw [List.length_append, hl]; rfl, h3⟩
    rw [show (0 : Int) + (j : Int) = (j : Int) by omega]
    exact h1)
  rw [rngD_len, Int.toNat_natCast, Nat.zero_add] at hl
  refine ⟨n, ts, 1 + m, p, S', ?_, hS', ⟨w, by omega, by omega, hl, hp.col, hp.apart⟩⟩
  have hk : (1 : Int) + (m : Int) = ((1 + m : Nat) : Int) := by omega
  have i0 : fIx (webD n ts) (.int 0) = some (.int (n : Int)) := ixT_0
  have step : ∀ (W NS : PyData) (nn kk : Int) (ps : List PyData), d__law_web [.none, .int 6] S = .ok W S1 → d__law_near [W] S2 = .ok NS S2 → fIx W (.int 0) = some (.int nn) → (1 : Int) + (m : Int) = kk → cR nn = true → sz nn.toNat = true → forL (.nm 6) hbody (rngD 0 nn.toNat) [some .none, some (.int 6), some W, some (.int kk), some NS, some (.list []), none, none, none, none, none] S2 = .nx [some .none, some (.int 6), some W, some (.int kk), some NS, some (.list ps), o6, o7, o8, none, none] S' →
      d__law_sheet [.none, .int 6] S = .ok (.tuple [W, .int kk, .tuple ps]) S' := by
    intro W NS nn kk ps e1 e3 i0 hk c1 c2 q
    unfold d__law_sheet dFn b__law_sheet env0
    unfold hbody at q
    simp [e1, e2, hk, e3, setAll, i0, c1, c2, q, sz_small, RS.fin]
  exact step _ _ (n : Int) _ _ e1 e3 i0 hk (cR_small (by omega) (by omega)) (sz_small (by omega)) q
end K85
namespace K85
open PySem PySem.Spec PyProof.Rows L2 PD
/-! ### the colours at a place -/
theorem gs_eq {ρ : PD.Env} {i : Nat} {x : Option PyData} (h : i < ρ.length) : (ρ.set i x).getD i none = x := by
  rw [List.getD_eq_getElem?_getD, List.getElem?_set_self h]
  rfl
theorem gs_ne {ρ : PD.Env} {i k : Nat} {x : Option PyData} (h : i ≠ k) : (ρ.set i x).getD k none = ρ.getD k none := by
  rw [List.getD_eq_getElem?_getD, List.getElem?_set_ne h, ← List.getD_eq_getElem?_getD]
def addN (acc : List Nat) (c : Nat) : List Nat := if c ∈ acc then acc else acc ++ [c]
def keysN (cs : List Nat) : List Nat := cs.foldl addN []
def dk (c : Nat) : PyData × PyData := (natD c, .bool true)
def colsL (R : List (List Nat)) (v : Nat) : List Nat := sortN (keysN (R.map fun r => r.getD v 0))
theorem pairs_ok : ∀ cs : List Nat, PD.pairsOf (cs.map fun c => .tuple [natD c, .bool true]) = some (cs.map fun (c : Nat) => ((Sum.inl (c : Int) : Key), PyData.bool true))
  | [] => rfl
  | c :: cs => by
    rw [List.map_cons, List.map_cons]
    show (some (Sum.inl (c : Int) : Key)).bind _ = _
    rw [Option.bind_some, pairs_ok cs]
    rfl
theorem same_dk (c a : Nat) : sameK (.inl (c : Int)) (dk a).1 = decide (a = c) := by
  show sameK (.inl (c : Int)) (keyD (.inl (a : Int))) = _
  rw [sameK_D, decide_eq_decide]
  constructor
  · intro h
    have := Sum.inl.inj h
    omega
  · intro h
    rw [h]
theorem put_dk (acc : List Nat) (c : Nat) : putD (acc.map dk) (.inl (c : Int)) (.bool true) = (addN acc c).map dk := by
  unfold putD addN
  have e : ((acc.map dk).any fun p => sameK (.inl (c : Int)) p.1) = decide (c ∈ acc) := by
    rw [List.any_map, Bool.eq_iff_iff, List.any_eq_true, decide_eq_true_eq]
    constructor
    · rintro ⟨a, ha, h⟩
      rw [Function.comp, same_dk, decide_eq_true_eq] at h
      rwa [← h]
    · intro h
      exact ⟨c, h, by rw [Function.comp, same_dk]; simp⟩
  rw [e]
  by_cases h : c ∈ acc
  · rw [if_pos (decide_eq_true h), if_pos h, List.map_map]
    apply List.map_congr_left
    intro a _
    rw [Function.comp]
    split <;> rfl
  · rw [if_neg (by simpa using h), if_neg h, List.map_append]
    rfl
theorem merge_dk : ∀ (cs acc : List Nat), (cs.map fun (c : Nat) => ((Sum.inl (c : Int) : Key), PyData.bool true)).foldl (fun acc kv => putD acc kv.1 kv.2) (acc.map dk) = (cs.foldl addN acc).map dk
  | [], acc => rfl
  | c :: cs, acc => by
    rw [List.map_cons, List.foldl_cons, List.foldl_cons, put_dk]
    exact merge_dk cs (addN acc c)
theorem dict_ok (cs : List Nat) : fDict (.list (cs.map fun c => .tuple [natD c, .bool true])) = some (.dict ((keysN cs).map dk)) := by
  show (PD.pairsOf _).map _ = _
  rw [pairs_ok]
  show some (PyData.dict (mergeD _)) = _
  unfold mergeD
  rw [show ([] : List (PyData × PyData)) = ([] : List Nat).map dk from rfl, merge_dk]
  rfl
theorem sortI_nat (l : List Nat) : PyData.list ((sortI (l.map fun i : Nat => (i : Int))).map .int) = lD (sortN l) := by
  have h : fSortI (lD l) = some (.list ((sortI (l.map fun i : Nat => (i : Int))).map .int)) := by
    show (intsOf (l.map natD)).map _ = _
    rw [intsOf_nat]
    rfl
  exact Option.some.inj ((fSort_I h).symm.trans (sort_ok l))
theorem sortD_ok {ks : List Nat} (h : ks.length < 64) : fSortX (.dict (ks.map dk)) = some (lD (sortN ks)) := by
  show fSortDI (.dict (ks.map dk)) = _
  show (intK (ks.map dk)).bind _ = _
  have e : intK (ks.map dk) = some (ks.map fun i : Nat => (i : Int)) := by
    unfold intK
    rw [List.map_map]
    exact intsOf_nat ks
  rw [e, Option.bind_some, if_pos (by rw [List.length_map]; exact decide_eq_true h), sortI_nat]
/-! what they are -/
theorem add_nodup {acc : List Nat} {c : Nat} (h : acc.Nodup) : (addN acc c).Nodup := by
  unfold addN
  split
  · exact h
  · rename_i hc
    refine List.nodup_append.mpr ⟨h, by simp, fun a ha b hb e => ?_⟩
    rw [List.mem_singleton.mp hb] at e
    exact hc (e ▸ ha)
theorem add_mem {acc : List Nat} {c x : Nat} : x ∈ addN acc c ↔ x ∈ acc ∨ x = c := by
  unfold addN
  split
  · rename_i hc
    constructor
    · exact .inl
    · rintro (h | rfl)
      · exact h
      · exact hc
  · rw [List.mem_append, List.mem_singleton]
theorem fold_add : ∀ (cs acc : List Nat), acc.Nodup → (cs.foldl addN acc).Nodup ∧ ∀ x, x ∈ cs.foldl addN acc ↔ x ∈ acc ∨ x ∈ cs
  | [], acc, h => ⟨h, fun x => by simp⟩
  | c :: cs, acc, h => by
    obtain ⟨h1, h2⟩ := fold_add cs (addN acc c) (add_nodup h)
    refine ⟨h1, fun x => ?_⟩
    rw [List.foldl_cons, h2 x, add_mem, List.mem_cons]
    constructor
    · rintro ((h | h) | h)
      · exact .inl h
      · exact .inr (.inl h)
      · exact .inr (.inr h)
    · rintro (h | h | h)
      · exact .inl (.inl h)
      · exact .inl (.inr h)
      · exact .inr h
theorem cols_mem {R : List (List Nat)} {v c : Nat} : c ∈ colsL R v ↔ ∃ r ∈ R, r.getD v 0 = c := by
  unfold colsL keysN
  rw [sortN_mem, (fold_add _ [] List.nodup_nil).2]
  simp
theorem cols_up (R : List (List Nat)) (v : Nat) : (colsL R v).Pairwise (· < ·) := by
  have h1 : (colsL R v).Pairwise (· ≤ ·) := by
    have h := List.pairwise_mergeSort (le := fun a b : Nat => decide (a ≤ b)) (fun a b c h1 h2 => by simp only [decide_eq_true_eq] at *; omega) (fun a b => by simp only [Bool.or_eq_true, decide_eq_true_eq]; omega) (keysN (R.map fun r => r.getD v 0))
    exact h.imp fun h => of_decide_eq_true h
  have h2 : (colsL R v).Nodup := (List.mergeSort_perm ..).nodup_iff.mpr (fold_add _ [] List.nodup_nil).1
  exact (h1.and h2).imp fun {a b} h => by have := h.1; have := h.2; omega
theorem up_len : ∀ {l : List Nat} {lo k : Nat}, l.Pairwise (· < ·) → (∀ x ∈ l, lo ≤ x ∧ x < k) → l.length ≤ k - lo
  | [], _, _, _, _ => Nat.zero_le _
  | a :: l, lo, k, h, hb => by
    obtain ⟨h1, h2⟩ := List.pairwise_cons.mp h
    have := up_len (lo := a + 1) h2 fun x hx => ⟨h1 x hx, (hb x (List.mem_cons_of_mem _ hx)).2⟩
    have hb := hb a List.mem_cons_self
    rw [List.length_cons]
    omega
theorem sortN_len (l : List Nat) : (sortN l).length = l.length := (List.mergeSort_perm ..).length_eq
theorem keys_len {R : List (List Nat)} {v k : Nat} (h : ∀ r ∈ R, r.getD v 0 < k) : (colsL R v).length ≤ k := by
  have := up_len (lo := 0) (cols_up R v) fun x hx => by
    obtain ⟨r, hr, e⟩ := cols_mem.mp hx
    exact ⟨Nat.zero_le _, by rw [← e]; exact h r hr⟩
  omega
/-! by the program -/
def pairD (c : Nat) : PyData := .tuple [natD c, .bool true]
theorem told_comp {i j n v : Nat} {ρ : PD.Env} {R : List (List Nat)} {S : Store} (hi : i < ρ.length) (hj : ρ.getD j none = some (natD v)) (hij : i ≠ j) (hR : ∀ r ∈ R, v < r.length) :
    compL (.nm i) dYes (dTup (dCons (d2 fIx (dVar i) (dVar j)) (dCons (dC (.bool true)) (dNil)))) ρ [] (R.map rowD) S = .ok (.list ((R.map fun r => r.getD v 0).map fun c => .tuple [natD c, .bool true])) S := by
  have h := comp_y (t := .nm i) (de := (dTup (dCons (d2 fIx (dVar i) (dVar j)) (dCons (dC (.bool true)) (dNil))))) (ρ := ρ) (S := S) (e := rowD) (g := fun c => .tuple [natD c, .bool true]) (f := fun r => r.getD v 0) (xs := R) (acc := []) fun r hr => ⟨_, rfl, by
    have h1 : (ρ.set i (some (rowD r))).getD i none = some (rowD r) := gs_eq hi
    have h2 : (ρ.set i (some (rowD r))).getD j none = some (natD v) := by rw [gs_ne hij, hj]
    have h3 : fIx (rowD r) (natD v) = some (natD (r.getD v 0)) := ixT (row_get (hR r hr))
    simp only [ap_tup, ap_cons, ap_nil, ap_d2, ap_var, ap_c, h1, h2, ofO_some, PD.R.bind_ok, h3, sz_small (show ([natD (r.getD v 0), PyData.bool true] : List PyData).length ≤ 10000 by simp), if_true]⟩
  rw [List.nil_append] at h
  exact h
theorem told_ok {R : List (List Nat)} {v k : Nat} (hk : k ≤ 4) (h : ∀ r ∈ R, r.getD v 0 < k) : ∃ d, fDict (.list ((R.map fun r => r.getD v 0).map fun c => .tuple [natD c, .bool true])) = some d ∧ fSortX d = some (lD (colsL R v)) := by
  refine ⟨_, dict_ok _, sortD_ok ?_⟩
  have := keys_len h
  unfold colsL at this
  rw [sortN_len] at this
  omega
theorem colours_step {A V d L : PyData} {rs xs : List PyData} {S : Store} (hs : seqD A = some rs) (hc : compL (.nm 2) dYes (dTup (dCons (d2 fIx (dVar 2) (dVar 1)) (dCons (dC (.bool true)) (dNil)))) [some A, some V, none] [] rs S = .ok (.list xs) S) (h1 : fDict (.list xs) = some d) (h2 : fSortX d = some L) : d_colours_at [A, V] S = .ok L S := by
  unfold d_colours_at dFn b_colours_at env0
  simp only [ap_ret, ap_d1, ap_comp, ap_it]
  simp [hs, hc, h1, h2, RS.fin, -ap_tup]
theorem colours_ok {R : List (List Nat)} {v k : Nat} (hk : k ≤ 4) (h : ∀ r ∈ R, r.getD v 0 < k) (hl : ∀ r ∈ R, v < r.length) (S : Store) : d_colours_at [.list (R.map rowD), natD v] S = .ok (lD (colsL R v)) S := by
  obtain ⟨d, h1, h2⟩ := told_ok hk h
  exact colours_step rfl (told_comp (n := 0) (by simp) rfl (by decide) hl) h1 h2
end K85
namespace K85
open PySem PySem.Spec PyProof.Rows L2 PD
theorem paint_row (r : List Nat) : paintD (rowP r) = rowD r := by unfold paintD rowP rowD; rw [List.map_map]; rfl
def rowsOf (ts : List Tie) (k n : Nat) (p : Paint) : List (List Nat) := (rowsN ts k n).filter (agreeB p)
theorem filled_none {n : Nat} {ts : List Tie} {k : Nat} {p : Paint} (s : SheetOk n ts k p) (S : Store) : d_filled [webD n ts, natD k, paintD p, .none] S = .ok (.list ((rowsOf ts k n p).map rowD)) S := by
  have h := filled_ok s none S
  have e : takeM none (allF ts k p) = (rowsOf ts k n p).map rowP := allF_rows s
  rw [e, List.map_map, show (paintD ∘ rowP) = rowD from funext paint_row] at h
  exact h
theorem rows_facts {n : Nat} {ts : List Tie} {k : Nat} {p : Paint} (s : SheetOk n ts k p) {r : List Nat} (hr : r ∈ rowsOf ts k n p) : r.length = n ∧ ∀ v, v < n → r.getD v 0 < k := by
  have h := (mem_rows s.w n r).mp (List.mem_filter.mp hr).1
  exact ⟨h.1, h.2.1⟩
theorem cols_ok {n : Nat} {ts : List Tie} {k : Nat} {p : Paint} (s : SheetOk n ts k p) {v : Nat} (hv : v < n) (S : Store) : d_colours_at [.list ((rowsOf ts k n p).map rowD), natD v] S = .ok (lD (colsL (rowsOf ts k n p) v)) S :=
  colours_ok s.k4 (fun r hr => (rows_facts s hr).2 v hv) (fun r hr => by rw [(rows_facts s hr).1]; exact hv) S
def dueD : List Nat → PyData
  | [] => .tuple [.str "none"]
  | [a] => .tuple [.str "sure", natD a]
  | a :: b :: _ => .tuple [.str "open", natD a, natD b]
theorem sure_step {SH V W K P RS : PyData} {nn : Int} {cs : List Nat} {S : Store} (hc : d_check_sheet [SH] S = .ok .none S) (i0 : fIx SH (.int 0) = some W) (i1 : fIx SH (.int 1) = some K) (i2 : fIx SH (.int 2) = some P) (j0 : fIx W (.int 0) = some (.int nn))
    (hw : d_is_within [V, .int 0, .int (nn - 1)] S = .ok (.bool true) S) (hf : d_filled [W, K, P, .none] S = .ok RS S) (hcol : d_colours_at [RS, V] S = .ok (lD cs) S) : d_is_sure [SH, V] S = .ok (dueD cs) S := by
  unfold d_is_sure dFn b_is_sure env0
  match cs, hcol with
  | [], hcol =>
    have hcol : d_colours_at [RS, V] S = .ok (.list []) S := hcol
    simp [hc, i0, i1, i2, j0, hw, hf, hcol, dueD, PD.RS.fin, sz_small]
  | [a], hcol =>
    have hcol : d_colours_at [RS, V] S = .ok (.list [natD a]) S := hcol
    have e0 : fIx (.list [natD a]) (.int 0) = some (natD a) := ixL_0
    show _ = PD.R.ok (PyData.tuple [.str "sure", natD a]) S
    generalize natD a = A at *
    simp [hc, i0, i1, i2, j0, hw, hf, hcol, e0, PD.RS.fin, sz_small]
  | a :: b :: t, hcol =>
    have hcol : d_colours_at [RS, V] S = .ok (.list (natD a :: natD b :: t.map natD)) S := hcol
    have e0 : fIx (.list (natD a :: natD b :: t.map natD)) (.int 0) = some (natD a) := ixL_0
    have e1 : fIx (.list (natD a :: natD b :: t.map natD)) (.int 1) = some (natD b) := ix_nat (i := 1) rfl
    have n0 : ¬ (((t.map natD).length : Int) + 1 + 1 = 0) := by omega
    have n1 : ¬ (((t.map natD).length : Int) + 1 + 1 = 1) := by omega
    show _ = PD.R.ok (PyData.tuple [.str "open", natD a, natD b]) S
    generalize t.map natD = tt at *
    generalize natD a = A at *
    generalize natD b = B at *
    simp [hc, i0, i1, i2, j0, hw, hf, hcol, e0, e1, n0, n1, PD.RS.fin, sz_small]
theorem is_sure_ok {n : Nat} {ts : List Tie} {k : Nat} {p : Paint} (s : SheetOk n ts k p) {v : Nat} (hv : v < n) (S : Store) : d_is_sure [sheetD n ts k p, natD v] S = .ok (dueD (colsL (rowsOf ts k n p) v)) S := by
  refine sure_step (W := webD n ts) (K := natD k) (P := paintD p) (nn := (n : Int)) (check_ok s S) sheet_0 sheet_1 sheet_2 ixT_0 ?_ (filled_none s S) (cols_ok s hv S)
  rw [is_within_ok, decide_eq_true (by omega), decide_eq_true (by omega)]
  rfl
/-! sure places -/
def sD (L : List (Nat × Nat)) : List (PyData × PyData) := L.map fun a => (natD a.1, natD a.2)
def sureN (p : Paint) (R : List (List Nat)) : Nat → List (Nat × Nat)
  | 0 => []
  | j + 1 => if colAt p j = none ∧ (colsL R j).length = 1 then sureN p R j ++ [(j, (colsL R j).headD 0)] else sureN p R j
theorem sureN_mem {p : Paint} {R : List (List Nat)} : ∀ {j : Nat} {a : Nat × Nat}, a ∈ sureN p R j → a.1 < j ∧ colAt p a.1 = none ∧ colsL R a.1 = [a.2]
  | 0, a, h => by cases h
  | j + 1, a, h => by
    unfold sureN at h
    split at h
    · rename_i hc
      rcases List.mem_append.mp h with h | h
      · have := sureN_mem h
        exact ⟨by omega, this.2⟩
      · rw [List.mem_singleton.mp h]
        refine ⟨by dsimp only; omega, hc.1, ?_⟩
        obtain ⟨x, hx⟩ := List.length_eq_one_iff.mp hc.2
        dsimp only
        rw [hx]
        rfl
    · have := sureN_mem h
      exact ⟨by omega, this.2⟩
theorem sureN_up {p : Paint} {R : List (List Nat)} : ∀ j, (sureN p R j).Pairwise fun a b => a.1 < b.1
  | 0 => .nil
  | j + 1 => by
    unfold sureN
    split
    · refine List.pairwise_append.mpr ⟨sureN_up j, List.pairwise_singleton _ _, fun a ha b hb => ?_⟩
      rw [List.mem_singleton.mp hb]
      exact (sureN_mem ha).1
    · exact sureN_up j
theorem sureN_len {p : Paint} {R : List (List Nat)} : ∀ j, (sureN p R j).length ≤ j
  | 0 => Nat.le_refl _
  | j + 1 => by
    have := sureN_len (p := p) (R := R) j
    unfold sureN
    split
    · rw [List.length_append, List.length_singleton]; omega
    · omega
theorem sD_keys (L : List (Nat × Nat)) : keysK (sD L) = true := by
  unfold keysK sD
  rw [List.all_map, List.all_eq_true]
  intro a _
  rfl
theorem same_nat (c a : Nat) : sameK (.inl (c : Int)) (natD a) = decide (a = c) := by
  show sameK (.inl (c : Int)) (keyD (.inl (a : Int))) = _
  rw [sameK_D, decide_eq_decide]
  constructor
  · intro h
    have := Sum.inl.inj h
    omega
  · intro h
    rw [h]
theorem sD_get (L : List (Nat × Nat)) (v : Nat) : getK (sD L) (.inl (v : Int)) = (L.find? fun a => decide (a.1 = v)).map fun a => natD a.2 := by
  unfold getK sD
  induction L with
  | nil => rfl
  | cons a L ih =>
    rw [List.map_cons, List.find?_cons, List.find?_cons]
    simp only [same_nat]
    cases decide (a.1 = v) with
    | true => rfl
    | false => exact ih
theorem sD_put {L : List (Nat × Nat)} {v c : Nat} (h : ∀ a ∈ L, a.1 ≠ v) (hl : L.length ≤ 1000) : fPutD (sD L) (natD v) (natD c) = some (.dict (sD (L ++ [(v, c)]))) := by
  unfold fPutD
  have e1 : decide ((sD L).length < sizeLine) = true := decide_eq_true (by unfold sD; rw [List.length_map, sizeLine_eq]; omega)
  rw [sD_keys, e1]
  show some (PyData.dict (putD (sD L) (.inl (v : Int)) (natD c))) = _
  unfold putD
  have e2 : ((sD L).any fun p => sameK (.inl (v : Int)) p.1) = false := by
    rw [List.any_eq_false]
    intro p hp
    obtain ⟨a, ha, rfl⟩ := List.mem_map.mp hp
    dsimp only
    rw [same_nat, decide_eq_true_eq]
    exact h a ha
  rw [e2, if_neg (by decide)]
  unfold sD
  rw [List.map_append]
  rfl
def spBody : DS := (dSeq (dSet 5 (dCall d_colours_at (dCons (dVar 1) (dCons (dVar 3) (dNil))))) (dIfS (dAnd (dTest (d2 (fIsN false) (dVar 4) (dC .none))) (dTest (d2 fEq (d1 fLen (dVar 5)) (dC (.int 1))))) (dSetD 2 (dVar 3) (d2 fIx (dVar 5) (dC (.int 0)))) (dNx)))
theorem len_one (cs : List Nat) : fEq (.int ((cs.map natD).length : Nat)) (.int 1) = some (.bool (decide (cs.length = 1))) := by
  show some (PyData.bool (decide (((cs.map natD).length : Int) = 1))) = _
  congr 2
  rw [decide_eq_decide, List.length_map]
  omega
theorem sp_step {SH RS V C D' : PyData} {D : List (PyData × PyData)} {cs : List Nat} {b1 : Bool} {o5 : Option PyData} {S : Store} (hcol : d_colours_at [RS, V] S = .ok (lD cs) S) (h1 : fIsN false C .none = some (.bool b1)) (hp : fPutD D V (natD (cs.headD 0)) = some D') :
    spBody [some SH, some RS, some (.dict D), some V, some C, o5] S = .nx [some SH, some RS, some (if b1 = true ∧ cs.length = 1 then D' else .dict D), some V, some C, some (lD cs)] S := by
  have hl := len_one cs
  have hle : fLen (lD cs) = some (.int ((cs.map natD).length : Nat)) := rfl
  have h0 : cs.length = 1 → fIx (lD cs) (.int 0) = some (natD (cs.headD 0)) := fun h => by
    obtain ⟨x, hx⟩ := List.length_eq_one_iff.mp h
    subst hx
    exact ixL_0
  unfold spBody
  generalize lD cs = LC at *
  generalize natD (cs.headD 0) = HC at *
  cases b1 with
  | false => simp [hcol, h1]
  | true =>
    by_cases h : cs.length = 1
    · have h0 := h0 h
      rw [decide_eq_true h] at hl
      have hd : ∀ ρ S, dSetD 2 (dVar 3) (d2 fIx (dVar 5) (dC (.int 0))) ρ S = onDic ρ 2 fun xs => ((d2 fIx (dVar 5) (dC (.int 0))) ρ S).st ρ fun d S1 => ((dVar 3) ρ S1).st ρ fun j S2 => putO ρ 2 (fPutD xs j d) S2 := fun _ _ => rfl
      simp [hcol, h1, hl, hle, h, h0, hd, onDic, putO, hp, -List.length_map]
    · rw [decide_eq_false h] at hl
      simp [hcol, h1, hl, hle, h, -List.length_map]
theorem places_step {SH W K P RS : PyData} {es : List PyData} {D : PyData} {o3 o4 o5 : Option PyData} {S : Store} (hc : d_check_sheet [SH] S = .ok .none S) (i0 : fIx SH (.int 0) = some W) (i1 : fIx SH (.int 1) = some K) (i2 : fIx SH (.int 2) = some P)
    (hf : d_filled [W, K, P, .none] S = .ok RS S) (he : fEnum 0 P = some es) (hl : forL (.tup [3, 4]) spBody es [some SH, some RS, some (.dict []), none, none, none] S = .nx [some SH, some RS, some D, o3, o4, o5] S) : d_sure_places [SH] S = .ok D S := by
  unfold d_sure_places dFn b_sure_places env0
  change PD.RS.fin _ (dSeq (dDrop (dCall d_check_sheet (dCons (dVar 0) (dNil)))) (dSeq (dSet 1 (dCall d_filled (dCons (d2 fIx (dVar 0) (dC (.int 0))) (dCons (d2 fIx (dVar 0) (dC (.int 1))) (dCons (d2 fIx (dVar 0) (dC (.int 2))) (dCons (dC .none) (dNil))))))) (dSeq (dSet 2 (dC (.dict []))) (dSeq (dFor (dIt (fEnum 0) (d2 fIx (dVar 0) (dC (.int 2)))) (.tup [3, 4]) spBody) (dRet (dVar 2))))) _ _) = _
  generalize spBody = bd at *
  simp [hc, i0, i1, i2, hf, he, hl, PD.RS.fin]
theorem sure_places_ok {n : Nat} {ts : List Tie} {k : Nat} {p : Paint} (s : SheetOk n ts k p) (S : Store) : d_sure_places [sheetD n ts k p] S = .ok (.dict (sD (sureN p (rowsOf ts k n p) n))) S := by
  have hn := s.w.hi
  obtain ⟨ρ', S', q, rfl, o3, o4, o5, rfl⟩ := for_n (t := .tup [3, 4]) (body := spBody) (I := fun j ρ S' => S' = S ∧ ∃ o3 o4 o5, ρ = [some (sheetD n ts k p), some (.list ((rowsOf ts k n p).map rowD)), some (.dict (sD (sureN p (rowsOf ts k n p) j))), o3, o4, o5]) (ds := enumD 0 (p.map colD)) (k := 0)
    (ρ := [some (sheetD n ts k p), some (.list ((rowsOf ts k n p).map rowD)), some (.dict []), none, none, none]) (S := S) ⟨rfl, none, none, none, rfl⟩ (by
    rintro j d hd ρ S' ⟨rfl, o3, o4, o5, rfl⟩
    obtain ⟨x, hx, rfl⟩ := enumD_get _ _ _ _ hd
    have hj : j < p.length := by
      have := (List.getElem?_eq_some_iff.mp hx).1
      simpa using this
    rw [paint_get hj] at hx
    cases hx
    rw [show (0 : Int) + (j : Int) = (j : Int) by omega]
    rw [show 0 + j = j by omega] at *
    have hjn : j < n := by rw [← s.len]; exact hj
    have hlen := sureN_len (p := p) (R := rowsOf ts k n p) j
    have hs := sp_step (SH := sheetD n ts k p) (o5 := o5) (cols_ok s hjn S') (isN_col (a := colAt p j)) (sD_put (L := sureN p (rowsOf ts k n p) j) (c := (colsL (rowsOf ts k n p) j).headD 0) (fun a ha => by have := (sureN_mem ha).1; omega) (by omega))
    refine ⟨_, rfl, _, S', hs, rfl, some (natD j), some (colD (colAt p j)), some (lD (colsL (rowsOf ts k n p) j)), ?_⟩
    congr 3
    show some _ = some _
    congr 1
    rw [sureN]
    by_cases h : colAt p j = none ∧ (colsL (rowsOf ts k n p) j).length = 1
    · rw [if_pos h, if_pos ⟨decide_eq_true h.1, h.2⟩]
    · rw [if_neg h, if_neg (fun h' => h ⟨of_decide_eq_true h'.1, h'.2⟩)])
  have hlen : 0 + (enumD 0 (p.map colD)).length = n := by rw [enumD_len]; simp [s.len]
  rw [hlen] at q
  exact places_step (check_ok s S') sheet_0 sheet_1 sheet_2 (filled_none s S') rfl q
end K85
namespace K85
open PySem PySem.Spec PyProof.Rows L2 PD
/-! ### the law's strokes -/
def lsb : DS := (dIfS (dTest (d2 (fIsN false) (d2 fIx (dVar 3) (dVar 6)) (dC .none))) (dSeq (dSet 7 (dComp (dIt seqD (d2 fIx (dVar 4) (dVar 6))) (.nm 8) (dYes) (d2 fIx (dVar 3) (dVar 8)))) (dSet 5 (d2 fAddL (dVar 5) (dComp (dRng1 (dVar 2)) (.nm 9) (dTest (d2 (fIn true) (dVar 9) (dVar 7))) (dTup (dCons (dVar 6) (dCons (dVar 9) (dNil)))))))) (dNx))
theorem ls_skip {A W K P N V C D : PyData} {o7 : Option PyData} {S : Store} (hP : fIx P V = some C) (hC : fIsN false C .none = some (.bool false)) : lsb [some A, some W, some K, some P, some N, some D, some V, o7, none, none] S = .nx [some A, some W, some K, some P, some N, some D, some V, o7, none, none] S := by
  unfold lsb
  simp [hP, hC]
theorem ls_step {A W P N V C L : PyData} {kk : Int} {ds ls us fs ds' : List PyData} {o7 : Option PyData} {S : Store} (hP : fIx P V = some C) (hC : fIsN false C .none = some (.bool true)) (hN : fIx N V = some L) (hs : seqD L = some ls) (c1 : cR kk = true) (c2 : sz kk.toNat = true)
    (h8 : compL (.nm 8) dYes (d2 fIx (dVar 3) (dVar 8)) [some A, some W, some (.int kk), some P, some N, some (.list ds), some V, o7, none, none] [] ls S = .ok (.list us) S)
    (h9 : compL (.nm 9) (dTest (d2 (fIn true) (dVar 9) (dVar 7))) (dTup (dCons (dVar 6) (dCons (dVar 9) (dNil)))) [some A, some W, some (.int kk), some P, some N, some (.list ds), some V, some (.list us), none, none] [] (rngD 0 kk.toNat) S = .ok (.list fs) S)
    (hd : fAddL (.list ds) (.list fs) = some (.list ds')) :
    lsb [some A, some W, some (.int kk), some P, some N, some (.list ds), some V, o7, none, none] S = .nx [some A, some W, some (.int kk), some P, some N, some (.list ds'), some V, some (.list us), none, none] S := by
  unfold lsb
  simp only [ap_ifs, ap_test, ap_d2, ap_var, ap_c, ap_seq, ap_set, ap_comp, ap_it, List.getD_cons_succ, List.getD_cons_zero, List.set_cons_succ, List.set_cons_zero, ofO_some, R.bind_ok, R.st_ok, RS.bind_nx, hP, hC, hN, hs, h8, if_true, ap_rng1, c1, c2, Bool.and_self, h9, hd]
theorem ls_turn {n : Nat} {ts : List Tie} {k v : Nat} {p : Paint} {NL : List (List Nat)} (s : SheetOk n ts k p) (hn : NearOk n ts NL) (hv : v < n) (o7 : Option PyData) (S : Store) :
    ∃ p7, lsb [some (sheetD n ts k p), some (webD n ts), some (natD k), some (paintD p), some (.list (NL.map lD)), some (.list (((List.range v).flatMap (strokesAt ts k p)).map tieD)), some (natD v), o7, none, none] S =
      .nx [some (sheetD n ts k p), some (webD n ts), some (natD k), some (paintD p), some (.list (NL.map lD)), some (.list (((List.range (v + 1)).flatMap (strokesAt ts k p)).map tieD)), some (natD v), p7, none, none] S := by
  have hn6 := s.w.hi
  have hk := s.k4
  have hP : fIx (paintD p) (natD v) = some (colD (colAt p v)) := ixT (paint_get (by rw [s.len]; exact hv))
  rw [List.range_succ, List.flatMap_append, List.flatMap_singleton]
  by_cases h : colAt p v = none
  · have hC : fIsN false (colD (colAt p v)) .none = some (.bool true) := by rw [isN_col, decide_eq_true h]
    have hN : fIx (.list (NL.map lD)) (natD v) = some (lD (NL.getD v [])) := ix_nat (by
      rw [List.getElem?_map, List.getD_eq_getElem?_getD, List.getElem?_eq_getElem (by rw [hn.len]; exact hv)]
      rfl)
    have hrg : rngD 0 (k : Int).toNat = (List.range k).map natD := by rw [Int.toNat_natCast, rngD0]
    have hl := flat_len (l := List.range v) (g := strokesAt ts k p) (c := k) fun a _ => strokesAt_len ts k p a
    have hkj : k * v ≤ 4 * 6 := Nat.mul_le_mul hk (by omega)
    rw [List.length_range] at hl
    have hfl := free_len ts k p v
    generalize (List.range v).flatMap (strokesAt ts k p) = X at *
    have h8 := comp_y (t := .nm 8) (de := (d2 fIx (dVar 3) (dVar 8))) (ρ := [some (sheetD n ts k p), some (webD n ts), some (natD k), some (paintD p), some (.list (NL.map lD)), some (.list (X.map tieD)), some (natD v), o7, none, none]) (S := S) (e := natD) (g := colD) (f := colAt p) (xs := NL.getD v []) (acc := []) (fun o ho => by
      have hl : o < n := (tied_lt s.w (mem_tied.mpr ((hn.mem v hv o).mp ho))).1
      have e : fIx (paintD p) (.int (o : Int)) = some (colD (colAt p o)) := ixT (paint_get (by rw [s.len]; exact hl))
      refine ⟨_, rfl, ?_⟩
      generalize paintD p = P at *
      simp [e])
    rw [List.nil_append] at h8
    have h9 := comp_t (t := .nm 9) (tt := (dTest (d2 (fIn true) (dVar 9) (dVar 7)))) (de := (dTup (dCons (dVar 6) (dCons (dVar 9) (dNil))))) (ρ := [some (sheetD n ts k p), some (webD n ts), some (natD k), some (paintD p), some (.list (NL.map lD)), some (.list (X.map tieD)), some (natD v), some (.list (((NL.getD v []).map (colAt p)).map colD)), none, none]) (S := S) (e := natD) (g := tieD) (p := fun c => !decide (some c ∈ (NL.getD v []).map (colAt p))) (f := fun c => (v, c)) (xs := List.range k) (acc := []) (fun c _ =>
      ⟨_, rfl, tst2 rfl rfl (in_cols c ((NL.getD v []).map (colAt p))), fun _ => by simp [sz_small, tieD]⟩)
    rw [List.nil_append, free_near hn hv, ← hrg] at h9
    have hd := fAddL_ok (xs := X.map tieD) (ys := ((freeC ts k p v).map fun c => (v, c)).map tieD) (by rw [List.length_map, List.length_map, List.length_map]; omega)
    rw [← List.map_append] at hd
    have e : strokesAt ts k p v = (freeC ts k p v).map fun c => (v, c) := strokesAt_left h
    rw [e]
    exact ⟨_, ls_step hP hC hN rfl (cR_small (by omega) (by omega)) (sz_small (by omega)) h8 h9 hd⟩
  · have hC : fIsN false (colD (colAt p v)) .none = some (.bool false) := by rw [isN_col, decide_eq_false h]
    have e : strokesAt ts k p v = [] := by unfold strokesAt; rw [if_neg h]
    rw [e, List.append_nil]
    exact ⟨_, ls_skip hP hC⟩
theorem strokes_fin {SH W K P N F : PyData} {nn : Int} {o6 o7 : Option PyData} {S : Store} (hb : (Tg.tup [1, 2, 3]).bind SH [some SH, none, none, none, none, none, none, none, none, none] = some [some SH, some W, some K, some P, none, none, none, none, none, none]) (hn : d__law_near [W] S = .ok N S) (i0 : fIx W (.int 0) = some (.int nn)) (c1 : cR nn = true) (c2 : sz nn.toNat = true)
    (q : forL (.nm 6) lsb (rngD 0 nn.toNat) [some SH, some W, some K, some P, some N, some (.list []), none, none, none, none] S = .nx [some SH, some W, some K, some P, some N, some F, o6, o7, none, none] S) (hF : ∃ xs, F = .list xs) : d__law_strokes [SH] S = .ok F S := by
  obtain ⟨xs, rfl⟩ := hF
  unfold d__law_strokes dFn b__law_strokes env0
  change PD.RS.fin _ (dSeq (dTupSet [1, 2, 3] (dVar 0)) (dSeq (dPar [4, 5] (dCons (dCall d__law_near (dCons (dVar 1) (dNil))) (dCons (dLst (dNil)) (dNil)))) (dSeq (dFor (dRng1 (d2 fIx (dVar 1) (dC (.int 0)))) (.nm 6) lsb) (dRet (dVar 5)))) _ _) = _
  generalize lsb = bd at *
  simp [hb, hn, i0, c1, c2, q, setAll, sz_small, PD.RS.fin]
theorem law_strokes_ok {n : Nat} {ts : List Tie} {k : Nat} {p : Paint} (s : SheetOk n ts k p) (S : Store) : d__law_strokes [sheetD n ts k p] S = .ok (.list ((strokesOf ts k p).map tieD)) S := by
  have hn6 := s.w.hi
  obtain ⟨NL, hN, e1⟩ := near_ok s.w S
  obtain ⟨ρ', S', q, rfl, o6, o7, rfl⟩ := for_n (t := .nm 6) (body := lsb) (I := fun j ρ S' => S' = S ∧ ∃ o6 o7, ρ = [some (sheetD n ts k p), some (webD n ts), some (natD k), some (paintD p), some (.list (NL.map lD)), some (.list (((List.range j).flatMap (strokesAt ts k p)).map tieD)), o6, o7, none, none]) (ds := rngD 0 (n : Int).toNat) (k := 0)
    (ρ := [some (sheetD n ts k p), some (webD n ts), some (natD k), some (paintD p), some (.list (NL.map lD)), some (.list []), none, none, none, none]) (S := S) ⟨rfl, none, none, rfl⟩ (by
    rintro j d hd ρ S' ⟨rfl, o6, o7, rfl⟩
    obtain ⟨rfl, hj⟩ := rngD_get hd
    rw [Int.toNat_natCast] at hj
    rw [Nat.zero_add] at *
    rw [show (0 : Int) + (j : Int) = (j : Int) by omega]
    obtain ⟨p7, h⟩ := ls_turn s hN hj o7 S'
    exact ⟨_, rfl, _, S', h, rfl, _, _, rfl⟩)
  have hlen : 0 + (rngD 0 (n : Int).toNat).length = n := by rw [rngD_len, Int.toNat_natCast]; omega
  rw [hlen] at q
  have e : (List.range n).flatMap (strokesAt ts k p) = strokesOf ts k p := by unfold strokesOf; rw [s.len]
  rw [e] at q
  exact strokes_fin rfl e1 ixT_0 (cR_small (by omega) (by omega)) (sz_small (by omega)) q ⟨_, rfl⟩
end K85
namespace K85
open PySem PySem.Spec PyProof.Rows L2 PD
/-! ### what is no sheet -/
def w2 : PyData := .tuple [.int 2, .tuple [.tuple [.int 0, .int 1]]]
def badL : List PyData := [.none, .tuple [], .int 0, .tuple [w2, .int 2], .list [w2, .int 2, .tuple [.none, .none]], .tuple [w2, .int 0, .tuple [.none, .none]], .tuple [w2, .int 5, .tuple [.none, .none]], .tuple [w2, .int 2, .tuple [.none]], .tuple [w2, .int 2, .tuple [.int 0, .int 0]], .tuple [w2, .int 2, .tuple [.int 2, .none]], .tuple [w2, .int 2, .list [.none, .none]],
  .tuple [.tuple [.int 7, .tuple []], .int 2, .tuple [.none, .none, .none, .none, .none, .none, .none]], .dict []]
theorem bad_no {d : PyData} (h : d ∈ badL) (S : Store) : d_is_sheet [d] S = .ok (.bool false) S := by
  simp only [badL, List.mem_cons, List.not_mem_nil, or_false] at h
  rcases h with rfl | rfl | rfl | rfl | rfl | rfl | rfl | rfl | rfl | rfl | rfl | rfl | rfl
  · rfl
  · rfl
  · rfl
  · rfl
  · rfl
  · rfl
  · rfl
  · rfl
  · rfl
  · rfl
  · rfl
  · rfl
  · rfl
theorem no_sheet_ok {S : Store} (hS : TapeOk S) : ∃ d S', d__law_no_sheet [.none] S = .ok d S' ∧ TapeOk S' ∧ d ∈ badL := by
  obtain ⟨d, S', e, hS', hd⟩ := any_ok (xs := badL) hS (by simp [badL]) (by decide)
  refine ⟨d, S', ?_, hS', hd⟩
  have a1 : fAddL (.list [.none, .tuple [], .int 0, .tuple [w2, .int 2], .list [w2, .int 2, .tuple [.none, .none]], .tuple [w2, .int 0, .tuple [.none, .none]], .tuple [w2, .int 5, .tuple [.none, .none]]]) (.list [.tuple [w2, .int 2, .tuple [.none]], .tuple [w2, .int 2, .tuple [.int 0, .int 0]], .tuple [w2, .int 2, .tuple [.int 2, .none]], .tuple [w2, .int 2, .list [.none, .none]]]) = some (.list [.none, .tuple [], .int 0, .tuple [w2, .int 2], .list [w2, .int 2, .tuple [.none, .none]], .tuple [w2, .int 0, .tuple [.none, .none]], .tuple [w2, .int 5, .tuple [.none, .none]], .tuple [w2, .int 2, .tuple [.none]], .tuple [w2, .int 2, .tuple [.int 0, .int 0]], .tuple [w2, .int 2, .tuple [.int 2, .none]], .tuple [w2, .int 2, .list [.none, .none]]]) := rfl
  have a2 : fAddL (.list [.none, .tuple [], .int 0, .tuple [w2, .int 2], .list [w2, .int 2, .tuple [.none, .none]], .tuple [w2, .int 0, .tuple [.none, .none]], .tuple [w2, .int 5, .tuple [.none, .none]], .tuple [w2, .int 2, .tuple [.none]], .tuple [w2, .int 2, .tuple [.int 0, .int 0]], .tuple [w2, .int 2, .tuple [.int 2, .none]], .tuple [w2, .int 2, .list [.none, .none]]]) (.list [.tuple [.tuple [.int 7, .tuple []], .int 2, .tuple [.none, .none, .none, .none, .none, .none, .none]], .dict []]) = some (.list badL) := rfl
  have a3 : fTimes (.tuple [.none]) (.int 7) = some (.tuple [.none, .none, .none, .none, .none, .none, .none]) := rfl
  have hw : PyData.tuple [.int 2, .tuple [.tuple [.int 0, .int 1]]] = w2 := rfl
  generalize badL = bl at *
  unfold d__law_no_sheet dFn b__law_no_sheet env0
  simp [sz_small, hw, a1, a2, a3, e, RS.fin]
def noSheet : Xc := ⟨"NoSheet", []⟩
/-! ### the law -/
theorem ne_bools (b : Bool) : fNe (.bool b) (.bool b) = some (.bool false) := by cases b <;> rfl
/-- the last rows of a turn -/
theorem hand_ok {ns : List Int} (hl : ns.length ≤ 63) : d__law_hand [.list (ns.map .int)] [] = .ok (.list [.list ((ns.map fun i => if i < 0 then -i else i).map .int), .int 0, .int 0, .int (61 + 7 * ns.length), .int 0]) [] := by
  unfold d__law_hand dFn b__law_hand env0
  have hs : fSlL (.list (ns.map .int)) none (some 63) = some (.list (ns.map .int)) := by
    show some (PyData.list (cutA _ _ _)) = _
    rw [show (63 : Int) = ((63 : Nat) : Int) from rfl, cutA_take, List.take_of_length_le (by simpa using hl)]
  have hc := comp_map (t := .nm 2) (de := (d1 fAbs (d1 fInt (dVar 2)))) (ρ := [some (.list (ns.map .int)), none, none]) (S := []) (f := fun d => match d with | .int i => .int (if i < 0 then -i else i) | d => d) (ds := ns.map .int) (acc := []) (fun d hd => by
    obtain ⟨i, hi, rfl⟩ := List.mem_map.mp hd
    refine ⟨[some (.list (ns.map .int)), none, some (.int i)], rfl, ?_⟩
    have : fAbs (.int i) = some (.int (if i < 0 then -i else i)) := rfl
    simp [this])
  rw [List.nil_append, List.map_map] at hc
  have hl' : lstD (.list (ns.map .int)) = some (ns.map .int) := rfl
  have e : (ns.map ((fun d => match d with | .int i => PyData.int (if i < 0 then -i else i) | d => d) ∘ PyData.int)) = (ns.map fun i => if i < 0 then -i else i).map .int := by rw [List.map_map]; rfl
  rw [e] at hc
  have ht : fTimes (.int 7) (.int (ns.length : Nat)) = some (.int (7 * (ns.length : Nat))) := f_times (cMul_l (by decide) (by decide))
  simp [hs, hl', hc, ht, RS.fin]
theorem tape0 (ns : List Int) : TapeOk [[.list ((ns.map fun i => if i < 0 then -i else i).map .int), .int 0, .int 0, .int (61 + 7 * ns.length), .int 0]] :=
  ⟨_, 0, 0, _, 0, rfl, fun z hz => by
    obtain ⟨i, _, rfl⟩ := List.mem_map.mp hz
    split <;> omega, by omega⟩
/-! ### refusals -/
/-! words -/
def noNumber : Xc := ⟨"NoNumber", []⟩
def noPlace : Xc := ⟨"NoPlace", []⟩
theorem check_bad {d : PyData} (h : d ∈ badL) (S : Store) : d_check_sheet [d] S = .exc noSheet S := by
  have e := bad_no h S
  have r0 : ∀ ρ S, dRaise0 "NoSheet" ρ S = .exc noSheet ρ S := fun _ _ => rfl
  unfold d_check_sheet dFn b_check_sheet env0
  simp [e, r0, PD.RS.fin]
theorem fillings_bad {d m : PyData} (h : d ∈ badL) (S : Store) : d_fillings [d, m] S = .exc noSheet S := by
  have e := check_bad h S
  unfold d_fillings dFn b_fillings env0
  simp [e, PD.RS.fin]
theorem is_sure_bad {d m : PyData} (h : d ∈ badL) (S : Store) : d_is_sure [d, m] S = .exc noSheet S := by
  have e := check_bad h S
  unfold d_is_sure dFn b_is_sure env0
  simp [e, PD.RS.fin]
theorem places_bad {d : PyData} (h : d ∈ badL) (S : Store) : d_sure_places [d] S = .exc noSheet S := by
  have e := check_bad h S
  unfold d_sure_places dFn b_sure_places env0
  simp [e, PD.RS.fin]
def offL : List PyData := [.none, .int 0, .int 101, .bool true, .str "1"]
def oddL (n : Nat) : List PyData := [.none, natD n, .int (-1), .bool true, .str "0"]
theorem off_no {d : PyData} (S : Store) (h : d ∈ offL) : d_is_within [d, .int 1, .int 100] S = .ok (.bool false) S := by
  simp only [offL, List.mem_cons, List.not_mem_nil, or_false] at h
  rcases h with rfl | rfl | rfl | rfl | rfl <;> rfl
theorem odd_no {d : PyData} {n : Nat} (S : Store) (h : d ∈ oddL n) : d_is_within [d, .int 0, .int ((n : Int) - 1)] S = .ok (.bool false) S := by
  simp only [oddL, List.mem_cons, List.not_mem_nil, or_false] at h
  rcases h with rfl | rfl | rfl | rfl | rfl
  · rfl
  · rw [is_within_ok, decide_eq_false (show ¬ ((n : Int) ≤ (n : Int) - 1) by omega), Bool.and_false]
  · rw [is_within_ok, decide_eq_false (show ¬ ((0 : Int) ≤ -1) by decide), Bool.false_and]
  · rfl
  · rfl
theorem fillings_off {n : Nat} {ts : List Tie} {k : Nat} {p : Paint} {d : PyData} (s : SheetOk n ts k p) (h : d ∈ offL) (S : Store) : d_fillings [sheetD n ts k p, d] S = .exc noNumber S := by
  have r0 : ∀ ρ S, dRaise0 "NoNumber" ρ S = .exc noNumber ρ S := fun _ _ => rfl
  have e := check_ok s S
  have h := off_no S h
  unfold d_fillings dFn b_fillings env0
  generalize sheetD n ts k p = sh at *
  simp [e, h, r0, PD.RS.fin]
theorem is_sure_off {n : Nat} {ts : List Tie} {k : Nat} {p : Paint} {d : PyData} (s : SheetOk n ts k p) (h : d ∈ oddL n) (S : Store) : d_is_sure [sheetD n ts k p, d] S = .exc noPlace S := by
  have r0 : ∀ ρ S, dRaise0 "NoPlace" ρ S = .exc noPlace ρ S := fun _ _ => rfl
  have e := check_ok s S
  have h := odd_no S h
  have i0 : fIx (sheetD n ts k p) (.int 0) = some (webD n ts) := sheet_0
  have j0 : fIx (webD n ts) (.int 0) = some (.int (n : Int)) := ixT_0
  unfold d_is_sure dFn b_is_sure env0
  generalize sheetD n ts k p = sh at *
  generalize webD n ts = W at *
  simp [e, h, i0, j0, r0, PD.RS.fin]
theorem off_ok {S : Store} (hS : TapeOk S) : ∃ d S', d__law_any [.none, .list offL] S = .ok d S' ∧ TapeOk S' ∧ d ∈ offL := any_ok hS (by simp [offL]) (show 5 < 2 ^ 62 by decide)
theorem odd_ok {n : Nat} {S : Store} (hS : TapeOk S) : ∃ d S', d__law_any [.none, .list (oddL n)] S = .ok d S' ∧ TapeOk S' ∧ d ∈ oddL n := any_ok hS (by simp [oddL]) (show 5 < 2 ^ 62 by decide)
/-! words -/
theorem word_gen {x : Xc} {w : Str} {b1 b2 b3 : Bool} {j : Int} (i2 : xcs.contains x.cls = true) (i0 : inS ["NoNumber", "NoPlace", "NoSheet"] x.cls = true) (e1 : inS ["NoNumber"] x.cls = b1) (e2 : inS ["NoPlace"] x.cls = b2) (e3 : inS ["NoSheet"] x.cls = b3) (f1 : fCount (.list [.bool b1, .bool b2, .bool b3]) (.bool true) = some (.int 1)) (f2 : fIndex (.list [.bool b1, .bool b2, .bool b3]) (.bool true) = some (.int j)) (f3 : fIx (.list [.str "number", .str "place", .str "sheet"]) (.int j) = some (.str w))
    {dl : DE} {ρ : PD.Env} {S : Store} (h : dl ρ S = .exc x S) : dLam 5 bl__law_word dl ρ S = .ok (.str w) S := by
  have i3 : inS [] x.cls = false := rfl
  have ht : ∀ (db : DS) (l : DCl) (ρ ρ' : PD.Env) (S S' : Store), db ρ S = .exc x ρ' S' → dTryN xcs db l ρ S = pickC l x ρ' S' := fun db l ρ ρ' S S' e => by
    unfold dTryN
    rw [e]
    simp only
    rw [if_pos i2]
  have hd : (dDrop fun _ S => (fun S' => dl ρ S') S) [some .none, some (.str "let"), none, none, none] S = .exc x [some .none, some (.str "let"), none, none, none] S := by
    simp [h]
  show ((bl__law_word (fun S' => dl ρ S') [some .none, none, none, none, none] S).fin false).calm = _
  unfold bl__law_word
  simp [ht _ _ _ _ _ _ hd, pickC, i0, i3, e1, e2, e3, dXc, f1, f2, f3, sz_small, RS.calm, RS.fin]
theorem word_number {dl : DE} {ρ : PD.Env} {S : Store} (h : dl ρ S = .exc noNumber S) : dLam 5 bl__law_word dl ρ S = .ok (.str "number") S :=
  word_gen (b1 := true) (b2 := false) (b3 := false) (j := 0) (by decide +kernel) (by decide +kernel) (by decide +kernel) (by decide +kernel) (by decide +kernel) rfl rfl rfl h
theorem word_place {dl : DE} {ρ : PD.Env} {S : Store} (h : dl ρ S = .exc noPlace S) : dLam 5 bl__law_word dl ρ S = .ok (.str "place") S :=
  word_gen (b1 := false) (b2 := true) (b3 := false) (j := 1) (by decide +kernel) (by decide +kernel) (by decide +kernel) (by decide +kernel) (by decide +kernel) rfl rfl rfl h
theorem word_sheet {dl : DE} {ρ : PD.Env} {S : Store} (h : dl ρ S = .exc noSheet S) : dLam 5 bl__law_word dl ρ S = .ok (.str "sheet") S :=
  word_gen (b1 := false) (b2 := false) (b3 := true) (j := 2) (by decide +kernel) (by decide +kernel) (by decide +kernel) (by decide +kernel) (by decide +kernel) rfl rfl rfl h
end K85
namespace K85
open PySem PySem.Spec PyProof.Rows L2 PD
/-! ### the law's turn, statement by statement -/
def c1 : DS := dSet 3 (dCall d__law_sheet (dCons dSt (dCons (dC (.int 6)) (dNil))))
def c2 : DS := dTupSet [4, 5, 6] (dVar 3)
def c3 : DS := dPar [7, 8] (dCons (dCall d__law_fillings (dCons (dVar 3) (dNil))) (dCons (d2 fAdd (dC (.int 1)) (dCall d__law_draw (dCons dSt (dCons (dC (.int 100)) (dNil))))) (dNil)))
def c4 : DS := dIfS (dTest (d2 fNe (dCall d_fillings (dCons (dVar 3) (dCons (dVar 8) (dNil)))) (d1 fTuple (dSl fSl (dVar 7) (pNo) (pSm (dVar 8)))))) (dRet (dC (.bool false))) (dNx)
def c5 : DS := dSet 9 (dC (.dict []))
def f6 : DS := (dSeq (dSet 11 (d1 fSortX (d1 fDict (dComp (dIt seqD (dVar 7)) (.nm 18) (dYes) (dTup (dCons (d2 fIx (dVar 18) (dVar 10)) (dCons (dC (.bool true)) (dNil)))))))) (dSeq (dSet 12 (dTup (dCons (dC (.str "none")) (dNil)))) (dSeq (dIfS (dTest (d2 fNe (dVar 11) (dLst (dNil)))) (dSet 12 (dIfE (dTest (d2 fEq (d1 fLen (dVar 11)) (dC (.int 1)))) (dTup (dCons (dC (.str "sure")) (dCons (d2 fIx (dVar 11) (dC (.int 0))) (dNil)))) (dTup (dCons (dC (.str "open")) (dCons (d2 fIx (dVar 11) (dC (.int 0))) (dCons (d2 fIx (dVar 11) (dC (.int 1))) (dNil))))))) (dNx)) (dSeq (dIfS (dTest (d2 fNe (dCall d_is_sure (dCons (dVar 3) (dCons (dVar 10) (dNil)))) (dVar 12))) (dRet (dC (.bool false))) (dNx)) (dIfS (dAnd (dTest (d2 fEq (d2 fIx (dVar 12) (dC (.int 0))) (dC (.str "sure")))) (dTest (d2 (fIsN false) (d2 fIx (dVar 6) (dVar 10)) (dC .none)))) (dSetD 9 (dVar 10) (d2 fIx (dVar 11) (dC (.int 0)))) (dNx))))))
def c6 : DS := dFor (dRng1 (d2 fIx (dVar 4) (dC (.int 0)))) (.nm 10) f6
def c7 : DS := dIfS (dTest (d2 fNeG (dCall d_sure_places (dCons (dVar 3) (dNil))) (dVar 9))) (dRet (dC (.bool false))) (dNx)
def f8 : DS := (dIfS (dAnd (dTest (d2 (fInG false) (dVar 10) (dVar 9))) (dAnd (dTest (d2 fNe (dVar 13) (d2 fIxG (dVar 9) (dVar 10)))) (dTest (d2 fNe (dCall d_fillings (dCons (dCall d__law_stroked (dCons (dVar 3) (dCons (dVar 10) (dCons (dVar 13) (dNil))))) (dCons (dC (.int 1)) (dNil)))) (dTup (dNil)))))) (dRet (dC (.bool false))) (dNx))
def c8 : DS := dFor (dIt seqD (dCall d__law_strokes (dCons (dVar 3) (dNil)))) (.tup [10, 13]) f8
def c9 : DS := dPar [14, 15] (dCons (dCall d__law_no_sheet (dCons dSt (dNil))) (dCons (dCall d__law_any (dCons dSt (dCons (dLst (dCons (dC .none) (dCons (dC (.int 0)) (dCons (dC (.int 101)) (dCons (dC (.bool true)) (dCons (dC (.str "1")) (dNil))))))) (dNil)))) (dNil)))
def c10 : DS := dSet 16 (dCall d__law_any (dCons dSt (dCons (dLst (dCons (dC .none) (dCons (d2 fIx (dVar 4) (dC (.int 0))) (dCons (d1 fNeg (dC (.int 1))) (dCons (dC (.bool true)) (dCons (dC (.str "0")) (dNil))))))) (dNil))))
def c11 : DS := dSet 17 (dLst (dCons (dLam 5 bl__law_word (dCall d_fillings (dCons (dVar 14) (dCons (dVar 15) (dNil))))) (dNil)))
def c12 : DS := dApp 17 (dLam 5 bl__law_word (dCall d_fillings (dCons (dVar 3) (dCons (dVar 15) (dNil)))))
def c13 : DS := dApp 17 (dLam 5 bl__law_word (dCall d_is_sure (dCons (dVar 14) (dCons (dVar 16) (dNil)))))
def c14 : DS := dApp 17 (dLam 5 bl__law_word (dCall d_is_sure (dCons (dVar 3) (dCons (dVar 16) (dNil)))))
def c15 : DS := dApp 17 (dLam 5 bl__law_word (dCall d_sure_places (dCons (dVar 14) (dNil))))
def c16 : DS := dIfS (dTest (d2 fNe (dVar 17) (dLst (dCons (dC (.str "sheet")) (dCons (dC (.str "number")) (dCons (dC (.str "sheet")) (dCons (dC (.str "place")) (dCons (dC (.str "sheet")) (dNil))))))))) (dRet (dC (.bool false))) (dNx)
def tbody : DS := dSeq c1 (dSeq c2 (dSeq c3 (dSeq c4 (dSeq c5 (dSeq c6 (dSeq c7 (dSeq c8 (dSeq c9 (dSeq c10 (dSeq c11 (dSeq c12 (dSeq c13 (dSeq c14 (dSeq c15 (c16)))))))))))))))
theorem dr_eq : dr_law = dSeq (dFor (dRng1 (dC (.int 3))) (.nm 2) tbody) (dRet (dC (.bool true))) := rfl
section
variable {x0 x1 x2 x3 x4 x5 x6 x7 x8 x9 x10 x11 x12 x13 x14 x15 x16 x17 x18 : Option PyData} {S S1 S2 : Store}
theorem k1 {SH : PyData} (h : d__law_sheet [.none, .int 6] S = .ok SH S1) : c1 [x0, x1, x2, x3, x4, x5, x6, x7, x8, x9, x10, x11, x12, x13, x14, x15, x16, x17, x18] S = .nx [x0, x1, x2, (some SH), x4, x5, x6, x7, x8, x9, x10, x11, x12, x13, x14, x15, x16, x17, x18] S1 := by
  unfold c1
  simp [h]
theorem k2 {W K Q : PyData}  : c2 [x0, x1, x2, (some (.tuple [W, K, Q])), x4, x5, x6, x7, x8, x9, x10, x11, x12, x13, x14, x15, x16, x17, x18] S = .nx [x0, x1, x2, (some (.tuple [W, K, Q])), (some W), (some K), (some Q), x7, x8, x9, x10, x11, x12, x13, x14, x15, x16, x17, x18] S := by
  unfold c2
  have h : (Tg.tup [4, 5, 6]).bind (.tuple [W, K, Q]) [x0, x1, x2, (some (.tuple [W, K, Q])), x4, x5, x6, x7, x8, x9, x10, x11, x12, x13, x14, x15, x16, x17, x18] = some [x0, x1, x2, (some (.tuple [W, K, Q])), (some W), (some K), (some Q), x7, x8, x9, x10, x11, x12, x13, x14, x15, x16, x17, x18] := rfl
  simp only [ap_tupset, ap_var, List.getD_cons_succ, List.getD_cons_zero, ofO_some, PD.R.st_ok, h]
theorem k3 {SH F : PyData} {i j : Int} (h1 : d__law_fillings [SH] S = .ok F S) (h2 : d__law_draw [.none, .int 100] S = .ok (.int i) S1) (e : 1 + i = j) : c3 [x0, x1, x2, (some SH), x4, x5, x6, x7, x8, x9, x10, x11, x12, x13, x14, x15, x16, x17, x18] S = .nx [x0, x1, x2, (some SH), x4, x5, x6, (some F), (some (.int j)), x9, x10, x11, x12, x13, x14, x15, x16, x17, x18] S1 := by
  unfold c3
  simp [h1, h2, e, setAll]
theorem k4 {SH F T : PyData} {xs : List PyData} {j : Int} (h1 : d_fillings [SH, .int j] S = .ok (.tuple xs) S) (h2 : fSl F none (some j) = some T) (h3 : fTuple T = some (.tuple xs)) (h4 : fNe (.tuple xs) (.tuple xs) = some (.bool false)) : c4 [x0, x1, x2, (some SH), x4, x5, x6, (some F), (some (.int j)), x9, x10, x11, x12, x13, x14, x15, x16, x17, x18] S = .nx [x0, x1, x2, (some SH), x4, x5, x6, (some F), (some (.int j)), x9, x10, x11, x12, x13, x14, x15, x16, x17, x18] S := by
  unfold c4
  simp [h1, h2, h3, h4]
theorem k5   : c5 [x0, x1, x2, x3, x4, x5, x6, x7, x8, x9, x10, x11, x12, x13, x14, x15, x16, x17, x18] S = .nx [x0, x1, x2, x3, x4, x5, x6, x7, x8, (some (.dict [])), x10, x11, x12, x13, x14, x15, x16, x17, x18] S := by
  unfold c5
  simp
theorem k6 {W : PyData} {nn : Int} {ρ : PD.Env} (i0 : fIx W (.int 0) = some (.int nn)) (q1 : cR nn = true) (q2 : sz nn.toNat = true) (h : forL (.nm 10) f6 (rngD 0 nn.toNat) [x0, x1, x2, x3, (some W), x5, x6, x7, x8, x9, x10, x11, x12, x13, x14, x15, x16, x17, x18] S = .nx ρ S) : c6 [x0, x1, x2, x3, (some W), x5, x6, x7, x8, x9, x10, x11, x12, x13, x14, x15, x16, x17, x18] S = .nx ρ S := by
  unfold c6
  generalize f6 = bd at *
  simp [i0, q1, q2, h]
theorem k7 {SH D : PyData} (h : d_sure_places [SH] S = .ok D S) (hn : fNeG D D = some (.bool false)) : c7 [x0, x1, x2, (some SH), x4, x5, x6, x7, x8, (some D), x10, x11, x12, x13, x14, x15, x16, x17, x18] S = .nx [x0, x1, x2, (some SH), x4, x5, x6, x7, x8, (some D), x10, x11, x12, x13, x14, x15, x16, x17, x18] S := by
  unfold c7
  simp [h, hn]
theorem k8 {SH : PyData} {ss : List PyData} {ρ : PD.Env} (h1 : d__law_strokes [SH] S = .ok (.list ss) S) (h : forL (.tup [10, 13]) f8 ss [x0, x1, x2, (some SH), x4, x5, x6, x7, x8, x9, x10, x11, x12, x13, x14, x15, x16, x17, x18] S = .nx ρ S) : c8 [x0, x1, x2, (some SH), x4, x5, x6, x7, x8, x9, x10, x11, x12, x13, x14, x15, x16, x17, x18] S = .nx ρ S := by
  have h3 : seqD (.list ss) = some ss := rfl
  unfold c8
  generalize f8 = bd at *
  simp [h1, h3, h]
theorem k9 {bad off : PyData} (h1 : d__law_no_sheet [.none] S = .ok bad S1) (h2 : d__law_any [.none, .list offL] S1 = .ok off S2) : c9 [x0, x1, x2, x3, x4, x5, x6, x7, x8, x9, x10, x11, x12, x13, x14, x15, x16, x17, x18] S = .nx [x0, x1, x2, x3, x4, x5, x6, x7, x8, x9, x10, x11, x12, x13, (some bad), (some off), x16, x17, x18] S2 := by
  have h2 : d__law_any [.none, .list [.none, .int 0, .int 101, .bool true, .str "1"]] S1 = .ok off S2 := h2
  unfold c9
  simp [h1, h2, setAll, sz_small]
theorem k10 {W N odd : PyData} (i0 : fIx W (.int 0) = some N) (h2 : d__law_any [.none, .list [.none, N, .int (-1), .bool true, .str "0"]] S = .ok odd S1) : c10 [x0, x1, x2, x3, (some W), x5, x6, x7, x8, x9, x10, x11, x12, x13, x14, x15, x16, x17, x18] S = .nx [x0, x1, x2, x3, (some W), x5, x6, x7, x8, x9, x10, x11, x12, x13, x14, x15, (some odd), x17, x18] S1 := by
  have hm : fNeg (.int 1) = some (.int (-1)) := rfl
  unfold c10
  simp [i0, h2, hm, sz_small]
theorem ok_sheet : PyData.strOk (Str.ofString "sheet") = true := by decide +kernel
theorem ok_number : PyData.strOk (Str.ofString "number") = true := by decide +kernel
theorem ok_place : PyData.strOk (Str.ofString "place") = true := by decide +kernel
theorem ne_words : fNe (.list [.str "sheet", .str "number", .str "sheet", .str "place", .str "sheet"]) (.list [.str "sheet", .str "number", .str "sheet", .str "place", .str "sheet"]) = some (.bool false) := ne_self (n := 1) (sh_lst fun x hx => by
  simp only [List.mem_cons, List.not_mem_nil, or_false] at hx
  rcases hx with rfl | rfl | rfl | rfl | rfl <;> first | exact sh_str ok_sheet | exact sh_str ok_number | exact sh_str ok_place)
theorem k11 {SH bad off odd : PyData} (b1 : d_fillings [bad, off] S = .exc noSheet S) (b2 : d_fillings [SH, off] S = .exc noNumber S) (b3 : d_is_sure [bad, odd] S = .exc noSheet S) (b4 : d_is_sure [SH, odd] S = .exc noPlace S) (b5 : d_sure_places [bad] S = .exc noSheet S) : (dSeq c11 (dSeq c12 (dSeq c13 (dSeq c14 (dSeq c15 c16))))) [x0, x1, x2, (some SH), x4, x5, x6, x7, x8, x9, x10, x11, x12, x13, (some bad), (some off), (some odd), x17, x18] S = .nx [x0, x1, x2, (some SH), x4, x5, x6, x7, x8, x9, x10, x11, x12, x13, (some bad), (some off), (some odd), (some (.list [.str "sheet", .str "number", .str "sheet", .str "place", .str "sheet"])), x18] S := by
  have w1 : ∀ x17, dLam 5 bl__law_word (dCall d_fillings (dCons (dVar 14) (dCons (dVar 15) (dNil)))) [x0, x1, x2, (some SH), x4, x5, x6, x7, x8, x9, x10, x11, x12, x13, (some bad), (some off), (some odd), x17, x18] S = .ok (.str "sheet") S := fun x17 => word_sheet (by simp [b1])
  have w2 : ∀ x17, dLam 5 bl__law_word (dCall d_fillings (dCons (dVar 3) (dCons (dVar 15) (dNil)))) [x0, x1, x2, (some SH), x4, x5, x6, x7, x8, x9, x10, x11, x12, x13, (some bad), (some off), (some odd), x17, x18] S = .ok (.str "number") S := fun x17 => word_number (by simp [b2])
  have w3 : ∀ x17, dLam 5 bl__law_word (dCall d_is_sure (dCons (dVar 14) (dCons (dVar 16) (dNil)))) [x0, x1, x2, (some SH), x4, x5, x6, x7, x8, x9, x10, x11, x12, x13, (some bad), (some off), (some odd), x17, x18] S = .ok (.str "sheet") S := fun x17 => word_sheet (by simp [b3])
  have w4 : ∀ x17, dLam 5 bl__law_word (dCall d_is_sure (dCons (dVar 3) (dCons (dVar 16) (dNil)))) [x0, x1, x2, (some SH), x4, x5, x6, x7, x8, x9, x10, x11, x12, x13, (some bad), (some off), (some odd), x17, x18] S = .ok (.str "place") S := fun x17 => word_place (by simp [b4])
  have w5 : ∀ x17, dLam 5 bl__law_word (dCall d_sure_places (dCons (dVar 14) (dNil))) [x0, x1, x2, (some SH), x4, x5, x6, x7, x8, x9, x10, x11, x12, x13, (some bad), (some off), (some odd), x17, x18] S = .ok (.str "sheet") S := fun x17 => word_sheet (by simp [b5])
  have ap : ∀ (xs : List PyData) (d : PyData), xs.length < 100 → fApp xs d = some (.list (xs ++ [d])) := fun xs d h => fApp_ok (by omega)
  unfold c11 c12 c13 c14 c15 c16
  simp [w1, w2, w3, w4, w5, onLst, putO, ap, ne_words, sz_small]
end
end K85
namespace K85
open PySem PySem.Spec PyProof.Rows L2 PD
theorem eqS_same {z : Str} : fEq (.str z) (.str z) = some (.bool true) := by
  show some (PyData.bool (decide (z = z))) = _
  rw [decide_eq_true rfl]
theorem eq_none_sure : fEq (.str "none") (.str "sure") = some (.bool false) := by
  show some (PyData.bool (decide (Str.ofString "none" = Str.ofString "sure"))) = _
  rw [decide_eq_false (by decide +kernel)]
theorem eq_open_sure : fEq (.str "open") (.str "sure") = some (.bool false) := by
  show some (PyData.bool (decide (Str.ofString "open" = Str.ofString "sure"))) = _
  rw [decide_eq_false (by decide +kernel)]
theorem sOk_none : PyData.strOk (Str.ofString "none") = true := by decide +kernel
theorem sOk_sure : PyData.strOk (Str.ofString "sure") = true := by decide +kernel
theorem sOk_open : PyData.strOk (Str.ofString "open") = true := by decide +kernel
theorem ne_due (cs : List Nat) : fNe (dueD cs) (dueD cs) = some (.bool false) := by
  match cs with
  | [] => exact ne_self (n := 1) (sh_tup fun x hx => by rw [List.mem_singleton.mp hx]; exact sh_str sOk_none)
  | [a] =>
    exact ne_self (n := 1) (sh_tup fun x hx => by
      simp only [List.mem_cons, List.not_mem_nil, or_false] at hx
      rcases hx with rfl | rfl
      · exact sh_str sOk_sure
      · exact sh_int)
  | a :: b :: t =>
    exact ne_self (n := 1) (sh_tup fun x hx => by
      simp only [List.mem_cons, List.not_mem_nil, or_false] at hx
      rcases hx with rfl | rfl | rfl
      · exact sh_str sOk_open
      · exact sh_int
      · exact sh_int)
section
variable {x0 x1 x2 x3 x4 x5 x6 x7 x8 x9 x10 x11 x12 x13 x14 x15 x16 x17 x18 : Option PyData} {S : Store} {n k : Nat} {ts : List Tie} {p : Paint}
def tp : DE := (dTup (dCons (d2 fIx (dVar 18) (dVar 10)) (dCons (dC (.bool true)) (dNil))))
theorem f6_step {SH PD V C d D' : PyData} {rows xs : List PyData} {D : List (PyData × PyData)} {cs : List Nat} {b1 : Bool} (hc : compL (.nm 18) dYes tp [x0, x1, x2, (some SH), x4, x5, (some PD), (some (.list rows)), x8, (some (.dict D)), (some V), x11, x12, x13, x14, x15, x16, x17, x18] [] rows S = .ok (.list xs) S) (h1 : fDict (.list xs) = some d) (h2 : fSortX d = some (lD cs)) (h3 : d_is_sure [SH, V] S = .ok (dueD cs) S) (hP : fIx PD V = some C) (hC : fIsN false C .none = some (.bool b1)) (hp : fPutD D V (natD (cs.headD 0)) = some D') :
    f6 [x0, x1, x2, (some SH), x4, x5, (some PD), (some (.list rows)), x8, (some (.dict D)), (some V), x11, x12, x13, x14, x15, x16, x17, x18] S = .nx [x0, x1, x2, (some SH), x4, x5, (some PD), (some (.list rows)), x8, (some (if b1 = true ∧ cs.length = 1 then D' else .dict D)), (some V), (some (lD cs)), (some (dueD cs)), x13, x14, x15, x16, x17, x18] S := by
  have hs : seqD (.list rows) = some rows := rfl
  have hd : ∀ ρ S, dSetD 9 (dVar 10) (d2 fIx (dVar 11) (dC (.int 0))) ρ S = onDic ρ 9 fun xs => ((d2 fIx (dVar 11) (dC (.int 0))) ρ S).st ρ fun d S1 => ((dVar 10) ρ S1).st ρ fun j S2 => putO ρ 9 (fPutD xs j d) S2 := fun _ _ => rfl
  have hn := ne_due cs
  unfold f6
  change dSeq (dSet 11 (d1 fSortX (d1 fDict (dComp (dIt seqD (dVar 7)) (.nm 18) (dYes) tp)))) _ _ _ = _
  generalize tp = tq at *
  match cs, h2, h3, hp, hn with
  | [], h2, h3, hp, hn =>
    have h2 : fSortX d = some (.list []) := h2
    have h3 : d_is_sure [SH, V] S = .ok (.tuple [.str "none"]) S := h3
    have hn : fNe (.tuple [.str "none"]) (.tuple [.str "none"]) = some (.bool false) := hn
    have e1 : fNe (.list []) (.list []) = some (.bool false) := rfl
    have e0 : fIx (.tuple [.str "none"]) (.int 0) = some (.str "none") := ixT_0
    have q : lD [] = .list [] := rfl
    have q2 : dueD [] = .tuple [.str "none"] := rfl
    simp [hs, hc, h1, h2, h3, hn, e1, e0, eq_none_sure, sz_small, q, q2]
  | [a], h2, h3, hp, hn =>
    have h2 : fSortX d = some (.list [natD a]) := h2
    have h3 : d_is_sure [SH, V] S = .ok (.tuple [.str "sure", natD a]) S := h3
    have hn : fNe (.tuple [.str "sure", natD a]) (.tuple [.str "sure", natD a]) = some (.bool false) := hn
    have e1 : fNe (.list [natD a]) (.list []) = some (.bool true) := ne_nil (xs := [natD a]) (n := 1) (sh_lst fun x hx => by rw [List.mem_singleton.mp hx]; exact sh_int)
    have e0 : fIx (.list [natD a]) (.int 0) = some (natD a) := ixL_0
    have e2 : fIx (.tuple [.str "sure", natD a]) (.int 0) = some (.str "sure") := ixT_0
    have q : lD [a] = .list [natD a] := rfl
    have q2 : dueD [a] = .tuple [.str "sure", natD a] := rfl
    have hp : fPutD D V (natD a) = some D' := hp
    rw [q, q2]
    generalize natD a = A at *
    cases b1 <;> simp [hs, hc, h1, h2, h3, hn, e1, e0, e2, eqS_same, sz_small, hP, hC, hd, onDic, putO, hp]
  | a :: a2 :: t, h2, h3, hp, hn =>
    have h2 : fSortX d = some (.list (natD a :: natD a2 :: t.map natD)) := h2
    have h3 : d_is_sure [SH, V] S = .ok (.tuple [.str "open", natD a, natD a2]) S := h3
    have hn : fNe (.tuple [.str "open", natD a, natD a2]) (.tuple [.str "open", natD a, natD a2]) = some (.bool false) := hn
    have e1 : fNe (.list (natD a :: natD a2 :: t.map natD)) (.list []) = some (.bool true) := ne_nil (xs := natD a :: natD a2 :: t.map natD) (n := 1) (sh_lst (sh_map (f := natD) (l := a :: a2 :: t) fun _ => sh_int))
    have e0 : fIx (.list (natD a :: natD a2 :: t.map natD)) (.int 0) = some (natD a) := ixL_0
    have e3 : fIx (.list (natD a :: natD a2 :: t.map natD)) (.int 1) = some (natD a2) := ix_nat (i := 1) rfl
    have e2 : fIx (.tuple [.str "open", natD a, natD a2]) (.int 0) = some (.str "open") := ixT_0
    have q : lD (a :: a2 :: t) = .list (natD a :: natD a2 :: t.map natD) := rfl
    have q2 : dueD (a :: a2 :: t) = .tuple [.str "open", natD a, natD a2] := rfl
    have n1 : ¬ (((t.map natD).length : Int) + 1 + 1 = 1) := by omega
    rw [q, q2]
    generalize t.map natD = tt at *
    generalize natD a = A at *
    generalize natD a2 = A2 at *
    simp [hs, hc, h1, h2, h3, hn, e1, e0, e2, e3, eq_open_sure, sz_small, n1]
end
end K85
namespace K85
open PySem PySem.Spec PyProof.Rows L2 PD
theorem find_sure : ∀ {L : List (Nat × Nat)} {a : Nat × Nat}, (L.Pairwise fun a b => a.1 < b.1) → a ∈ L → L.find? (fun b => decide (b.1 = a.1)) = some a
  | b :: L, a, h, hm => by
    obtain ⟨h1, h2⟩ := List.pairwise_cons.mp h
    rcases List.mem_cons.mp hm with rfl | hm
    · rw [List.find?_cons_of_pos (by simp)]
    · have := h1 a hm
      rw [List.find?_cons_of_neg (by simp; omega)]
      exact find_sure h2 hm
theorem same_self {L : List (Nat × Nat)} (h : L.Pairwise fun a b => a.1 < b.1) : sameD (sD L) (sD L) = true := by
  unfold sameD
  rw [sD_keys, decide_eq_true rfl]
  simp only [Bool.and_self, Bool.true_and]
  rw [List.all_eq_true]
  intro q hq
  obtain ⟨a, ha, rfl⟩ := List.mem_map.mp hq
  have e : keyO (natD a.1) = some (.inl (a.1 : Int)) := rfl
  simp only [e, sD_get, find_sure h ha, Option.map_some]
  show decide ((a.2 : Int) = (a.2 : Int)) = true
  exact decide_eq_true rfl
theorem neG_self {L : List (Nat × Nat)} (h : L.Pairwise fun a b => a.1 < b.1) : fNeG (.dict (sD L)) (.dict (sD L)) = some (.bool false) := by
  have h0 : fNe (.dict (sD L)) (.dict (sD L)) = none := rfl
  unfold fNeG orF
  rw [h0]
  show (if sameD (sD L) (sD L) = true then some (PyData.bool false) else none) = _
  rw [same_self h, if_pos rfl]
theorem inG_ok (L : List (Nat × Nat)) (v : Nat) : fInG false (natD v) (.dict (sD L)) = some (.bool (L.find? fun a => decide (a.1 = v)).isSome) := by
  have h0 : fIn false (natD v) (.dict (sD L)) = none := rfl
  unfold fInG orF
  rw [h0]
  show (if keysK (sD L) = true then (keyO (natD v)).map (fun kk => PyData.bool (if false = true then !(getK (sD L) kk).isSome else (getK (sD L) kk).isSome)) else none) = _
  rw [sD_keys, if_pos rfl]
  show some (PyData.bool (getK (sD L) (.inl (v : Int))).isSome) = _
  rw [sD_get, Option.isSome_map]
theorem ixG_ok {L : List (Nat × Nat)} {v : Nat} {a : Nat × Nat} (h : (L.find? fun a => decide (a.1 = v)) = some a) : fIxG (.dict (sD L)) (natD v) = some (natD a.2) := by
  have h0 : fIx (.dict (sD L)) (natD v) = none := rfl
  unfold fIxG orF
  rw [h0]
  show (if keysK (sD L) = true then (keyO (natD v)).bind (getK (sD L)) else none) = _
  rw [sD_keys, if_pos rfl]
  show getK (sD L) (.inl (v : Int)) = _
  rw [sD_get, h]
  rfl
theorem ne_nats (a b : Nat) : fNe (natD a) (natD b) = some (.bool (!decide (a = b))) := by
  show some (PyData.bool (!decide ((a : Int) = (b : Int)))) = _
  congr 3
  rw [decide_eq_decide]
  omega
section
variable {x0 x1 x2 x3 x4 x5 x6 x7 x8 x9 x10 x11 x12 x13 x14 x15 x16 x17 x18 : Option PyData} {S : Store} {n k : Nat} {ts : List Tie} {p : Paint}
theorem f6_loop (s : SheetOk n ts k p) : ∃ o10 o11 o12, forL (.nm 10) f6 (rngD 0 (n : Int).toNat) [x0, x1, x2, (some (sheetD n ts k p)), x4, x5, (some (paintD p)), (some (.list ((rowsOf ts k n p).map rowD))), x8, (some (.dict [])), x10, x11, x12, x13, x14, x15, x16, x17, x18] S = .nx [x0, x1, x2, (some (sheetD n ts k p)), x4, x5, (some (paintD p)), (some (.list ((rowsOf ts k n p).map rowD))), x8, (some (.dict (sD (sureN p (rowsOf ts k n p) n)))), o10, o11, o12, x13, x14, x15, x16, x17, x18] S := by
  have hn := s.w.hi
  obtain ⟨ρ', S', q, rfl, o10, o11, o12, rfl⟩ := for_n (t := .nm 10) (body := f6) (I := fun j ρ S' => S' = S ∧ ∃ o10 o11 o12 : Option PyData, ρ = [x0, x1, x2, (some (sheetD n ts k p)), x4, x5, (some (paintD p)), (some (.list ((rowsOf ts k n p).map rowD))), x8, (some (.dict (sD (sureN p (rowsOf ts k n p) j)))), o10, o11, o12, x13, x14, x15, x16, x17, x18]) (ds := rngD 0 (n : Int).toNat) (k := 0) (ρ := [x0, x1, x2, (some (sheetD n ts k p)), x4, x5, (some (paintD p)), (some (.list ((rowsOf ts k n p).map rowD))), x8, (some (.dict [])), x10, x11, x12, x13, x14, x15, x16, x17, x18]) (S := S) ⟨rfl, x10, x11, x12, rfl⟩ (by
    rintro j d hd ρ S' ⟨rfl, o10, o11, o12, rfl⟩
    obtain ⟨rfl, hj⟩ := rngD_get hd
    rw [Int.toNat_natCast] at hj
    rw [Nat.zero_add] at *
    rw [show (0 : Int) + (j : Int) = (j : Int) by omega]
    have hlen := sureN_len (p := p) (R := rowsOf ts k n p) j
    obtain ⟨dd, h1, h2⟩ := told_ok (R := rowsOf ts k n p) (v := j) s.k4 fun r hr => (rows_facts s hr).2 j hj
    have hP : fIx (paintD p) (natD j) = some (colD (colAt p j)) := ixT (paint_get (by rw [s.len]; exact hj))
    have hs := f6_step (x0 := x0) (x1 := x1) (x2 := x2) (x4 := x4) (x5 := x5) (x8 := x8) (x11 := o11) (x12 := o12) (x13 := x13) (x14 := x14) (x15 := x15) (x16 := x16) (x17 := x17) (x18 := x18) (told_comp (n := 0) (by simp) rfl (by decide) fun r hr => by rw [(rows_facts s hr).1]; exact hj) h1 h2 (is_sure_ok s hj S') hP (isN_col (a := colAt p j)) (sD_put (L := sureN p (rowsOf ts k n p) j) (c := (colsL (rowsOf ts k n p) j).headD 0) (fun a ha => by have := (sureN_mem ha).1; omega) (by omega))
    refine ⟨_, rfl, _, S', hs, rfl, some (natD j), some (lD (colsL (rowsOf ts k n p) j)), some (dueD (colsL (rowsOf ts k n p) j)), ?_⟩
    have e : (if decide (colAt p j = none) = true ∧ (colsL (rowsOf ts k n p) j).length = 1 then PyData.dict (sD (sureN p (rowsOf ts k n p) j ++ [(j, (colsL (rowsOf ts k n p) j).headD 0)])) else .dict (sD (sureN p (rowsOf ts k n p) j))) = .dict (sD (sureN p (rowsOf ts k n p) (j + 1))) := by
      rw [sureN]
      by_cases h : colAt p j = none ∧ (colsL (rowsOf ts k n p) j).length = 1
      · rw [if_pos h, if_pos ⟨decide_eq_true h.1, h.2⟩]
      · rw [if_neg h, if_neg (fun h' => h ⟨of_decide_eq_true h'.1, h'.2⟩)]
    rw [e])
  have hlen : 0 + (rngD 0 (n : Int).toNat).length = n := by rw [rngD_len, Int.toNat_natCast]; omega
  rw [hlen] at q
  exact ⟨o10, o11, o12, q⟩
theorem f8_no {SH D V C : PyData} (h : fInG false V D = some (.bool false)) : f8 [x0, x1, x2, (some SH), x4, x5, x6, x7, x8, (some D), (some V), x11, x12, (some C), x14, x15, x16, x17, x18] S = .nx [x0, x1, x2, (some SH), x4, x5, x6, x7, x8, (some D), (some V), x11, x12, (some C), x14, x15, x16, x17, x18] S := by
  unfold f8
  simp [h]
theorem f8_same {SH D V C C0 : PyData} (h : fInG false V D = some (.bool true)) (h0 : fIxG D V = some C0) (h1 : fNe C C0 = some (.bool false)) : f8 [x0, x1, x2, (some SH), x4, x5, x6, x7, x8, (some D), (some V), x11, x12, (some C), x14, x15, x16, x17, x18] S = .nx [x0, x1, x2, (some SH), x4, x5, x6, x7, x8, (some D), (some V), x11, x12, (some C), x14, x15, x16, x17, x18] S := by
  unfold f8
  simp [h, h0, h1]
theorem f8_other {SH D V C C0 SH2 : PyData} (h : fInG false V D = some (.bool true)) (h0 : fIxG D V = some C0) (h1 : fNe C C0 = some (.bool true)) (h2 : d__law_stroked [SH, V, C] S = .ok SH2 S) (h3 : d_fillings [SH2, .int 1] S = .ok (.tuple []) S) : f8 [x0, x1, x2, (some SH), x4, x5, x6, x7, x8, (some D), (some V), x11, x12, (some C), x14, x15, x16, x17, x18] S = .nx [x0, x1, x2, (some SH), x4, x5, x6, x7, x8, (some D), (some V), x11, x12, (some C), x14, x15, x16, x17, x18] S := by
  have h4 : fNe (.tuple []) (.tuple []) = some (.bool false) := rfl
  unfold f8
  simp [h, h0, h1, h2, h3, h4, sz_small]
theorem f8_turn (s : SheetOk n ts k p) {a : Nat × Nat} (ha : a ∈ strokesOf ts k p) : f8 [x0, x1, x2, (some (sheetD n ts k p)), x4, x5, x6, x7, x8, (some (.dict (sD (sureN p (rowsOf ts k n p) n)))), (some (natD a.1)), x11, x12, (some (natD a.2)), x14, x15, x16, x17, x18] S = .nx [x0, x1, x2, (some (sheetD n ts k p)), x4, x5, x6, x7, x8, (some (.dict (sD (sureN p (rowsOf ts k n p) n)))), (some (natD a.1)), x11, x12, (some (natD a.2)), x14, x15, x16, x17, x18] S := by
  have hn := s.w.hi
  obtain ⟨v, hv, hat⟩ := List.mem_flatMap.mp ha
  have hv := List.mem_range.mp hv
  unfold strokesAt at hat
  split at hat
  · rename_i hbare
    obtain ⟨c, hc, rfl⟩ := List.mem_map.mp hat
    have hvn : v < n := by rw [← s.len]; exact hv
    have hin := inG_ok (sureN p (rowsOf ts k n p) n) v
    cases hf : (sureN p (rowsOf ts k n p) n).find? fun a => decide (a.1 = v) with
    | none =>
      rw [hf] at hin
      exact f8_no hin
    | some b =>
      rw [hf] at hin
      have hix := ixG_ok hf
      have hbm := sureN_mem (List.mem_of_find?_eq_some hf)
      have hbv : b.1 = v := by
        have := List.find?_some hf
        exact of_decide_eq_true this
      have hne := ne_nats c b.2
      by_cases e : c = b.2
      · rw [decide_eq_true e] at hne
        exact f8_same hin hix hne
      · rw [decide_eq_false e] at hne
        have s' := s.paint hvn hc
        have h2 := stroked_ok (n := n) (ts := ts) (k := k) (p := p) (v := v) (c := c) hv (by rw [s.len]; omega) S
        have h3 := fillings_ok s' (m := 1) (by decide) (by decide) S
        have hall : allF ts k (p.set v (some c)) = [] := by
          rw [List.eq_nil_iff_forall_not_mem]
          intro x hx
          have hs := (mem_allF _ _ rfl s' x).mp hx
          obtain ⟨hs, hcx⟩ := (sol_set hv hbare).mp hs
          have hm := (mem_allF _ _ rfl s x).mpr hs
          rw [allF_rows s] at hm
          obtain ⟨r, hr, rfl⟩ := List.mem_map.mp hm
          have hrl := rows_member_len (List.mem_filter.mp hr).1
          rw [row_at (by omega)] at hcx
          have hcm : c ∈ colsL (rowsOf ts k n p) b.1 := cols_mem.mpr ⟨r, hr, by rw [hbv]; exact Option.some.inj hcx⟩
          rw [hbm.2.2, List.mem_singleton] at hcm
          exact e hcm
        rw [hall] at h3
        exact f8_other hin hix hne h2 h3
  · cases hat
theorem f8_loop (s : SheetOk n ts k p) : ∃ o10 o13, forL (.tup [10, 13]) f8 ((strokesOf ts k p).map tieD) [x0, x1, x2, (some (sheetD n ts k p)), x4, x5, x6, x7, x8, (some (.dict (sD (sureN p (rowsOf ts k n p) n)))), x10, x11, x12, x13, x14, x15, x16, x17, x18] S = .nx [x0, x1, x2, (some (sheetD n ts k p)), x4, x5, x6, x7, x8, (some (.dict (sD (sureN p (rowsOf ts k n p) n)))), o10, x11, x12, o13, x14, x15, x16, x17, x18] S := by
  obtain ⟨ρ', S', q, rfl, o10, o13, rfl⟩ := for_inv (t := .tup [10, 13]) (body := f8) (I := fun ρ S' => S' = S ∧ ∃ o10 o13 : Option PyData, ρ = [x0, x1, x2, (some (sheetD n ts k p)), x4, x5, x6, x7, x8, (some (.dict (sD (sureN p (rowsOf ts k n p) n)))), o10, x11, x12, o13, x14, x15, x16, x17, x18]) (ds := (strokesOf ts k p).map tieD) (ρ := [x0, x1, x2, (some (sheetD n ts k p)), x4, x5, x6, x7, x8, (some (.dict (sD (sureN p (rowsOf ts k n p) n)))), x10, x11, x12, x13, x14, x15, x16, x17, x18]) (S := S) ⟨rfl, x10, x13, rfl⟩ (by
    rintro d hd ρ S' ⟨rfl, o10, o13, rfl⟩
    obtain ⟨a, ha, rfl⟩ := List.mem_map.mp hd
    exact ⟨_, rfl, _, S', f8_turn s ha, rfl, _, _, rfl⟩)
  exact ⟨o10, o13, q⟩
end
theorem sq {a b : DS} {ρ ρ1 : PD.Env} {S S1 : Store} {z : PD.RS} (h : a ρ S = .nx ρ1 S1) (h2 : b ρ1 S1 = z) : dSeq a b ρ S = z := by
  rw [ap_seq, h, RS.bind_nx, h2]
section
variable {x0 x1 x2 x3 x4 x5 x6 x7 x8 x9 x10 x11 x12 x13 x14 x15 x16 x17 x18 : Option PyData} {S : Store}
theorem turn_ok (hS : TapeOk S) : ∃ (ρ : PD.Env) (S' : Store), tbody [x0, (some .none), x2, x3, x4, x5, x6, x7, x8, x9, x10, x11, x12, x13, x14, x15, x16, x17, x18] S = .nx ρ S' ∧ TapeOk S' ∧ ∃ y2 y3 y4 y5 y6 y7 y8 y9 y10 y11 y12 y13 y14 y15 y16 y17 y18 : Option PyData, ρ = [x0, some .none, y2, y3, y4, y5, y6, y7, y8, y9, y10, y11, y12, y13, y14, y15, y16, y17, y18] := by
  obtain ⟨n, ts, k, p, S1, e1, hS1, s⟩ := sheet_ok hS
  obtain ⟨i, S2, e2, hS2, i0, i1⟩ := draw_ok (n := 100) hS1 (by decide) (by decide)
  obtain ⟨m, hm⟩ : ∃ m : Nat, 1 + i = (m : Int) := ⟨(1 + i).toNat, by omega⟩
  obtain ⟨bad, S3, a3, hS3, hb⟩ := no_sheet_ok hS2
  obtain ⟨off, S4, a4, hS4, ho⟩ := off_ok hS3
  obtain ⟨odd, S5, a5, hS5, hod⟩ := odd_ok (n := n) hS4
  have hn := s.w.hi
  obtain ⟨o10, o11, o12, q6⟩ := f6_loop (S := S2) (x0 := x0) (x1 := (some .none)) (x2 := x2) (x4 := (some (webD n ts))) (x5 := (some (natD k))) (x8 := (some (.int (m : Int)))) (x10 := x10) (x11 := x11) (x12 := x12) (x13 := x13) (x14 := x14) (x15 := x15) (x16 := x16) (x17 := x17) (x18 := x18) s
  obtain ⟨o10b, o13, q8⟩ := f8_loop (S := S2) (x0 := x0) (x1 := (some .none)) (x2 := x2) (x4 := (some (webD n ts))) (x5 := (some (natD k))) (x6 := (some (paintD p))) (x7 := (some (.list ((rowsOf ts k n p).map rowD)))) (x8 := (some (.int (m : Int)))) (x10 := o10) (x11 := o11) (x12 := o12) (x13 := x13) (x14 := x14) (x15 := x15) (x16 := x16) (x17 := x17) (x18 := x18) s
  have hf := fillings_ok s (m := m) (by omega) (by omega) S2
  have ef : ((allF ts k p).take m).map paintD = ((rowsOf ts k n p).take m).map rowD := by
    rw [allF_rows s, ← List.map_take, List.map_map, show (paintD ∘ rowP) = rowD from funext paint_row]
    rfl
  rw [ef] at hf
  have hsl : fSl (.list ((rowsOf ts k n p).map rowD)) none (some (m : Int)) = some (.list (((rowsOf ts k n p).take m).map rowD)) := by
    rw [slL, cutA_take, List.map_take]
  have c1n : cR (n : Int) = true := cR_small (by omega) (by omega)
  have c2n : sz (n : Int).toNat = true := sz_small (by omega)
  have j0 : fIx (webD n ts) (.int 0) = some (natD n) := ixT_0
  refine ⟨[x0, (some .none), x2, (some (sheetD n ts k p)), (some (webD n ts)), (some (natD k)), (some (paintD p)), (some (.list ((rowsOf ts k n p).map rowD))), (some (.int (m : Int))), (some (.dict (sD (sureN p (rowsOf ts k n p) n)))), o10b, o11, o12, o13, (some bad), (some off), (some odd), (some (.list [.str "sheet", .str "number", .str "sheet", .str "place", .str "sheet"])), x18], S5, ?_, hS5, _, _, _, _, _, _, _, _, _, _, _, _, _, _, _, _, _,  rfl⟩
  unfold tbody
  refine sq (k1 e1) ?_
  refine sq (k2 (W := webD n ts) (K := natD k) (Q := paintD p)) ?_
  refine sq (k3 (law_fillings_ok s S1) e2 hm) ?_
  refine sq (k4 hf hsl rfl (ne_self (n := 2) (sh_tup (sh_map sh_row)))) ?_
  refine sq k5 ?_
  refine sq (k6 j0 c1n c2n q6) ?_
  refine sq (k7 (sure_places_ok s S2) (neG_self (sureN_up n))) ?_
  refine sq (k8 (law_strokes_ok s S2) q8) ?_
  refine sq (k9 a3 a4) ?_
  refine sq (k10 j0 a5) ?_
  exact k11 (fillings_bad hb S5) (fillings_off s ho S5) (is_sure_bad hb S5) (is_sure_off s hod S5) (places_bad hb S5)
end
theorem pure_ok : Pure := by
  intro ns hn _
  have e1 := hand_ok hn
  have hS0 := tape0 ns
  show ∃ S', (dAdopt 1 dt_law dr_law [some (.list (ns.map .int)), none, none, none, none, none, none, none, none, none, none, none, none, none, none, none, none, none, none] []).fin false = .ok (.bool true) S'
  have e2 : dAdopt 1 dt_law dr_law [some (.list (ns.map .int)), none, none, none, none, none, none, none, none, none, none, none, none, none, none, none, none, none, none] [] = dr_law [some (.list (ns.map .int)), some .none, none, none, none, none, none, none, none, none, none, none, none, none, none, none, none, none, none] [[PyData.list ((ns.map fun i => if i < 0 then -i else i).map .int), .int 0, .int 0, .int (61 + 7 * ns.length), .int 0]] := by
    unfold dAdopt dt_law
    simp [e1, adL]
  rw [e2, dr_eq]
  generalize [[PyData.list ((ns.map fun i => if i < 0 then -i else i).map .int), .int 0, .int 0, .int (61 + 7 * ns.length), .int 0]] = S at hS0
  generalize PyData.list (ns.map .int) = sc
  obtain ⟨ρ', S', q, hS', y2, y3, y4, y5, y6, y7, y8, y9, y10, y11, y12, y13, y14, y15, y16, y17, y18, rfl⟩ := for_inv (t := .nm 2) (body := tbody) (I := fun ρ S' => TapeOk S' ∧ ∃ y2 y3 y4 y5 y6 y7 y8 y9 y10 y11 y12 y13 y14 y15 y16 y17 y18 : Option PyData, ρ = [some sc, some .none, y2, y3, y4, y5, y6, y7, y8, y9, y10, y11, y12, y13, y14, y15, y16, y17, y18]) (ds := rngD 0 3) (ρ := [some sc, some .none, none, none, none, none, none, none, none, none, none, none, none, none, none, none, none, none, none]) (S := S) ⟨hS0, _, _, _, _, _, _, _, _, _, _, _, _, _, _, _, _, _,  rfl⟩ (by
    rintro d hd ρ S' ⟨hS, y2, y3, y4, y5, y6, y7, y8, y9, y10, y11, y12, y13, y14, y15, y16, y17, y18, rfl⟩
    obtain ⟨ρ, S2, h1, h2, h3⟩ := turn_ok (x0 := some sc) (x2 := some d) (x3 := y3) (x4 := y4) (x5 := y5) (x6 := y6) (x7 := y7) (x8 := y8) (x9 := y9) (x10 := y10) (x11 := y11) (x12 := y12) (x13 := y13) (x14 := y14) (x15 := y15) (x16 := y16) (x17 := y17) (x18 := y18) hS
    exact ⟨_, rfl, _, S2, h1, h2, h3⟩)
  have c1 : cR 3 = true := cR_small (by decide) (by decide)
  refine ⟨S', ?_⟩
  generalize tbody = tb at *
  simp [c1, sz_small, q, PD.RS.fin]
end K85
namespace K85
open PySem PySem.Spec PyProof.Rows L2 LamX PD
theorem all_mk {w : World} {K : PySem.W.Frag} {h : Heap} {mg : Str → Option Value} {fa : Addr} {ts : List Addr} (hp : Pure) (X : K.In h) (G : h.Ns mainGlobals mg) (hfa : mg "law" = some (.ref fa)) (tt : ∀ P ∈ ts, h.get? P = some (PySem.W.tabObj #[]))
    {Ais_integer : Addr} {odis_integer anis_integer : Option Addr} {slis_integer : Array (Option Value)} {ocis_integer kVis_integer dcis_integer pmis_integer ctis_integer : Value} {cdis_integer : Value} {Ais_sized : Addr} {odis_sized anis_sized : Option Addr} {slis_sized : Array (Option Value)} {ocis_sized kVis_sized dcis_sized pmis_sized ctis_sized : Value} {cdis_sized : Value} {Atied_to : Addr} {odtied_to antied_to : Option Addr} {sltied_to : Array (Option Value)} {octied_to kVtied_to dctied_to pmtied_to cttied_to : Value} {cdtied_to : Value} {Apainted : Addr} {odpainted anpainted : Option Addr} {slpainted : Array (Option Value)} {ocpainted kVpainted dcpainted pmpainted ctpainted : Value} {cdpainted : Value} {Acolours_at : Addr} {odcolours_at ancolours_at : Option Addr} {slcolours_at : Array (Option Value)} {occolours_at kVcolours_at dccolours_at pmcolours_at ctcolours_at : Value} {cdcolours_at : Value} {A_law_hand : Addr} {od_law_hand an_law_hand : Option Addr} {sl_law_hand : Array (Option Value)} {oc_law_hand kV_law_hand dc_law_hand pm_law_hand ct_law_hand : Value} {cd_law_hand : Value} {A_law_draw : Addr} {od_law_draw an_law_draw : Option Addr} {sl_law_draw : Array (Option Value)} {oc_law_draw kV_law_draw dc_law_draw pm_law_draw ct_law_draw : Value} {cd_law_draw : Value} {A_law_near : Addr} {od_law_near an_law_near : Option Addr} {sl_law_near : Array (Option Value)} {oc_law_near kV_law_near dc_law_near pm_law_near ct_law_near : Value} {cd_law_near : Value} {A_law_stroked : Addr} {od_law_stroked an_law_stroked : Option Addr} {sl_law_stroked : Array (Option Value)} {oc_law_stroked kV_law_stroked dc_law_stroked pm_law_stroked ct_law_stroked : Value} {cd_law_stroked : Value} {A_law_word : Addr} {od_law_word an_law_word : Option Addr} {sl_law_word : Array (Option Value)} {oc_law_word kV_law_word dc_law_word pm_law_word ct_law_word : Value} {cd_law_word : Value} {Ais_within : Addr} {odis_within anis_within : Option Addr} {slis_within : Array (Option Value)} {ocis_within kVis_within dcis_within pmis_within ctis_within : Value} {cdis_within : Value} {Astrokes_of : Addr} {odstrokes_of anstrokes_of : Option Addr} {slstrokes_of : Array (Option Value)} {ocstrokes_of kVstrokes_of dcstrokes_of pmstrokes_of ctstrokes_of : Value} {cdstrokes_of : Value} {A_law_any : Addr} {od_law_any an_law_any : Option Addr} {sl_law_any : Array (Option Value)} {oc_law_any kV_law_any dc_law_any pm_law_any ct_law_any : Value} {cd_law_any : Value} {A_law_web : Addr} {od_law_web an_law_web : Option Addr} {sl_law_web : Array (Option Value)} {oc_law_web kV_law_web dc_law_web pm_law_web ct_law_web : Value} {cd_law_web : Value} {A_law_paintings : Addr} {od_law_paintings an_law_paintings : Option Addr} {sl_law_paintings : Array (Option Value)} {oc_law_paintings kV_law_paintings dc_law_paintings pm_law_paintings ct_law_paintings : Value} {cd_law_paintings : Value} {A_law_strokes : Addr} {od_law_strokes an_law_strokes : Option Addr} {sl_law_strokes : Array (Option Value)} {oc_law_strokes kV_law_strokes dc_law_strokes pm_law_strokes ct_law_strokes : Value} {cd_law_strokes : Value} {Ais_lot : Addr} {odis_lot anis_lot : Option Addr} {slis_lot : Array (Option Value)} {ocis_lot kVis_lot dcis_lot pmis_lot ctis_lot : Value} {cdis_lot : Value} {Afilled : Addr} {odfilled anfilled : Option Addr} {slfilled : Array (Option Value)} {ocfilled kVfilled dcfilled pmfilled ctfilled : Value} {cdfilled : Value} {A_law_sheet : Addr} {od_law_sheet an_law_sheet : Option Addr} {sl_law_sheet : Array (Option Value)} {oc_law_sheet kV_law_sheet dc_law_sheet pm_law_sheet ct_law_sheet : Value} {cd_law_sheet : Value} {A_law_no_sheet : Addr} {od_law_no_sheet an_law_no_sheet : Option Addr} {sl_law_no_sheet : Array (Option Value)} {oc_law_no_sheet kV_law_no_sheet dc_law_no_sheet pm_law_no_sheet ct_law_no_sheet : Value} {cd_law_no_sheet : Value} {A_law_fillings : Addr} {od_law_fillings an_law_fillings : Option Addr} {sl_law_fillings : Array (Option Value)} {oc_law_fillings kV_law_fillings dc_law_fillings pm_law_fillings ct_law_fillings : Value} {cd_law_fillings : Value} {Aare_ties : Addr} {odare_ties anare_ties : Option Addr} {slare_ties : Array (Option Value)} {ocare_ties kVare_ties dcare_ties pmare_ties ctare_ties : Value} {cdare_ties : Value} {Ais_web : Addr} {odis_web anis_web : Option Addr} {slis_web : Array (Option Value)} {ocis_web kVis_web dcis_web pmis_web ctis_web : Value} {cdis_web : Value} {Ais_sheet : Addr} {odis_sheet anis_sheet : Option Addr} {slis_sheet : Array (Option Value)} {ocis_sheet kVis_sheet dcis_sheet pmis_sheet ctis_sheet : Value} {cdis_sheet : Value} {Acheck_sheet : Addr} {odcheck_sheet ancheck_sheet : Option Addr} {slcheck_sheet : Array (Option Value)} {occheck_sheet kVcheck_sheet dccheck_sheet pmcheck_sheet ctcheck_sheet : Value} {cdcheck_sheet : Value} {Afillings : Addr} {odfillings anfillings : Option Addr} {slfillings : Array (Option Value)} {ocfillings kVfillings dcfillings pmfillings ctfillings : Value} {cdfillings : Value} {Ais_sure : Addr} {odis_sure anis_sure : Option Addr} {slis_sure : Array (Option Value)} {ocis_sure kVis_sure dcis_sure pmis_sure ctis_sure : Value} {cdis_sure : Value} {Asure_places : Addr} {odsure_places ansure_places : Option Addr} {slsure_places : Array (Option Value)} {ocsure_places kVsure_places dcsure_places pmsure_places ctsure_places : Value} {cdsure_places : Value} {Alaw : Addr} {odlaw anlaw : Option Addr} {sllaw : Array (Option Value)} {oclaw kVlaw dclaw pmlaw ctlaw : Value} {calaw : Addr} {Plaw : Addr} {oolaw : Option Addr} {vslaw : Array Value} {oslaw : Array (Option Value)} {tkMOST_PLACES_webs : Tok} {tkMOST_PLACES_strokes : Tok} {tkMOST_COLOURS : Tok} {tkSURE : Tok} {tkOPEN : Tok} {tkNONE : Tok} {CColourError : Addr} {CNoNumber : Addr} {CNoPlace : Addr} {CNoSheet : Addr} {CTooMany : Addr}
    (a_is_integer : PySem.W.nsIn K mainGlobals "is_integer" = some (some (.ref Ais_integer)))
    (l_is_integer : K.lookup Ais_integer = some ⟨ocis_integer, odis_integer, .func (PySem.W.fnOf "is_integer" "is_integer" (defArgs (top 1)) (defBody (top 1)) (defScope (top 1)) .none kVis_integer dcis_integer pmis_integer anis_integer cdis_integer ctis_integer), slis_integer⟩)
    (c_is_integer : PySem.W.codeIn K cdis_integer "is_integer" = true)
    (k_is_integer : PySem.W.keepIn K (.ref Ais_integer) = true)
    (a_is_sized : PySem.W.nsIn K mainGlobals "is_sized" = some (some (.ref Ais_sized)))
    (l_is_sized : K.lookup Ais_sized = some ⟨ocis_sized, odis_sized, .func (PySem.W.fnOf "is_sized" "is_sized" (defArgs (top 3)) (defBody (top 3)) (defScope (top 3)) .none kVis_sized dcis_sized pmis_sized anis_sized cdis_sized ctis_sized), slis_sized⟩)
    (c_is_sized : PySem.W.codeIn K cdis_sized "is_sized" = true)
    (k_is_sized : PySem.W.keepIn K (.ref Ais_sized) = true)
    (a_tied_to : PySem.W.nsIn K mainGlobals "tied_to" = some (some (.ref Atied_to)))
    (l_tied_to : K.lookup Atied_to = some ⟨octied_to, odtied_to, .func (PySem.W.fnOf "tied_to" "tied_to" (defArgs (top 20)) (defBody (top 20)) (defScope (top 20)) .none kVtied_to dctied_to pmtied_to antied_to cdtied_to cttied_to), sltied_to⟩)
    (c_tied_to : PySem.W.codeIn K cdtied_to "tied_to" = true)
    (k_tied_to : PySem.W.keepIn K (.ref Atied_to) = true)
    (a_painted : PySem.W.nsIn K mainGlobals "painted" = some (some (.ref Apainted)))
    (l_painted : K.lookup Apainted = some ⟨ocpainted, odpainted, .func (PySem.W.fnOf "painted" "painted" (defArgs (top 22)) (defBody (top 22)) (defScope (top 22)) .none kVpainted dcpainted pmpainted anpainted cdpainted ctpainted), slpainted⟩)
    (c_painted : PySem.W.codeIn K cdpainted "painted" = true)
    (k_painted : PySem.W.keepIn K (.ref Apainted) = true)
    (a_colours_at : PySem.W.nsIn K mainGlobals "colours_at" = some (some (.ref Acolours_at)))
    (l_colours_at : K.lookup Acolours_at = some ⟨occolours_at, odcolours_at, .func (PySem.W.fnOf "colours_at" "colours_at" (defArgs (top 29)) (defBody (top 29)) (defScope (top 29)) .none kVcolours_at dccolours_at pmcolours_at ancolours_at cdcolours_at ctcolours_at), slcolours_at⟩)
    (c_colours_at : PySem.W.codeIn K cdcolours_at "colours_at" = true)
    (k_colours_at : PySem.W.keepIn K (.ref Acolours_at) = true)
    (a__law_hand : PySem.W.nsIn K mainGlobals "_law_hand" = some (some (.ref A_law_hand)))
    (l__law_hand : K.lookup A_law_hand = some ⟨oc_law_hand, od_law_hand, .func (PySem.W.fnOf "_law_hand" "_law_hand" (defArgs (top 33)) (defBody (top 33)) (defScope (top 33)) .none kV_law_hand dc_law_hand pm_law_hand an_law_hand cd_law_hand ct_law_hand), sl_law_hand⟩)
    (c__law_hand : PySem.W.codeIn K cd_law_hand "_law_hand" = true)
    (k__law_hand : PySem.W.keepIn K (.ref A_law_hand) = true)
    (a__law_draw : PySem.W.nsIn K mainGlobals "_law_draw" = some (some (.ref A_law_draw)))
    (l__law_draw : K.lookup A_law_draw = some ⟨oc_law_draw, od_law_draw, .func (PySem.W.fnOf "_law_draw" "_law_draw" (defArgs (top 34)) (defBody (top 34)) (defScope (top 34)) .none kV_law_draw dc_law_draw pm_law_draw an_law_draw cd_law_draw ct_law_draw), sl_law_draw⟩)
    (c__law_draw : PySem.W.codeIn K cd_law_draw "_law_draw" = true)
    (k__law_draw : PySem.W.keepIn K (.ref A_law_draw) = true)
    (a__law_near : PySem.W.nsIn K mainGlobals "_law_near" = some (some (.ref A_law_near)))
    (l__law_near : K.lookup A_law_near = some ⟨oc_law_near, od_law_near, .func (PySem.W.fnOf "_law_near" "_law_near" (defArgs (top 37)) (defBody (top 37)) (defScope (top 37)) .none kV_law_near dc_law_near pm_law_near an_law_near cd_law_near ct_law_near), sl_law_near⟩)
    (c__law_near : PySem.W.codeIn K cd_law_near "_law_near" = true)
    (k__law_near : PySem.W.keepIn K (.ref A_law_near) = true)
    (a__law_stroked : PySem.W.nsIn K mainGlobals "_law_stroked" = some (some (.ref A_law_stroked)))
    (l__law_stroked : K.lookup A_law_stroked = some ⟨oc_law_stroked, od_law_stroked, .func (PySem.W.fnOf "_law_stroked" "_law_stroked" (defArgs (top 41)) (defBody (top 41)) (defScope (top 41)) .none kV_law_stroked dc_law_stroked pm_law_stroked an_law_stroked cd_law_stroked ct_law_stroked), sl_law_stroked⟩)
    (c__law_stroked : PySem.W.codeIn K cd_law_stroked "_law_stroked" = true)
    (k__law_stroked : PySem.W.keepIn K (.ref A_law_stroked) = true)
    (a__law_word : PySem.W.nsIn K mainGlobals "_law_word" = some (some (.ref A_law_word)))
    (l__law_word : K.lookup A_law_word = some ⟨oc_law_word, od_law_word, .func (PySem.W.fnOf "_law_word" "_law_word" (defArgs (top 44)) (defBody (top 44)) (defScope (top 44)) .none kV_law_word dc_law_word pm_law_word an_law_word cd_law_word ct_law_word), sl_law_word⟩)
    (c__law_word : PySem.W.codeIn K cd_law_word "_law_word" = true)
    (k__law_word : PySem.W.keepIn K (.ref A_law_word) = true)
    (a_is_within : PySem.W.nsIn K mainGlobals "is_within" = some (some (.ref Ais_within)))
    (l_is_within : K.lookup Ais_within = some ⟨ocis_within, odis_within, .func (PySem.W.fnOf "is_within" "is_within" (defArgs (top 2)) (defBody (top 2)) (defScope (top 2)) .none kVis_within dcis_within pmis_within anis_within cdis_within ctis_within), slis_within⟩)
    (c_is_within : PySem.W.codeIn K cdis_within "is_within" = true)
    (k_is_within : PySem.W.keepIn K (.ref Ais_within) = true)
    (a_strokes_of : PySem.W.nsIn K mainGlobals "strokes_of" = some (some (.ref Astrokes_of)))
    (l_strokes_of : K.lookup Astrokes_of = some ⟨ocstrokes_of, odstrokes_of, .func (PySem.W.fnOf "strokes_of" "strokes_of" (defArgs (top 21)) (defBody (top 21)) (defScope (top 21)) .none kVstrokes_of dcstrokes_of pmstrokes_of anstrokes_of cdstrokes_of ctstrokes_of), slstrokes_of⟩)
    (c_strokes_of : PySem.W.codeIn K cdstrokes_of "strokes_of" = true)
    (k_strokes_of : PySem.W.keepIn K (.ref Astrokes_of) = true)
    (a__law_any : PySem.W.nsIn K mainGlobals "_law_any" = some (some (.ref A_law_any)))
    (l__law_any : K.lookup A_law_any = some ⟨oc_law_any, od_law_any, .func (PySem.W.fnOf "_law_any" "_law_any" (defArgs (top 35)) (defBody (top 35)) (defScope (top 35)) .none kV_law_any dc_law_any pm_law_any an_law_any cd_law_any ct_law_any), sl_law_any⟩)
    (c__law_any : PySem.W.codeIn K cd_law_any "_law_any" = true)
    (k__law_any : PySem.W.keepIn K (.ref A_law_any) = true)
    (a__law_web : PySem.W.nsIn K mainGlobals "_law_web" = some (some (.ref A_law_web)))
    (l__law_web : K.lookup A_law_web = some ⟨oc_law_web, od_law_web, .func (PySem.W.fnOf "_law_web" "_law_web" (defArgs (top 36)) (defBody (top 36)) (defScope (top 36)) .none kV_law_web dc_law_web pm_law_web an_law_web cd_law_web ct_law_web), sl_law_web⟩)
    (c__law_web : PySem.W.codeIn K cd_law_web "_law_web" = true)
    (k__law_web : PySem.W.keepIn K (.ref A_law_web) = true)
    (a__law_paintings : PySem.W.nsIn K mainGlobals "_law_paintings" = some (some (.ref A_law_paintings)))
    (l__law_paintings : K.lookup A_law_paintings = some ⟨oc_law_paintings, od_law_paintings, .func (PySem.W.fnOf "_law_paintings" "_law_paintings" (defArgs (top 38)) (defBody (top 38)) (defScope (top 38)) .none kV_law_paintings dc_law_paintings pm_law_paintings an_law_paintings cd_law_paintings ct_law_paintings), sl_law_paintings⟩)
    (c__law_paintings : PySem.W.codeIn K cd_law_paintings "_law_paintings" = true)
    (k__law_paintings : PySem.W.keepIn K (.ref A_law_paintings) = true)
    (a__law_strokes : PySem.W.nsIn K mainGlobals "_law_strokes" = some (some (.ref A_law_strokes)))
    (l__law_strokes : K.lookup A_law_strokes = some ⟨oc_law_strokes, od_law_strokes, .func (PySem.W.fnOf "_law_strokes" "_law_strokes" (defArgs (top 40)) (defBody (top 40)) (defScope (top 40)) .none kV_law_strokes dc_law_strokes pm_law_strokes an_law_strokes cd_law_strokes ct_law_strokes), sl_law_strokes⟩)
    (c__law_strokes : PySem.W.codeIn K cd_law_strokes "_law_strokes" = true)
    (k__law_strokes : PySem.W.keepIn K (.ref A_law_strokes) = true)
    (a_is_lot : PySem.W.nsIn K mainGlobals "is_lot" = some (some (.ref Ais_lot)))
    (l_is_lot : K.lookup Ais_lot = some ⟨ocis_lot, odis_lot, .func (PySem.W.fnOf "is_lot" "is_lot" (defArgs (top 4)) (defBody (top 4)) (defScope (top 4)) .none kVis_lot dcis_lot pmis_lot anis_lot cdis_lot ctis_lot), slis_lot⟩)
    (c_is_lot : PySem.W.codeIn K cdis_lot "is_lot" = true)
    (k_is_lot : PySem.W.keepIn K (.ref Ais_lot) = true)
    (a_filled : PySem.W.nsIn K mainGlobals "filled" = some (some (.ref Afilled)))
    (l_filled : K.lookup Afilled = some ⟨ocfilled, odfilled, .func (PySem.W.fnOf "filled" "filled" (defArgs (top 27)) (defBody (top 27)) (defScope (top 27)) .none kVfilled dcfilled pmfilled anfilled cdfilled ctfilled), slfilled⟩)
    (c_filled : PySem.W.codeIn K cdfilled "filled" = true)
    (k_filled : PySem.W.keepIn K (.ref Afilled) = true)
    (a__law_sheet : PySem.W.nsIn K mainGlobals "_law_sheet" = some (some (.ref A_law_sheet)))
    (l__law_sheet : K.lookup A_law_sheet = some ⟨oc_law_sheet, od_law_sheet, .func (PySem.W.fnOf "_law_sheet" "_law_sheet" (defArgs (top 39)) (defBody (top 39)) (defScope (top 39)) .none kV_law_sheet dc_law_sheet pm_law_sheet an_law_sheet cd_law_sheet ct_law_sheet), sl_law_sheet⟩)
    (c__law_sheet : PySem.W.codeIn K cd_law_sheet "_law_sheet" = true)
    (k__law_sheet : PySem.W.keepIn K (.ref A_law_sheet) = true)
    (a__law_no_sheet : PySem.W.nsIn K mainGlobals "_law_no_sheet" = some (some (.ref A_law_no_sheet)))
    (l__law_no_sheet : K.lookup A_law_no_sheet = some ⟨oc_law_no_sheet, od_law_no_sheet, .func (PySem.W.fnOf "_law_no_sheet" "_law_no_sheet" (defArgs (top 42)) (defBody (top 42)) (defScope (top 42)) .none kV_law_no_sheet dc_law_no_sheet pm_law_no_sheet an_law_no_sheet cd_law_no_sheet ct_law_no_sheet), sl_law_no_sheet⟩)
    (c__law_no_sheet : PySem.W.codeIn K cd_law_no_sheet "_law_no_sheet" = true)
    (k__law_no_sheet : PySem.W.keepIn K (.ref A_law_no_sheet) = true)
    (a__law_fillings : PySem.W.nsIn K mainGlobals "_law_fillings" = some (some (.ref A_law_fillings)))
    (l__law_fillings : K.lookup A_law_fillings = some ⟨oc_law_fillings, od_law_fillings, .func (PySem.W.fnOf "_law_fillings" "_law_fillings" (defArgs (top 43)) (defBody (top 43)) (defScope (top 43)) .none kV_law_fillings dc_law_fillings pm_law_fillings an_law_fillings cd_law_fillings ct_law_fillings), sl_law_fillings⟩)
    (c__law_fillings : PySem.W.codeIn K cd_law_fillings "_law_fillings" = true)
    (k__law_fillings : PySem.W.keepIn K (.ref A_law_fillings) = true)
    (a_are_ties : PySem.W.nsIn K mainGlobals "are_ties" = some (some (.ref Aare_ties)))
    (l_are_ties : K.lookup Aare_ties = some ⟨ocare_ties, odare_ties, .func (PySem.W.fnOf "are_ties" "are_ties" (defArgs (top 13)) (defBody (top 13)) (defScope (top 13)) .none kVare_ties dcare_ties pmare_ties anare_ties cdare_ties ctare_ties), slare_ties⟩)
    (c_are_ties : PySem.W.codeIn K cdare_ties "are_ties" = true)
    (k_are_ties : PySem.W.keepIn K (.ref Aare_ties) = true)
    (a_is_web : PySem.W.nsIn K mainGlobals "is_web" = some (some (.ref Ais_web)))
    (l_is_web : K.lookup Ais_web = some ⟨ocis_web, odis_web, .func (PySem.W.fnOf "is_web" "is_web" (defArgs (top 14)) (defBody (top 14)) (defScope (top 14)) .none kVis_web dcis_web pmis_web anis_web cdis_web ctis_web), slis_web⟩)
    (c_is_web : PySem.W.codeIn K cdis_web "is_web" = true)
    (k_is_web : PySem.W.keepIn K (.ref Ais_web) = true)
    (a_is_sheet : PySem.W.nsIn K mainGlobals "is_sheet" = some (some (.ref Ais_sheet)))
    (l_is_sheet : K.lookup Ais_sheet = some ⟨ocis_sheet, odis_sheet, .func (PySem.W.fnOf "is_sheet" "is_sheet" (defArgs (top 18)) (defBody (top 18)) (defScope (top 18)) .none kVis_sheet dcis_sheet pmis_sheet anis_sheet cdis_sheet ctis_sheet), slis_sheet⟩)
    (c_is_sheet : PySem.W.codeIn K cdis_sheet "is_sheet" = true)
    (k_is_sheet : PySem.W.keepIn K (.ref Ais_sheet) = true)
    (a_check_sheet : PySem.W.nsIn K mainGlobals "check_sheet" = some (some (.ref Acheck_sheet)))
    (l_check_sheet : K.lookup Acheck_sheet = some ⟨occheck_sheet, odcheck_sheet, .func (PySem.W.fnOf "check_sheet" "check_sheet" (defArgs (top 19)) (defBody (top 19)) (defScope (top 19)) .none kVcheck_sheet dccheck_sheet pmcheck_sheet ancheck_sheet cdcheck_sheet ctcheck_sheet), slcheck_sheet⟩)
    (c_check_sheet : PySem.W.codeIn K cdcheck_sheet "check_sheet" = true)
    (k_check_sheet : PySem.W.keepIn K (.ref Acheck_sheet) = true)
    (a_fillings : PySem.W.nsIn K mainGlobals "fillings" = some (some (.ref Afillings)))
    (l_fillings : K.lookup Afillings = some ⟨ocfillings, odfillings, .func (PySem.W.fnOf "fillings" "fillings" (defArgs (top 28)) (defBody (top 28)) (defScope (top 28)) .none kVfillings dcfillings pmfillings anfillings cdfillings ctfillings), slfillings⟩)
    (c_fillings : PySem.W.codeIn K cdfillings "fillings" = true)
    (k_fillings : PySem.W.keepIn K (.ref Afillings) = true)
    (a_is_sure : PySem.W.nsIn K mainGlobals "is_sure" = some (some (.ref Ais_sure)))
    (l_is_sure : K.lookup Ais_sure = some ⟨ocis_sure, odis_sure, .func (PySem.W.fnOf "is_sure" "is_sure" (defArgs (top 30)) (defBody (top 30)) (defScope (top 30)) .none kVis_sure dcis_sure pmis_sure anis_sure cdis_sure ctis_sure), slis_sure⟩)
    (c_is_sure : PySem.W.codeIn K cdis_sure "is_sure" = true)
    (k_is_sure : PySem.W.keepIn K (.ref Ais_sure) = true)
    (a_sure_places : PySem.W.nsIn K mainGlobals "sure_places" = some (some (.ref Asure_places)))
    (l_sure_places : K.lookup Asure_places = some ⟨ocsure_places, odsure_places, .func (PySem.W.fnOf "sure_places" "sure_places" (defArgs (top 31)) (defBody (top 31)) (defScope (top 31)) .none kVsure_places dcsure_places pmsure_places ansure_places cdsure_places ctsure_places), slsure_places⟩)
    (c_sure_places : PySem.W.codeIn K cdsure_places "sure_places" = true)
    (k_sure_places : PySem.W.keepIn K (.ref Asure_places) = true)
    (a_law : PySem.W.nsIn K mainGlobals "law" = some (some (.ref Alaw)))
    (l_law : K.lookup Alaw = some ⟨oclaw, odlaw, .func (PySem.W.fnOf "law" "law" (defArgs (top 45)) (defBody (top 45)) (defScope (top 45)) .none kVlaw dclaw pmlaw anlaw (.ref calaw) ctlaw), sllaw⟩)
    (c_law : PySem.W.codeIn K (.ref calaw) "law" = true)
    (k_law : PySem.W.keepIn K (.ref Alaw) = true)
    (v_law : K.lookup calaw = some ⟨.type "code", oolaw, .fields vslaw, oslaw⟩)
    (p_law : vslaw[11]? = some (.ref Plaw))
    (h_law : PySem.W.codeHdIn K calaw Plaw = true)
    (n_law : K.lookup Plaw = none)
    (m_law : Plaw ∈ ts)
    (nd : ([Plaw] : List Addr).Nodup)
    (b_abs : PySem.W.nsIn K mainGlobals "abs" = some none)
    (b_all : PySem.W.nsIn K mainGlobals "all" = some none)
    (b_any : PySem.W.nsIn K mainGlobals "any" = some none)
    (b_bool : PySem.W.nsIn K mainGlobals "bool" = some none)
    (b_dict : PySem.W.nsIn K mainGlobals "dict" = some none)
    (b_enumerate : PySem.W.nsIn K mainGlobals "enumerate" = some none)
    (b_int : PySem.W.nsIn K mainGlobals "int" = some none)
    (b_isinstance : PySem.W.nsIn K mainGlobals "isinstance" = some none)
    (b_len : PySem.W.nsIn K mainGlobals "len" = some none)
    (b_range : PySem.W.nsIn K mainGlobals "range" = some none)
    (b_sorted : PySem.W.nsIn K mainGlobals "sorted" = some none)
    (b_tuple : PySem.W.nsIn K mainGlobals "tuple" = some none)
    (b_zip : PySem.W.nsIn K mainGlobals "zip" = some none)
    (c_MOST_PLACES_webs : PySem.W.nsIn K mainGlobals "MOST_PLACES_webs" = some (some (.int 8 tkMOST_PLACES_webs)))
    (c_MOST_PLACES_strokes : PySem.W.nsIn K mainGlobals "MOST_PLACES_strokes" = some (some (.int 6 tkMOST_PLACES_strokes)))
    (c_MOST_COLOURS : PySem.W.nsIn K mainGlobals "MOST_COLOURS" = some (some (.int 4 tkMOST_COLOURS)))
    (c_SURE : PySem.W.nsIn K mainGlobals "SURE" = some (some (.str "sure" tkSURE)))
    (c_OPEN : PySem.W.nsIn K mainGlobals "OPEN" = some (some (.str "open" tkOPEN)))
    (c_NONE : PySem.W.nsIn K mainGlobals "NONE" = some (some (.str "none" tkNONE)))
    (g_ColourError : PySem.W.nsIn K mainGlobals "ColourError" = some (some (.ref CColourError)))
    (g_NoNumber : PySem.W.nsIn K mainGlobals "NoNumber" = some (some (.ref CNoNumber)))
    (g_NoPlace : PySem.W.nsIn K mainGlobals "NoPlace" = some (some (.ref CNoPlace)))
    (g_NoSheet : PySem.W.nsIn K mainGlobals "NoSheet" = some (some (.ref CNoSheet)))
    (g_TooMany : PySem.W.nsIn K mainGlobals "TooMany" = some (some (.ref CTooMany)))
    (xB : ([("NoNumber", CNoNumber), ("NoPlace", CNoPlace), ("NoSheet", CNoSheet)] : List (Str × Addr)).all (fun p => excB K p.2) = true)
    (q_NoNumber : PySem.W.excIn K CNoNumber [.type "ValueError", .type "Exception", .type "BaseException", .type "object"] "ValueError.__new__" = true)
    (q_NoPlace : PySem.W.excIn K CNoPlace [.type "ValueError", .type "Exception", .type "BaseException", .type "object"] "ValueError.__new__" = true)
    (q_NoSheet : PySem.W.excIn K CNoSheet [.type "ValueError", .type "Exception", .type "BaseException", .type "object"] "ValueError.__new__" = true)
    (kB_NoNumber : ([("NoNumber", CNoNumber), ("NoPlace", CNoPlace), ("NoSheet", CNoSheet)] : List (Str × Addr)).all (fun p => decide (PySem.W.kitOne K (.ref p.2) (.ref CNoNumber) = some (inS ["NoNumber"] p.1))) = true)
    (kB_NoPlace : ([("NoNumber", CNoNumber), ("NoPlace", CNoPlace), ("NoSheet", CNoSheet)] : List (Str × Addr)).all (fun p => decide (PySem.W.kitOne K (.ref p.2) (.ref CNoPlace) = some (inS ["NoPlace"] p.1))) = true)
    (kB_NoSheet : ([("NoNumber", CNoNumber), ("NoPlace", CNoPlace), ("NoSheet", CNoSheet)] : List (Str × Addr)).all (fun p => decide (PySem.W.kitOne K (.ref p.2) (.ref CNoSheet) = some (inS ["NoSheet"] p.1))) = true)
    (eB_ColourError : ([("NoNumber", CNoNumber), ("NoPlace", CNoPlace), ("NoSheet", CNoSheet)] : List (Str × Addr)).all (fun p => decide (PySem.W.exmOne K (.ref p.2) (.ref CColourError) = some (inS ["NoNumber", "NoPlace", "NoSheet"] p.1))) = true)
    (eB_TooMany : ([("NoNumber", CNoNumber), ("NoPlace", CNoPlace), ("NoSheet", CNoSheet)] : List (Str × Addr)).all (fun p => decide (PySem.W.exmOne K (.ref p.2) (.ref CTooMany) = some (inS [] p.1))) = true)
    (nB_most : ([("NoNumber", CNoNumber), ("NoPlace", CNoPlace), ("NoSheet", CNoSheet)] : List (Str × Addr)).all (fun p => decide (PySem.W.findIn K (.ref p.2) "most" = some none)) = true)
    : LawAtS PySem.Challenge.rw_colourhouse_k85_whole_fillings_of_sheets w K (L2.CX PySem.Challenge.rw_colourhouse_k85_whole_fillings_of_sheets.prog w) 12 63 "script" mg fa h := by
  have e : Alaw = fa := by
    have e := hfa.symm.trans (PySem.W.mg_of X G a_law)
    cases e
    rfl
  subst e
  have F_is_integer := fun_mk (st := top 1) l_is_integer c_is_integer k_is_integer
  have B_is_integer := F_is_integer.binds (ps := ["thing"]) fun _ _ _ _ _ _ us hl => match us, hl with | [_], _ => rfl
  have F_is_sized := fun_mk (st := top 3) l_is_sized c_is_sized k_is_sized
  have B_is_sized := F_is_sized.binds (ps := ["thing", "low", "high"]) fun _ _ _ _ _ _ us hl => match us, hl with | [_, _, _], _ => rfl
  have F_tied_to := fun_mk (st := top 20) l_tied_to c_tied_to k_tied_to
  have B_tied_to := F_tied_to.binds (ps := ["web", "place"]) fun _ _ _ _ _ _ us hl => match us, hl with | [_, _], _ => rfl
  have F_painted := fun_mk (st := top 22) l_painted c_painted k_painted
  have B_painted := F_painted.binds (ps := ["paint", "stroke"]) fun _ _ _ _ _ _ us hl => match us, hl with | [_, _], _ => rfl
  have F_colours_at := fun_mk (st := top 29) l_colours_at c_colours_at k_colours_at
  have B_colours_at := F_colours_at.binds (ps := ["rows", "place"]) fun _ _ _ _ _ _ us hl => match us, hl with | [_, _], _ => rfl
  have F__law_hand := fun_mk (st := top 33) l__law_hand c__law_hand k__law_hand
  have B__law_hand := F__law_hand.binds (ps := ["script"]) fun _ _ _ _ _ _ us hl => match us, hl with | [_], _ => rfl
  have F__law_draw := fun_mk (st := top 34) l__law_draw c__law_draw k__law_draw
  have B__law_draw := F__law_draw.binds (ps := ["hand", "many"]) fun _ _ _ _ _ _ us hl => match us, hl with | [_, _], _ => rfl
  have F__law_near := fun_mk (st := top 37) l__law_near c__law_near k__law_near
  have B__law_near := F__law_near.binds (ps := ["web"]) fun _ _ _ _ _ _ us hl => match us, hl with | [_], _ => rfl
  have F__law_stroked := fun_mk (st := top 41) l__law_stroked c__law_stroked k__law_stroked
  have B__law_stroked := F__law_stroked.binds (ps := ["sheet", "place", "colour"]) fun _ _ _ _ _ _ us hl => match us, hl with | [_, _, _], _ => rfl
  have F__law_word := fun_mk (st := top 44) l__law_word c__law_word k__law_word
  have B__law_word := F__law_word.binds (ps := ["call"]) fun _ _ _ _ _ _ us hl => match us, hl with | [_], _ => rfl
  have F_is_within := fun_mk (st := top 2) l_is_within c_is_within k_is_within
  have B_is_within := F_is_within.binds (ps := ["thing", "low", "high"]) fun _ _ _ _ _ _ us hl => match us, hl with | [_, _, _], _ => rfl
  have F_strokes_of := fun_mk (st := top 21) l_strokes_of c_strokes_of k_strokes_of
  have B_strokes_of := F_strokes_of.binds (ps := ["web", "k", "paint"]) fun _ _ _ _ _ _ us hl => match us, hl with | [_, _, _], _ => rfl
  have F__law_any := fun_mk (st := top 35) l__law_any c__law_any k__law_any
  have B__law_any := F__law_any.binds (ps := ["hand", "some"]) fun _ _ _ _ _ _ us hl => match us, hl with | [_, _], _ => rfl
  have F__law_web := fun_mk (st := top 36) l__law_web c__law_web k__law_web
  have B__law_web := F__law_web.binds (ps := ["hand", "most"]) fun _ _ _ _ _ _ us hl => match us, hl with | [_, _], _ => rfl
  have F__law_paintings := fun_mk (st := top 38) l__law_paintings c__law_paintings k__law_paintings
  have B__law_paintings := F__law_paintings.binds (ps := ["web", "k"]) fun _ _ _ _ _ _ us hl => match us, hl with | [_, _], _ => rfl
  have F__law_strokes := fun_mk (st := top 40) l__law_strokes c__law_strokes k__law_strokes
  have B__law_strokes := F__law_strokes.binds (ps := ["sheet"]) fun _ _ _ _ _ _ us hl => match us, hl with | [_], _ => rfl
  have F_is_lot := fun_mk (st := top 4) l_is_lot c_is_lot k_is_lot
  have B_is_lot := F_is_lot.binds (ps := ["thing", "many"]) fun _ _ _ _ _ _ us hl => match us, hl with | [_, _], _ => rfl
  have F_filled := fun_mk (st := top 27) l_filled c_filled k_filled
  have B_filled := F_filled.binds (ps := ["web", "k", "paint", "most"]) fun _ _ _ _ _ _ us hl => match us, hl with | [_, _, _, _], _ => rfl
  have F__law_sheet := fun_mk (st := top 39) l__law_sheet c__law_sheet k__law_sheet
  have B__law_sheet := F__law_sheet.binds (ps := ["hand", "most"]) fun _ _ _ _ _ _ us hl => match us, hl with | [_, _], _ => rfl
  have F__law_no_sheet := fun_mk (st := top 42) l__law_no_sheet c__law_no_sheet k__law_no_sheet
  have B__law_no_sheet := F__law_no_sheet.binds (ps := ["hand"]) fun _ _ _ _ _ _ us hl => match us, hl with | [_], _ => rfl
  have F__law_fillings := fun_mk (st := top 43) l__law_fillings c__law_fillings k__law_fillings
  have B__law_fillings := F__law_fillings.binds (ps := ["sheet"]) fun _ _ _ _ _ _ us hl => match us, hl with | [_], _ => rfl
  have F_are_ties := fun_mk (st := top 13) l_are_ties c_are_ties k_are_ties
  have B_are_ties := F_are_ties.binds (ps := ["n", "thing"]) fun _ _ _ _ _ _ us hl => match us, hl with | [_, _], _ => rfl
  have F_is_web := fun_mk (st := top 14) l_is_web c_is_web k_is_web
  have B_is_web := F_is_web.binds (ps := ["thing"]) fun _ _ _ _ _ _ us hl => match us, hl with | [_], _ => rfl
  have F_is_sheet := fun_mk (st := top 18) l_is_sheet c_is_sheet k_is_sheet
  have B_is_sheet := F_is_sheet.binds (ps := ["thing"]) fun _ _ _ _ _ _ us hl => match us, hl with | [_], _ => rfl
  have F_check_sheet := fun_mk (st := top 19) l_check_sheet c_check_sheet k_check_sheet
  have B_check_sheet := F_check_sheet.binds (ps := ["sheet"]) fun _ _ _ _ _ _ us hl => match us, hl with | [_], _ => rfl
  have F_fillings := fun_mk (st := top 28) l_fillings c_fillings k_fillings
  have B_fillings := F_fillings.binds (ps := ["sheet", "most"]) fun _ _ _ _ _ _ us hl => match us, hl with | [_, _], _ => rfl
  have F_is_sure := fun_mk (st := top 30) l_is_sure c_is_sure k_is_sure
  have B_is_sure := F_is_sure.binds (ps := ["sheet", "place"]) fun _ _ _ _ _ _ us hl => match us, hl with | [_, _], _ => rfl
  have F_sure_places := fun_mk (st := top 31) l_sure_places c_sure_places k_sure_places
  have B_sure_places := F_sure_places.binds (ps := ["sheet"]) fun _ _ _ _ _ _ us hl => match us, hl with | [_], _ => rfl
  have F_law := func_mk (st := top 45) l_law c_law k_law
  have B_law := F_law.fn.binds (ps := ["script"]) fun _ _ _ _ _ _ us hl => match us, hl with | [_], _ => rfl
  let T : Tx K mg := { A_is_integer := Ais_integer, D_is_integer := _, F_is_integer := F_is_integer, G_is_integer := PySem.W.mg_of X G a_is_integer, B_is_integer := B_is_integer, A_is_sized := Ais_sized, D_is_sized := _, F_is_sized := F_is_sized, G_is_sized := PySem.W.mg_of X G a_is_sized, B_is_sized := B_is_sized, A_tied_to := Atied_to, D_tied_to := _, F_tied_to := F_tied_to, G_tied_to := PySem.W.mg_of X G a_tied_to, B_tied_to := B_tied_to, A_painted := Apainted, D_painted := _, F_painted := F_painted, G_painted := PySem.W.mg_of X G a_painted, B_painted := B_painted, A_colours_at := Acolours_at, D_colours_at := _, F_colours_at := F_colours_at, G_colours_at := PySem.W.mg_of X G a_colours_at, B_colours_at := B_colours_at, A__law_hand := A_law_hand, D__law_hand := _, F__law_hand := F__law_hand, G__law_hand := PySem.W.mg_of X G a__law_hand, B__law_hand := B__law_hand, A__law_draw := A_law_draw, D__law_draw := _, F__law_draw := F__law_draw, G__law_draw := PySem.W.mg_of X G a__law_draw, B__law_draw := B__law_draw, A__law_near := A_law_near, D__law_near := _, F__law_near := F__law_near, G__law_near := PySem.W.mg_of X G a__law_near, B__law_near := B__law_near, A__law_stroked := A_law_stroked, D__law_stroked := _, F__law_stroked := F__law_stroked, G__law_stroked := PySem.W.mg_of X G a__law_stroked, B__law_stroked := B__law_stroked, A__law_word := A_law_word, D__law_word := _, F__law_word := F__law_word, G__law_word := PySem.W.mg_of X G a__law_word, B__law_word := B__law_word, A_is_within := Ais_within, D_is_within := _, F_is_within := F_is_within, G_is_within := PySem.W.mg_of X G a_is_within, B_is_within := B_is_within, A_strokes_of := Astrokes_of, D_strokes_of := _, F_strokes_of := F_strokes_of, G_strokes_of := PySem.W.mg_of X G a_strokes_of, B_strokes_of := B_strokes_of, A__law_any := A_law_any, D__law_any := _, F__law_any := F__law_any, G__law_any := PySem.W.mg_of X G a__law_any, B__law_any := B__law_any, A__law_web := A_law_web, D__law_web := _, F__law_web := F__law_web, G__law_web := PySem.W.mg_of X G a__law_web, B__law_web := B__law_web, A__law_paintings := A_law_paintings, D__law_paintings := _, F__law_paintings := F__law_paintings, G__law_paintings := PySem.W.mg_of X G a__law_paintings, B__law_paintings := B__law_paintings, A__law_strokes := A_law_strokes, D__law_strokes := _, F__law_strokes := F__law_strokes, G__law_strokes := PySem.W.mg_of X G a__law_strokes, B__law_strokes := B__law_strokes, A_is_lot := Ais_lot, D_is_lot := _, F_is_lot := F_is_lot, G_is_lot := PySem.W.mg_of X G a_is_lot, B_is_lot := B_is_lot, A_filled := Afilled, D_filled := _, F_filled := F_filled, G_filled := PySem.W.mg_of X G a_filled, B_filled := B_filled, A__law_sheet := A_law_sheet, D__law_sheet := _, F__law_sheet := F__law_sheet, G__law_sheet := PySem.W.mg_of X G a__law_sheet, B__law_sheet := B__law_sheet, A__law_no_sheet := A_law_no_sheet, D__law_no_sheet := _, F__law_no_sheet := F__law_no_sheet, G__law_no_sheet := PySem.W.mg_of X G a__law_no_sheet, B__law_no_sheet := B__law_no_sheet, A__law_fillings := A_law_fillings, D__law_fillings := _, F__law_fillings := F__law_fillings, G__law_fillings := PySem.W.mg_of X G a__law_fillings, B__law_fillings := B__law_fillings, A_are_ties := Aare_ties, D_are_ties := _, F_are_ties := F_are_ties, G_are_ties := PySem.W.mg_of X G a_are_ties, B_are_ties := B_are_ties, A_is_web := Ais_web, D_is_web := _, F_is_web := F_is_web, G_is_web := PySem.W.mg_of X G a_is_web, B_is_web := B_is_web, A_is_sheet := Ais_sheet, D_is_sheet := _, F_is_sheet := F_is_sheet, G_is_sheet := PySem.W.mg_of X G a_is_sheet, B_is_sheet := B_is_sheet, A_check_sheet := Acheck_sheet, D_check_sheet := _, F_check_sheet := F_check_sheet, G_check_sheet := PySem.W.mg_of X G a_check_sheet, B_check_sheet := B_check_sheet, A_fillings := Afillings, D_fillings := _, F_fillings := F_fillings, G_fillings := PySem.W.mg_of X G a_fillings, B_fillings := B_fillings, A_is_sure := Ais_sure, D_is_sure := _, F_is_sure := F_is_sure, G_is_sure := PySem.W.mg_of X G a_is_sure, B_is_sure := B_is_sure, A_sure_places := Asure_places, D_sure_places := _, F_sure_places := F_sure_places, G_sure_places := PySem.W.mg_of X G a_sure_places, B_sure_places := B_sure_places, A_law := Alaw, D_law := _, cA_law := calaw, P_law := Plaw, F_law := F_law, G_law := PySem.W.mg_of X G a_law, B_law := B_law, C_ColourError := CColourError, g_ColourError := PySem.W.mg_of X G g_ColourError, C_NoNumber := CNoNumber, g_NoNumber := PySem.W.mg_of X G g_NoNumber, C_NoPlace := CNoPlace, g_NoPlace := PySem.W.mg_of X G g_NoPlace, C_NoSheet := CNoSheet, g_NoSheet := PySem.W.mg_of X G g_NoSheet, C_TooMany := CTooMany, g_TooMany := PySem.W.mg_of X G g_TooMany, b_abs := PySem.W.mg_none_of X G b_abs, b_all := PySem.W.mg_none_of X G b_all, b_any := PySem.W.mg_none_of X G b_any, b_bool := PySem.W.mg_none_of X G b_bool, b_dict := PySem.W.mg_none_of X G b_dict, b_enumerate := PySem.W.mg_none_of X G b_enumerate, b_int := PySem.W.mg_none_of X G b_int, b_isinstance := PySem.W.mg_none_of X G b_isinstance, b_len := PySem.W.mg_none_of X G b_len, b_range := PySem.W.mg_none_of X G b_range, b_sorted := PySem.W.mg_none_of X G b_sorted, b_tuple := PySem.W.mg_none_of X G b_tuple, b_zip := PySem.W.mg_none_of X G b_zip, c_MOST_PLACES_webs := ⟨_, PySem.W.mg_of X G c_MOST_PLACES_webs⟩, c_MOST_PLACES_strokes := ⟨_, PySem.W.mg_of X G c_MOST_PLACES_strokes⟩, c_MOST_COLOURS := ⟨_, PySem.W.mg_of X G c_MOST_COLOURS⟩, c_SURE := ⟨_, PySem.W.mg_of X G c_SURE⟩, c_OPEN := ⟨_, PySem.W.mg_of X G c_OPEN⟩, c_NONE := ⟨_, PySem.W.mg_of X G c_NONE⟩, nd := nd, xB := xB, q_NoNumber := q_NoNumber, q_NoPlace := q_NoPlace, q_NoSheet := q_NoSheet, kB_NoNumber := kB_NoNumber, kB_NoPlace := kB_NoPlace, kB_NoSheet := kB_NoSheet, eB_ColourError := eB_ColourError, eB_TooMany := eB_TooMany, nB_most := nB_most }
  have q : ∀ p ∈ T.cs, h.get? p.2 = some { cls := .none, data := .fields #[] } ∧ K.lookup p.2 = none ∧ PySem.W.CodeHd h p.1 p.2 := by
    intro p hp
    simp only [Tx.cs, List.mem_cons, List.not_mem_nil, or_false] at hp
    rcases hp with rfl
    · exact ⟨tt _ m_law, n_law, PySem.W.codeHd_of_K X h_law⟩
  refine ⟨_, T.cs, spLaw K (gW T.tabs []) 63, fun p hp => (q p hp).1, fun p hp => (q p hp).2.1, fun p hp => (q p hp).2.2, fun s u => .of_eq rfl, fun H a ns hl hb ht hs => ⟨a, ns, rfl, hl, hb, hs, fun p hp => ?_, fun _ => rfl⟩, fun base _ _ tb => ok_law T tb hp⟩
  simp only [Tx.tabs, List.mem_cons, List.not_mem_nil, or_false] at hp
  rcases hp with rfl
  · exact ht (calaw, Plaw) (by simp [Tx.cs, T])
end K85
open PySem PySem.W PyProof.Rows
set_option maxHeartbeats 0 in
theorem PySem.Challenge.cw_colourhouse_k85_whole_fillings_of_sheets_holds : PySem.Challenge.rw_colourhouse_k85_whole_fillings_of_sheets.Holds := by
  w_on; o_law; k_head; (case hw => w_witness2)
  k_fill
  refine LamX.walk_ofTs (l := PySem.Challenge.rw_colourhouse_k85_whole_fillings_of_sheets) (n := 63) (k := 12) (x := "script") (CX := fun w => L2.CX PySem.Challenge.rw_colourhouse_k85_whole_fillings_of_sheets.prog w) rfl (by decide) rfl ⟨rfl, by decide, by decide⟩ (fun w h Y => km_in_of Y) ?F ?CX
  case CX => exact fun w H s e s' h => by obtain ⟨_, _, _, _, _, _, _, _, _, _, _, _, z⟩ := h; exact z
  case F =>
    intro w mg fa h Y KX G hmg
    refine' K85.all_mk K85.pure_ok KX G hmg (km_tabs_of Y) ?a_is_integer ?l_is_integer ?c_is_integer ?k_is_integer ?a_is_sized ?l_is_sized ?c_is_sized ?k_is_sized ?a_tied_to ?l_tied_to ?c_tied_to ?k_tied_to ?a_painted ?l_painted ?c_painted ?k_painted ?a_colours_at ?l_colours_at ?c_colours_at ?k_colours_at ?a__law_hand ?l__law_hand ?c__law_hand ?k__law_hand ?a__law_draw ?l__law_draw ?c__law_draw ?k__law_draw ?a__law_near ?l__law_near ?c__law_near ?k__law_near ?a__law_stroked ?l__law_stroked ?c__law_stroked ?k__law_stroked ?a__law_word ?l__law_word ?c__law_word ?k__law_word ?a_is_within ?l_is_within ?c_is_within ?k_is_within ?a_strokes_of ?l_strokes_of ?c_strokes_of ?k_strokes_of ?a__law_any ?l__law_any ?c__law_any ?k__law_any ?a__law_web ?l__law_web ?c__law_web ?k__law_web ?a__law_paintings ?l__law_paintings ?c__law_paintings ?k__law_paintings ?a__law_strokes ?l__law_strokes ?c__law_strokes ?k__law_strokes ?a_is_lot ?l_is_lot ?c_is_lot ?k_is_lot ?a_filled ?l_filled ?c_filled ?k_filled ?a__law_sheet ?l__law_sheet ?c__law_sheet ?k__law_sheet ?a__law_no_sheet ?l__law_no_sheet ?c__law_no_sheet ?k__law_no_sheet ?a__law_fillings ?l__law_fillings ?c__law_fillings ?k__law_fillings ?a_are_ties ?l_are_ties ?c_are_ties ?k_are_ties ?a_is_web ?l_is_web ?c_is_web ?k_is_web ?a_is_sheet ?l_is_sheet ?c_is_sheet ?k_is_sheet ?a_check_sheet ?l_check_sheet ?c_check_sheet ?k_check_sheet ?a_fillings ?l_fillings ?c_fillings ?k_fillings ?a_is_sure ?l_is_sure ?c_is_sure ?k_is_sure ?a_sure_places ?l_sure_places ?c_sure_places ?k_sure_places ?a_law ?l_law ?c_law ?k_law ?v_law ?p_law ?h_law ?n_law ?m_law ?nd ?b_abs ?b_all ?b_any ?b_bool ?b_dict ?b_enumerate ?b_int ?b_isinstance ?b_len ?b_range ?b_sorted ?b_tuple ?b_zip ?c_MOST_PLACES_webs ?c_MOST_PLACES_strokes ?c_MOST_COLOURS ?c_SURE ?c_OPEN ?c_NONE ?g_ColourError ?g_NoNumber ?g_NoPlace ?g_NoSheet ?g_TooMany ?xB ?q_NoNumber ?q_NoPlace ?q_NoSheet ?kB_NoNumber ?kB_NoPlace ?kB_NoSheet ?eB_ColourError ?eB_TooMany ?nB_most
    (case a_is_integer => first | k_is | kernel_rfl | rfl)
    (case l_is_integer => first | k_is | kernel_rfl | rfl)
    (case c_is_integer => first | k_is | kernel_rfl | rfl)
    (case k_is_integer => first | k_is | kernel_rfl | rfl)
    (case a_is_sized => first | k_is | kernel_rfl | rfl)
    (case l_is_sized => first | k_is | kernel_rfl | rfl)
    (case c_is_sized => first | k_is | kernel_rfl | rfl)
    (case k_is_sized => first | k_is | kernel_rfl | rfl)
    (case a_tied_to => first | k_is | kernel_rfl | rfl)
    (case l_tied_to => first | k_is | kernel_rfl | rfl)
    (case c_tied_to => first | k_is | kernel_rfl | rfl)
    (case k_tied_to => first | k_is | kernel_rfl | rfl)
    (case a_painted => first | k_is | kernel_rfl | rfl)
    (case l_painted => first | k_is | kernel_rfl | rfl)
    (case c_painted => first | k_is | kernel_rfl | rfl)
    (case k_painted => first | k_is | kernel_rfl | rfl)
    (case a_colours_at => first | k_is | kernel_rfl | rfl)
    (case l_colours_at => first | k_is | kernel_rfl | rfl)
    (case c_colours_at => first | k_is | kernel_rfl | rfl)
    (case k_colours_at => first | k_is | kernel_rfl | rfl)
    (case a__law_hand => first | k_is | kernel_rfl | rfl)
    (case l__law_hand => first | k_is | kernel_rfl | rfl)
    (case c__law_hand => first | k_is | kernel_rfl | rfl)
    (case k__law_hand => first | k_is | kernel_rfl | rfl)
    (case a__law_draw => first | k_is | kernel_rfl | rfl)
    (case l__law_draw => first | k_is | kernel_rfl | rfl)
    (case c__law_draw => first | k_is | kernel_rfl | rfl)
    (case k__law_draw => first | k_is | kernel_rfl | rfl)
    (case a__law_near => first | k_is | kernel_rfl | rfl)
    (case l__law_near => first | k_is | kernel_rfl | rfl)
    (case c__law_near => first | k_is | kernel_rfl | rfl)
    (case k__law_near => first | k_is | kernel_rfl | rfl)
    (case a__law_stroked => first | k_is | kernel_rfl | rfl)
    (case l__law_stroked => first | k_is | kernel_rfl | rfl)
    (case c__law_stroked => first | k_is | kernel_rfl | rfl)
    (case k__law_stroked => first | k_is | kernel_rfl | rfl)
    (case a__law_word => first | k_is | kernel_rfl | rfl)
    (case l__law_word => first | k_is | kernel_rfl | rfl)
    (case c__law_word => first | k_is | kernel_rfl | rfl)
    (case k__law_word => first | k_is | kernel_rfl | rfl)
    (case a_is_within => first | k_is | kernel_rfl | rfl)
    (case l_is_within => first | k_is | kernel_rfl | rfl)
    (case c_is_within => first | k_is | kernel_rfl | rfl)
    (case k_is_within => first | k_is | kernel_rfl | rfl)
    (case a_strokes_of => first | k_is | kernel_rfl | rfl)
    (case l_strokes_of => first | k_is | kernel_rfl | rfl)
    (case c_strokes_of => first | k_is | kernel_rfl | rfl)
    (case k_strokes_of => first | k_is | kernel_rfl | rfl)
    (case a__law_any => first | k_is | kernel_rfl | rfl)
    (case l__law_any => first | k_is | kernel_rfl | rfl)
    (case c__law_any => first | k_is | kernel_rfl | rfl)
    (case k__law_any => first | k_is | kernel_rfl | rfl)
    (case a__law_web => first | k_is | kernel_rfl | rfl)
    (case l__law_web => first | k_is | kernel_rfl | rfl)
    (case c__law_web => first | k_is | kernel_rfl | rfl)
    (case k__law_web => first | k_is | kernel_rfl | rfl)
    (case a__law_paintings => first | k_is | kernel_rfl | rfl)
    (case l__law_paintings => first | k_is | kernel_rfl | rfl)
    (case c__law_paintings => first | k_is | kernel_rfl | rfl)
    (case k__law_paintings => first | k_is | kernel_rfl | rfl)
    (case a__law_strokes => first | k_is | kernel_rfl | rfl)
    (case l__law_strokes => first | k_is | kernel_rfl | rfl)
    (case c__law_strokes => first | k_is | kernel_rfl | rfl)
    (case k__law_strokes => first | k_is | kernel_rfl | rfl)
    (case a_is_lot => first | k_is | kernel_rfl | rfl)
    (case l_is_lot => first | k_is | kernel_rfl | rfl)
    (case c_is_lot => first | k_is | kernel_rfl | rfl)
    (case k_is_lot => first | k_is | kernel_rfl | rfl)
    (case a_filled => first | k_is | kernel_rfl | rfl)
    (case l_filled => first | k_is | kernel_rfl | rfl)
    (case c_filled => first | k_is | kernel_rfl | rfl)
    (case k_filled => first | k_is | kernel_rfl | rfl)
    (case a__law_sheet => first | k_is | kernel_rfl | rfl)
    (case l__law_sheet => first | k_is | kernel_rfl | rfl)
    (case c__law_sheet => first | k_is | kernel_rfl | rfl)
    (case k__law_sheet => first | k_is | kernel_rfl | rfl)
    (case a__law_no_sheet => first | k_is | kernel_rfl | rfl)
    (case l__law_no_sheet => first | k_is | kernel_rfl | rfl)
    (case c__law_no_sheet => first | k_is | kernel_rfl | rfl)
    (case k__law_no_sheet => first | k_is | kernel_rfl | rfl)
    (case a__law_fillings => first | k_is | kernel_rfl | rfl)
    (case l__law_fillings => first | k_is | kernel_rfl | rfl)
    (case c__law_fillings => first | k_is | kernel_rfl | rfl)
    (case k__law_fillings => first | k_is | kernel_rfl | rfl)
    (case a_are_ties => first | k_is | kernel_rfl | rfl)
    (case l_are_ties => first | k_is | kernel_rfl | rfl)
    (case c_are_ties => first | k_is | kernel_rfl | rfl)
    (case k_are_ties => first | k_is | kernel_rfl | rfl)
    (case a_is_web => first | k_is | kernel_rfl | rfl)
    (case l_is_web => first | k_is | kernel_rfl | rfl)
    (case c_is_web => first | k_is | kernel_rfl | rfl)
    (case k_is_web => first | k_is | kernel_rfl | rfl)
    (case a_is_sheet => first | k_is | kernel_rfl | rfl)
    (case l_is_sheet => first | k_is | kernel_rfl | rfl)
    (case c_is_sheet => first | k_is | kernel_rfl | rfl)
    (case k_is_sheet => first | k_is | kernel_rfl | rfl)
    (case a_check_sheet => first | k_is | kernel_rfl | rfl)
    (case l_check_sheet => first | k_is | kernel_rfl | rfl)
    (case c_check_sheet => first | k_is | kernel_rfl | rfl)
    (case k_check_sheet => first | k_is | kernel_rfl | rfl)
    (case a_fillings => first | k_is | kernel_rfl | rfl)
    (case l_fillings => first | k_is | kernel_rfl | rfl)
    (case c_fillings => first | k_is | kernel_rfl | rfl)
    (case k_fillings => first | k_is | kernel_rfl | rfl)
    (case a_is_sure => first | k_is | kernel_rfl | rfl)
    (case l_is_sure => first | k_is | kernel_rfl | rfl)
    (case c_is_sure => first | k_is | kernel_rfl | rfl)
    (case k_is_sure => first | k_is | kernel_rfl | rfl)
    (case a_sure_places => first | k_is | kernel_rfl | rfl)
    (case l_sure_places => first | k_is | kernel_rfl | rfl)
    (case c_sure_places => first | k_is | kernel_rfl | rfl)
    (case k_sure_places => first | k_is | kernel_rfl | rfl)
    (case a_law => first | k_is | kernel_rfl | rfl)
    (case l_law => first | k_is | kernel_rfl | rfl)
    (case c_law => first | k_is | kernel_rfl | rfl)
    (case k_law => first | k_is | kernel_rfl | rfl)
    (case v_law => first | k_is | kernel_rfl | rfl)
    (case p_law => rfl)
    (case h_law => first | k_is | kernel_rfl | rfl)
    (case n_law => first | k_is | kernel_rfl | rfl)
    (case m_law => simp)
    (case nd => decide)
    (case b_abs => first | k_is | kernel_rfl | rfl)
    (case b_all => first | k_is | kernel_rfl | rfl)
    (case b_any => first | k_is | kernel_rfl | rfl)
    (case b_bool => first | k_is | kernel_rfl | rfl)
    (case b_dict => first | k_is | kernel_rfl | rfl)
    (case b_enumerate => first | k_is | kernel_rfl | rfl)
    (case b_int => first | k_is | kernel_rfl | rfl)
    (case b_isinstance => first | k_is | kernel_rfl | rfl)
    (case b_len => first | k_is | kernel_rfl | rfl)
    (case b_range => first | k_is | kernel_rfl | rfl)
    (case b_sorted => first | k_is | kernel_rfl | rfl)
    (case b_tuple => first | k_is | kernel_rfl | rfl)
    (case b_zip => first | k_is | kernel_rfl | rfl)
    (case c_MOST_PLACES_webs => first | k_is | kernel_rfl | rfl)
    (case c_MOST_PLACES_strokes => first | k_is | kernel_rfl | rfl)
    (case c_MOST_COLOURS => first | k_is | kernel_rfl | rfl)
    (case c_SURE => first | k_is | kernel_rfl | rfl)
    (case c_OPEN => first | k_is | kernel_rfl | rfl)
    (case c_NONE => first | k_is | kernel_rfl | rfl)
    (case g_ColourError => first | k_is | kernel_rfl | rfl)
    (case g_NoNumber => first | k_is | kernel_rfl | rfl)
    (case g_NoPlace => first | k_is | kernel_rfl | rfl)
    (case g_NoSheet => first | k_is | kernel_rfl | rfl)
    (case g_TooMany => first | k_is | kernel_rfl | rfl)
    (case xB => first | k_is | kernel_rfl | rfl)
    (case q_NoNumber => first | k_is | kernel_rfl | rfl)
    (case q_NoPlace => first | k_is | kernel_rfl | rfl)
    (case q_NoSheet => first | k_is | kernel_rfl | rfl)
    (case kB_NoNumber => first | k_is | kernel_rfl | rfl)
    (case kB_NoPlace => first | k_is | kernel_rfl | rfl)
    (case kB_NoSheet => first | k_is | kernel_rfl | rfl)
    (case eB_ColourError => first | k_is | kernel_rfl | rfl)
    (case eB_TooMany => first | k_is | kernel_rfl | rfl)
    (case nB_most => first | k_is | kernel_rfl | rfl)
