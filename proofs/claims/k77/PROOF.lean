import PyProof.Rows.All
import HandS.ForMost
import HandS.Exc
import HandS.TryMany
import HandS.ExcOwn
import HandS.ExcField
import HandS.ExcIs
import HandS.ExcInit
import HandS.IsInst
import HandS.Lambda
import HandS.Style
import HandS.Conv
import HandS.Wide
import HandS.Deep
import HandS.WordsExc
import HandS.TupAny
import HandS.TupMul
import HandS.TupLe
import PyProof.TupleOfStr
import HandS.Zip
import KE.KExcIs
import HandS.EndTab
import HandS.StrMore
import KE.GoesEnum
import PyProof.EnumMake
import PyProof.StrOps2
import PyProof.SliceStr2
import KE.KNestM
import PySem.Challenge.RW_colourhouse_k77_texts_of_webs_misread
set_option Elab.async false
set_option linter.all false
set_option maxRecDepth 100000
set_option maxHeartbeats 4000000
/-! PDa: pure denotations over PyData: heaps seen through a ban list, representation of data, frames with static slot modes. -/
namespace PD
open PySem PySem.Spec PyProof.Rows L2
/-! ### results -/
structure Xc where
  cls : Str
  fs : List (Str × PyData)
abbrev Store := List (List PyData)
inductive R (α : Type) where
  | ok (a : α) (S : Store)
  | exc (x : Xc) (S : Store)
  | bad
def R.bind {α β : Type} (r : R α) (f : α → Store → R β) : R β :=
  match r with
  | .ok a S => f a S
  | .exc x S => .exc x S
  | .bad => .bad
/-- an exception is not let out here -/
def R.calm {α : Type} (r : R α) : R α :=
  match r with
  | .exc _ _ => .bad
  | r => r
@[simp] theorem R.bind_ok {α β : Type} (a : α) (S : Store) (f : α → Store → R β) : (R.ok a S).bind f = f a S := rfl
@[simp] theorem R.bind_exc {α β : Type} (x : Xc) (S : Store) (f : α → Store → R β) : (R.exc x S : R α).bind f = .exc x S := rfl
@[simp] theorem R.bind_bad {α β : Type} (f : α → Store → R β) : (R.bad : R α).bind f = .bad := rfl
@[simp] theorem R.calm_ok {α : Type} (a : α) (S : Store) : (R.ok a S).calm = .ok a S := rfl
@[simp] theorem R.calm_exc {α : Type} (x : Xc) (S : Store) : (R.exc x S : R α).calm = .bad := rfl
@[simp] theorem R.calm_bad {α : Type} : (R.bad : R α).calm = .bad := rfl
/-! ### heaps -/
def Ex (H H' : Hp) : Prop := ∀ a o, H a = some o → H' a = some o
theorem Ex.refl (H : Hp) : Ex H H := fun _ _ h => h
theorem Ex.trans {H H1 H2 : Hp} (a : Ex H H1) (b : Ex H1 H2) : Ex H H2 := fun x o h => b x o (a x o h)
theorem Ex.new {H : Hp} {p : Addr} {o : HO} (h : H p = none) : Ex H (upd H p o) := fun a u e => by
  rw [upd_ne (ne_of_none e h)]
  exact e
def Fz (B : List Addr) (H : Hp) : Hp := fun a => if a ∈ B then none else H a
theorem fz_some {B : List Addr} {H : Hp} {a : Addr} {o : HO} : Fz B H a = some o ↔ a ∉ B ∧ H a = some o := by
  unfold Fz
  by_cases h : a ∈ B <;> simp [h]
theorem fz_le {B : List Addr} {H : Hp} : Ex (Fz B H) H := fun _ _ h => (fz_some.mp h).2
theorem fz_anti {B B' : List Addr} {H : Hp} (h : ∀ a ∈ B', a ∈ B) : Ex (Fz B H) (Fz B' H) := fun a o e =>
  have q := fz_some.mp e
  fz_some.mpr ⟨fun z => q.1 (h a z), q.2⟩
def Evo (G : List Addr) (H H' : Hp) : Prop := ∀ a o, a ∉ G → H a = some o → H' a = some o
theorem Evo.refl (G : List Addr) (H : Hp) : Evo G H H := fun _ _ _ h => h
theorem Evo.trans {G : List Addr} {H H1 H2 : Hp} (a : Evo G H H1) (b : Evo G H1 H2) : Evo G H H2 := fun x o n h => b x o n (a x o n h)
theorem Ex.evo {G : List Addr} {H H' : Hp} (e : Ex H H') : Evo G H H' := fun a o _ h => e a o h
theorem Evo.fz {G B : List Addr} {H H' : Hp} (e : Evo G H H') (h : ∀ a ∈ G, a ∈ B) : Ex (Fz B H) (Fz B H') := fun a o q =>
  have q := fz_some.mp q
  fz_some.mpr ⟨q.1, e a o (fun z => q.1 (h a z)) q.2⟩
theorem Ex.fz {B : List Addr} {H H' : Hp} (e : Ex H H') : Ex (Fz B H) (Fz B H') := fun a o q =>
  have q := fz_some.mp q
  fz_some.mpr ⟨q.1, e a o q.2⟩
theorem Ex.rd {H H' : Hp} (e : Ex H H') {a : Addr} {u : HO} (h : Rd H a u) : Rd H' a u := by
  rcases h with h | ⟨o, h⟩
  · exact .inl (e a _ h)
  · exact .inr ⟨o, e a _ h⟩
theorem Ex.l {K : PySem.W.Frag} {H H' : Hp} (e : Ex H H') {a : Addr} {xs : List V} (h : SqL K H a xs) : SqL K H' a xs := by
  rcases h with h | h
  · exact .inl (e.rd h)
  · exact .inr h
theorem Ex.t {K : PySem.W.Frag} {H H' : Hp} (e : Ex H H') {a : Addr} {xs : List V} (h : SqT K H a xs) : SqT K H' a xs := by
  rcases h with h | h
  · exact .inl (e.rd h)
  · exact .inr h
theorem Ex.free {H H' : Hp} (e : Ex H H') {p : Addr} (h : H' p = none) : H p = none := by
  cases q : H p with
  | none => rfl
  | some o => rw [e p o q] at h; cases h
/-! ### data -/
def keyD : Key → PyData
  | .inl i => .int i
  | .inr x => .str x
def keyT (k : List Key) : PyData := .tuple (k.map keyD)
mutual
inductive Is (K : PySem.W.Frag) (H : Hp) : V → PyData → Prop
  | non : Is K H .non .none
  | bl (b : Bool) : Is K H (.bl b) (.bool b)
  | int (i : Int) : Is K H (.int i) (.int i)
  | str (x : Str) : Is K H (.str x) (.str x)
  | lst {a : Addr} {xs : List V} {ds : List PyData} : H a = some (.lst xs) → xs.length ≤ sizeLine → IsAll K H xs ds → Is K H (.ref a) (.list ds)
  | tup {a : Addr} {xs : List V} {ds : List PyData} : SqT K H a xs → xs.length ≤ sizeLine → IsAll K H xs ds → Is K H (.ref a) (.tuple ds)
  | dK {a : Addr} {kvs : List (Key × V)} {ds : List (PyData × PyData)} : H a = some (.dK kvs) → ds.map (·.1) = kvs.map (fun p => keyD p.1) → IsAll K H (kvs.map (·.2)) (ds.map (·.2)) → Is K H (.ref a) (.dict ds)
  | dT {a : Addr} {kvs : List (List Key × V)} {ds : List (PyData × PyData)} : H a = some (.dT kvs) → ds.map (·.1) = kvs.map (fun p => keyT p.1) → IsAll K H (kvs.map (·.2)) (ds.map (·.2)) → Is K H (.ref a) (.dict ds)
inductive IsAll (K : PySem.W.Frag) (H : Hp) : List V → List PyData → Prop
  | nil : IsAll K H [] []
  | cons {v : V} {vs : List V} {d : PyData} {ds : List PyData} : Is K H v d → IsAll K H vs ds → IsAll K H (v :: vs) (d :: ds)
end
mutual
theorem Is.mono {K : PySem.W.Frag} {H H' : Hp} (e : Ex H H') : ∀ {v : V} {d : PyData}, Is K H v d → Is K H' v d
  | _, _, .non => .non
  | _, _, .bl b => .bl b
  | _, _, .int i => .int i
  | _, _, .str x => .str x
  | _, _, .lst h z r => .lst (e _ _ h) z (IsAll.mono e r)
  | _, _, .tup h z r => .tup (e.t h) z (IsAll.mono e r)
  | _, _, .dK h k r => .dK (e _ _ h) k (IsAll.mono e r)
  | _, _, .dT h k r => .dT (e _ _ h) k (IsAll.mono e r)
theorem IsAll.mono {K : PySem.W.Frag} {H H' : Hp} (e : Ex H H') : ∀ {vs : List V} {ds : List PyData}, IsAll K H vs ds → IsAll K H' vs ds
  | _, _, .nil => .nil
  | _, _, .cons h r => .cons (Is.mono e h) (IsAll.mono e r)
end
section
variable {K : PySem.W.Frag} {H H' : Hp}
theorem IsAll.length : ∀ {vs : List V} {ds : List PyData}, IsAll K H vs ds → vs.length = ds.length
  | _, _, .nil => rfl
  | _, _, .cons _ r => by simp [IsAll.length r]
theorem IsAll.get : ∀ {vs : List V} {ds : List PyData} {i : Nat} {d : PyData}, IsAll K H vs ds → ds[i]? = some d → ∃ v, vs[i]? = some v ∧ Is K H v d
  | _, _, _, _, .nil, e => by simp at e
  | _, _, 0, d, .cons h _, e => by simp at e; subst e; exact ⟨_, rfl, h⟩
  | _, _, i + 1, d, .cons _ r, e => by
    obtain ⟨v, a, b⟩ := IsAll.get (i := i) (d := d) r (by simpa using e)
    exact ⟨v, by simpa using a, b⟩
theorem IsAll.append : ∀ {vs ws : List V} {ds es : List PyData}, IsAll K H vs ds → IsAll K H ws es → IsAll K H (vs ++ ws) (ds ++ es)
  | _, _, _, _, .nil, s => s
  | _, _, _, _, .cons h r, s => .cons h (IsAll.append r s)
theorem IsAll.take : ∀ {vs : List V} {ds : List PyData} (n : Nat), IsAll K H vs ds → IsAll K H (vs.take n) (ds.take n)
  | _, _, 0, _ => by simpa using IsAll.nil
  | _, _, _ + 1, .nil => .nil
  | _, _, n + 1, .cons h r => .cons h (IsAll.take n r)
theorem IsAll.drop : ∀ {vs : List V} {ds : List PyData} (n : Nat), IsAll K H vs ds → IsAll K H (vs.drop n) (ds.drop n)
  | _, _, 0, r => r
  | _, _, _ + 1, .nil => .nil
  | _, _, n + 1, .cons _ r => IsAll.drop n r
theorem IsAll.reverse : ∀ {vs : List V} {ds : List PyData}, IsAll K H vs ds → IsAll K H vs.reverse ds.reverse
  | _, _, .nil => .nil
  | _, _, .cons h r => by
    rw [List.reverse_cons, List.reverse_cons]
    exact (IsAll.reverse r).append (.cons h .nil)
theorem IsAll.set : ∀ {vs : List V} {ds : List PyData} (i : Nat) {v : V} {d : PyData}, IsAll K H vs ds → Is K H v d → IsAll K H (vs.set i v) (ds.set i d)
  | _, _, _, _, _, .nil, _ => .nil
  | _, _, 0, _, _, .cons _ r, q => .cons q r
  | _, _, i + 1, _, _, .cons h r, q => .cons h (IsAll.set i r q)
theorem IsAll.dropLast {vs : List V} {ds : List PyData} (h : IsAll K H vs ds) : IsAll K H vs.dropLast ds.dropLast := by
  rw [List.dropLast_eq_take, List.dropLast_eq_take, h.length]
  exact h.take _
theorem IsAll.ints : ∀ {vs : List V} {ns : List Int}, IsAll K H vs (ns.map .int) → vs = ns.map V.int
  | _, [], .nil => rfl
  | _, n :: ns, .cons h r => by
    cases h
    rw [IsAll.ints (ns := ns) r]
    rfl
theorem IsAll.of_ints : ∀ {ns : List Int}, IsAll K H (ns.map V.int) (ns.map .int)
  | [] => .nil
  | n :: ns => .cons (.int n) IsAll.of_ints
theorem IsAll.strs : ∀ {vs : List V} {ns : List Str}, IsAll K H vs (ns.map .str) → vs = ns.map V.str
  | _, [], .nil => rfl
  | _, n :: ns, .cons h r => by
    cases h
    rw [IsAll.strs (ns := ns) r]
    rfl
theorem IsAll.of_strs : ∀ {ns : List Str}, IsAll K H (ns.map V.str) (ns.map .str)
  | [] => .nil
  | n :: ns => .cons (.str n) IsAll.of_strs
theorem IsAll.bools : ∀ {vs : List V} {ns : List Bool}, IsAll K H vs (ns.map .bool) → vs = ns.map V.bl
  | _, [], .nil => rfl
  | _, n :: ns, .cons h r => by
    cases h
    rw [IsAll.bools (ns := ns) r]
    rfl
theorem IsAll.two {vs : List V} {a b : PyData} (h : IsAll K H vs [a, b]) : ∃ v w, vs = [v, w] ∧ Is K H v a ∧ Is K H w b := by
  cases h with
  | cons h1 r => cases r with
    | cons h2 r => cases r; exact ⟨_, _, rfl, h1, h2⟩
end
/-! ### an object that its holder alone may change: its parts stand frozen -/
def Top (K : PySem.W.Frag) (B : List Addr) (H : Hp) (p : Addr) (d : PyData) : Prop :=
  (∃ ds vs, d = .list ds ∧ H p = some (.lst vs) ∧ vs.length ≤ sizeLine ∧ IsAll K (Fz B H) vs ds) ∨
  (∃ (ds : List (PyData × PyData)) (kvs : List (Key × V)), d = .dict ds ∧ H p = some (.dK kvs) ∧ ds.map (·.1) = kvs.map (fun p => keyD p.1) ∧ IsAll K (Fz B H) (kvs.map (·.2)) (ds.map (·.2))) ∨
  (∃ (ds : List (PyData × PyData)) (kvs : List (List Key × V)), d = .dict ds ∧ H p = some (.dT kvs) ∧ ds.map (·.1) = kvs.map (fun p => keyT p.1) ∧ IsAll K (Fz B H) (kvs.map (·.2)) (ds.map (·.2)))
theorem Top.mono {K : PySem.W.Frag} {B B' : List Addr} {H H' : Hp} {p : Addr} {d : PyData} (t : Top K B H p d) (e : Ex (Fz B H) (Fz B' H')) (hp : ∀ o, H p = some o → H' p = some o) : Top K B' H' p d := by
  rcases t with ⟨ds, vs, rfl, a, z, b⟩ | ⟨ds, kvs, rfl, a, k, b⟩ | ⟨ds, kvs, rfl, a, k, b⟩
  · exact .inl ⟨ds, vs, rfl, hp _ a, z, b.mono e⟩
  · exact .inr (.inl ⟨ds, kvs, rfl, hp _ a, k, b.mono e⟩)
  · exact .inr (.inr ⟨ds, kvs, rfl, hp _ a, k, b.mono e⟩)
theorem Top.is {K : PySem.W.Frag} {B : List Addr} {H H' : Hp} {p : Addr} {d : PyData} (t : Top K B H p d) (e : Ex (Fz B H) H') (hp : ∀ o, H p = some o → H' p = some o) : Is K H' (.ref p) d := by
  rcases t with ⟨ds, vs, rfl, a, z, b⟩ | ⟨ds, kvs, rfl, a, k, b⟩ | ⟨ds, kvs, rfl, a, k, b⟩
  · exact .lst (hp _ a) z (b.mono e)
  · exact .dK (hp _ a) k (b.mono e)
  · exact .dT (hp _ a) k (b.mono e)
theorem Top.some {K : PySem.W.Frag} {B : List Addr} {H : Hp} {p : Addr} {d : PyData} (t : Top K B H p d) : H p ≠ none := by
  rcases t with ⟨ds, vs, rfl, a, _, b⟩ | ⟨ds, kvs, rfl, a, k, b⟩ | ⟨ds, kvs, rfl, a, k, b⟩ <;> rw [a] <;> intro z <;> cases z
/-! ### what all frames share: lists changed by reference, tables of code objects -/
/-- a function in hand: the object, its code, the ban list and the heap it was handed in at -/
structure Lm where
  f : Addr
  cc : Addr
  q : Str
  B : List Addr
  H : Hp
structure Gx where
  SA : List Addr
  T : List (Addr × Str)
  E : Option (Addr × Xc × Option Addr) := none
  L : Option Lm := none
def Gx.G (g : Gx) : List Addr := g.SA ++ g.T.map (·.1)
structure GI (K : PySem.W.Frag) (g : Gx) (B : List Addr) (H : Hp) (S : Store) : Prop where
  st : Paired (fun (p : Addr) (xs : List PyData) => ∃ vs, H p = some (.lst vs) ∧ vs.length ≤ sizeLine ∧ IsAll K (Fz B H) vs xs) g.SA S
  tabs : LamX.Tabs g.T H
  sub : ∀ a ∈ g.G, a ∈ B
  kn : ∀ a ∈ B, H a ≠ none
  nd : g.G.Nodup
  cd : ∀ l, g.L = some l → H l.cc = some (LamX.CodeO l.cc l.q) ∧ Ex (Fz l.B l.H) (Fz B H)
theorem Paired.imp {α β : Type} {F G : α → β → Prop} : ∀ {l₁ : List α} {l₂ : List β}, Paired F l₁ l₂ → (∀ a b, F a b → G a b) → Paired G l₁ l₂
  | _, _, .nil, _ => .nil
  | _, _, .cons r t, f => .cons (f _ _ r) (Paired.imp t f)
theorem GI.ex {K : PySem.W.Frag} {g : Gx} {B : List Addr} {H H' : Hp} {S : Store} (i : GI K g B H S) (e : Ex H H') : GI K g B H' S :=
  ⟨Paired.imp i.st fun p xs ⟨vs, a, z, b⟩ => ⟨vs, e _ _ a, z, b.mono e.fz⟩, i.tabs.ext e, i.sub, fun a ha z => i.kn a ha (e.free z), i.nd, fun l hl => ⟨e _ _ (i.cd l hl).1, (i.cd l hl).2.trans e.fz⟩⟩
/-- fewer addresses are banned -/
theorem GI.less {K : PySem.W.Frag} {g : Gx} {B B' : List Addr} {H : Hp} {S : Store} (i : GI K g B H S) (h : ∀ a ∈ B', a ∈ B) (hg : ∀ a ∈ g.G, a ∈ B') : GI K g B' H S :=
  ⟨Paired.imp i.st fun p xs ⟨vs, a, z, b⟩ => ⟨vs, a, z, b.mono (fz_anti h)⟩, i.tabs, hg, fun a ha => i.kn a (h a ha), i.nd, fun l hl => ⟨(i.cd l hl).1, (i.cd l hl).2.trans (fz_anti h)⟩⟩
/-- an exception's fields as they lie -/
def FsRep (K : PySem.W.Frag) (H : Hp) (x : Xc) (dd : Option Addr) : Prop :=
  (x.fs = [] ∧ dd = none) ∨ ∃ d fs, dd = some d ∧ H d = some (.xd fs) ∧ fs.map (·.1) = x.fs.map (·.1) ∧ IsAll K H (fs.map (·.2)) (x.fs.map (·.2))
theorem FsRep.mono {K : PySem.W.Frag} {H H' : Hp} {x : Xc} {dd : Option Addr} (h : FsRep K H x dd) (e : Ex H H') : FsRep K H' x dd := by
  rcases h with c | ⟨d, fs, c1, c2, c3, c4⟩
  · exact .inl c
  · exact .inr ⟨d, fs, c1, e _ _ c2, c3, c4.mono e⟩
/-! ### slots -/
inductive Md where
  | un | fz | own | own2 | st (k : Nat) | ea | lm | cs
  deriving DecidableEq
def Own (B0 B : List Addr) (ow : Addr → Nat) (i : Nat) (p : Addr) : Prop := p ∈ B ∧ p ∉ B0 ∧ ow p = i
abbrev Env := List (Option PyData)
def SlotOk (K : PySem.W.Frag) (g : Gx) (B0 B : List Addr) (ow : Addr → Nat) (H : Hp) (i : Nat) : Md → Option PyData → Option V → Prop
  | .un, _, _ => True
  | .fz, od, ov => ∀ d, od = some d → ∃ v, ov = some v ∧ Is K (Fz B H) v d
  | .own, od, ov => ∃ d p, od = some d ∧ ov = some (.ref p) ∧ Own B0 B ow i p ∧ Top K B H p d
  | .own2, od, ov => ∃ ds p qs, od = some (.list ds) ∧ ov = some (.ref p) ∧ (∀ q ∈ p :: qs, Own B0 B ow i q) ∧ (p :: qs).Nodup ∧ H p = some (.lst (qs.map V.ref)) ∧ Paired (fun q d => Top K B H q d) qs ds
  | .st k, _, ov => ∃ p, g.SA[k]? = some p ∧ ov = some (.ref p)
  | .cs, od, ov => ∃ a vs ds, od = some (.list ds) ∧ ov = some (.ref a) ∧ SqL K (Fz B H) a vs ∧ vs.length ≤ sizeLine ∧ IsAll K (Fz B H) vs ds
  | .lm, _, ov => ∃ l, g.L = some l ∧ ov = some (.ref l.f)
  | .ea, _, ov => ∃ a x d, g.E = some (a, x, d) ∧ ov = some (.ref a) ∧ FsRep K (Fz B H) x d
structure Frame (K : PySem.W.Frag) (g : Gx) (B0 B : List Addr) (ow : Addr → Nat) (m : List Md) (ρ : Env) (σ : L2.St) (H : Hp) : Prop where
  lm : m.length = ρ.length
  ls : σ.length = ρ.length
  sub : ∀ a ∈ B0, a ∈ B
  gsub : ∀ a ∈ g.G, a ∈ B0
  slot : ∀ i md, m[i]? = some md → SlotOk K g B0 B ow H i md (ρ.getD i none) (σ.getD i none)
section
variable {K : PySem.W.Frag} {g : Gx} {B0 B B' : List Addr} {ow : Addr → Nat} {m : List Md} {ρ : Env} {σ : L2.St} {H H' : Hp} {i : Nat}
theorem SlotOk.step {md : Md} {od : Option PyData} {ov : Option V} (h : SlotOk K g B0 B ow H i md od ov) (e : Ex (Fz B H) (Fz B' H')) (hB : ∀ a, Own B0 B ow i a → a ∈ B') (ho : ∀ a o, Own B0 B ow i a → H a = some o → H' a = some o) : SlotOk K g B0 B' ow H' i md od ov := by
  have k : ∀ {a}, Own B0 B ow i a → Own B0 B' ow i a := fun {a} q => ⟨hB a q, q.2⟩
  cases md with
  | un => trivial
  | fz => exact fun d hd => let ⟨v, a, b⟩ := h d hd; ⟨v, a, b.mono e⟩
  | own =>
    obtain ⟨d, p, h1, h2, h3, h4⟩ := h
    exact ⟨d, p, h1, h2, k h3, h4.mono e fun o q => ho p o h3 q⟩
  | own2 =>
    obtain ⟨ds, p, qs, h1, h2, h3, h4, h5, h6⟩ := h
    refine ⟨ds, p, qs, h1, h2, fun q hq => k (h3 q hq), h4, ho p _ (h3 p (List.mem_cons_self ..)) h5, ?_⟩
    have h3' : ∀ q ∈ qs, Own B0 B ow i q := fun q hq => h3 q (List.mem_cons_of_mem _ hq)
    clear h1 h2 h3 h4 h5
    induction h6 with
    | nil => exact .nil
    | cons r t ih => exact .cons (r.mono e fun o q => ho _ o (h3' _ (List.mem_cons_self ..)) q) (ih fun q hq => h3' q (List.mem_cons_of_mem _ hq))
  | st k => exact h
  | ea => exact let ⟨a, x, d, h1, h2, h3⟩ := h; ⟨a, x, d, h1, h2, h3.mono e⟩
  | lm => exact h
  | cs => exact let ⟨a, vs, ds, h1, h2, h3, h4, h5⟩ := h; ⟨a, vs, ds, h1, h2, e.l h3, h4, h5.mono e⟩
theorem Frame.evo (f : Frame K g B0 B ow m ρ σ H) (e : Evo g.G H H') : Frame K g B0 B ow m ρ σ H' :=
  ⟨f.lm, f.ls, f.sub, f.gsub, fun i md h => (f.slot i md h).step (e.fz fun a ha => f.sub a (f.gsub a ha)) (fun a h => h.1) fun a o h q => e a o (fun z => h.2.1 (f.gsub a z)) q⟩
end
/-! ### expressions -/
/-- the weakest reading of an expression, a test, an argument list -/
structure WE (X : Cx) (e : Expr) (σ : L2.St) (H : Hp) (Q : VK) : Prop where
  go : ∀ (pins : List (Addr × Obj)) (s : Shared), Inv X pins σ H s → wpAny (model X.prog X.w) X.A (eval e X.env) (EP X pins σ Q) X.xe s
structure WT (X : Cx) (e : Expr) (σ : L2.St) (H : Hp) (Q : Bool → Hp → Prop) : Prop where
  go : ∀ (pins : List (Addr × Obj)) (s : Shared), Inv X pins σ H s → wpAny (model X.prog X.w) X.A (isTrue e X.env (eval e X.env)) (TP X pins σ Q) X.xe s
structure WA (X : Cx) (es : List Expr) (σ : L2.St) (H : Hp) (Q : List V → Hp → Prop) : Prop where
  go : ∀ (pos : Pos) (pins : List (Addr × Obj)) (s : Shared), Inv X pins σ H s → wpAny (model X.prog X.w) X.A (spliced (backTo pos (starEach es X.env))) (AP X pins σ Q) X.xe s
structure WS (X : Cx) (st : Stmt) (D : Ends) (σ : L2.St) (H : Hp) : Prop where
  go : ∀ (pins : List (Addr × Obj)) (s : Shared), Inv X pins σ H s → wpAny (model X.prog X.w) X.A (exec st X.env) (SP X pins D) X.xe s
structure WSs (X : Cx) (st : List Stmt) (D : Ends) (σ : L2.St) (H : Hp) : Prop where
  go : ∀ (pins : List (Addr × Obj)) (s : Shared), Inv X pins σ H s → wpAny (model X.prog X.w) X.A (execs st X.env) (SP X pins D) X.xe s
section
variable {X : Cx}
theorem we {e : Expr} : PE X e (WE X e) := ⟨fun pins s _ _ _ I h => h.go pins s I⟩
theorem wt {e : Expr} : PT X e (WT X e) := ⟨fun pins s _ _ _ I h => h.go pins s I⟩
theorem wa {e : List Expr} : PA X e (WA X e) := ⟨fun pos pins s _ _ _ I h => h.go pos pins s I⟩
theorem ws {e : Stmt} : PS X e (WS X e) := ⟨fun pins s _ _ _ I h => h.go pins s I⟩
theorem wss {e : List Stmt} : PSs X e (WSs X e) := ⟨fun pins s _ _ _ I h => h.go pins s I⟩
theorem WE.of {e : Expr} {t : TE} (h : PE X e t) {σ : L2.St} {H : Hp} {Q : VK} (q : t σ H Q) : WE X e σ H Q := ⟨fun pins s I => h.run pins s σ H Q I q⟩
theorem WT.of {e : Expr} {t : TT} (h : PT X e t) {σ : L2.St} {H : Hp} {Q : Bool → Hp → Prop} (q : t σ H Q) : WT X e σ H Q := ⟨fun pins s I => h.run pins s σ H Q I q⟩
theorem WA.of {e : List Expr} {t : TA} (h : PA X e t) {σ : L2.St} {H : Hp} {Q : List V → Hp → Prop} (q : t σ H Q) : WA X e σ H Q := ⟨fun pos pins s I => h.run pos pins s σ H Q I q⟩
theorem WS.of {e : Stmt} {t : TS} (h : PS X e t) {σ : L2.St} {H : Hp} {Q : Ends} (q : t Q σ H) : WS X e Q σ H := ⟨fun pins s I => h.run pins s σ H Q I q⟩
theorem WSs.of {e : List Stmt} {t : TS} (h : PSs X e t) {σ : L2.St} {H : Hp} {Q : Ends} (q : t Q σ H) : WSs X e Q σ H := ⟨fun pins s I => h.run pins s σ H Q I q⟩
end
/-- an exception as it lies -/
def XcRep (K : PySem.W.Frag) (mg : Str → Option Value) (H : Hp) (x : Xc) (cls : Value) (dd : Option Addr) : Prop :=
  ∃ C, mg x.cls = some (.ref C) ∧ cls = .ref C ∧ FsRep K H x dd
theorem XcRep.mono {K : PySem.W.Frag} {mg : Str → Option Value} {H H' : Hp} {x : Xc} {cls : Value} {dd : Option Addr} (h : XcRep K mg H x cls dd) (e : Ex H H') : XcRep K mg H' x cls dd :=
  let ⟨C, a, b, c⟩ := h; ⟨C, a, b, c.mono e⟩
/-- where one stands -/
structure Cc where
  g : Gx
  X : Cx
  W : WX
abbrev DE := Env → Store → R PyData
abbrev DT := Env → Store → R Bool
abbrev DA := Env → Store → R (List PyData)
/-- what an exception asks -/
def XOk (c : Cc) (B : List Addr) (H : Hp) (σ : L2.St) (x : Xc) (S' : Store) : Prop := ∀ cls dd H', Evo c.g.G H H' → GI c.X.K c.g B H' S' → XcRep c.X.K c.X.mg (Fz B H') x cls dd → c.W cls dd σ H'
/-- what a reading of an expression asks: Good is said of the value and the heap -/
def Goal {α β : Type} (c : Cc) (B : List Addr) (H : Hp) (σ : L2.St) (r : R α) (Good : Store → Hp → β → α → Prop) (Q : β → Hp → Prop) : Prop :=
  (∀ d S' v H', r = .ok d S' → Evo c.g.G H H' → GI c.X.K c.g B H' S' → Good S' H' v d → Q v H') ∧ (∀ x S', r = .exc x S' → XOk c B H σ x S') ∧ r ≠ .bad
/-- an expression with a frozen value -/
def EV (c : Cc) (m : List Md) (e : Expr) (den : DE) : Prop := ∀ σ H ρ S B0 B ow Q, Frame c.X.K c.g B0 B ow m ρ σ H → GI c.X.K c.g B H S →
  Goal c B H σ (den ρ S) (fun _ H' v d => Is c.X.K (Fz B H') v d) Q → WE c.X e σ H Q
/-- an expression with a value that may be read now, its parts frozen: a list of a slot's own -/
def EB (c : Cc) (m : List Md) (e : Expr) (den : DE) : Prop := ∀ σ H ρ S B0 B ow Q, Frame c.X.K c.g B0 B ow m ρ σ H → GI c.X.K c.g B H S →
  Goal c B H σ (den ρ S) (fun _ H' v d => Is c.X.K (Fz B H') v d ∨ ∃ p, v = .ref p ∧ p ∉ c.g.G ∧ Top c.X.K B H' p d) Q → WE c.X e σ H Q
/-- an expression with a new list, dict of its own -/
def EO (c : Cc) (m : List Md) (e : Expr) (den : DE) : Prop := ∀ σ H ρ S B0 B ow Q, Frame c.X.K c.g B0 B ow m ρ σ H → GI c.X.K c.g B H S →
  Goal c B H σ (den ρ S) (fun S' H' v d => ∃ p, v = .ref p ∧ H p = none ∧ Top c.X.K (p :: B) H' p d ∧ GI c.X.K c.g (p :: B) H' S') Q → WE c.X e σ H Q
def ET (c : Cc) (m : List Md) (e : Expr) (den : DT) : Prop := ∀ σ H ρ S B0 B ow Q, Frame c.X.K c.g B0 B ow m ρ σ H → GI c.X.K c.g B H S →
  Goal c B H σ (den ρ S) (fun _ H' v d => v = d) Q → WT c.X e σ H Q
def EA (c : Cc) (m : List Md) (e : List Expr) (den : DA) : Prop := ∀ σ H ρ S B0 B ow Q, Frame c.X.K c.g B0 B ow m ρ σ H → GI c.X.K c.g B H S →
  Goal c B H σ (den ρ S) (fun _ H' v d => IsAll c.X.K (Fz B H') v d) Q → WA c.X e σ H Q
section
variable {α β γ δ : Type} {c : Cc} {B : List Addr} {H : Hp} {σ : L2.St}
/-- what follows: the first part's reading asks the rest's -/
theorem Goal.bind {r : R α} {k : α → Store → R γ} {G2 : Store → Hp → δ → γ → Prop} {Q : δ → Hp → Prop} (h : Goal c B H σ (r.bind k) G2 Q) {G1 : Store → Hp → β → α → Prop} {Q1 : β → Hp → Prop}
    (step : ∀ d S' v H', r = .ok d S' → Evo c.g.G H H' → GI c.X.K c.g B H' S' → G1 S' H' v d → Goal c B H' σ (k d S') G2 Q → Q1 v H') : Goal c B H σ r G1 Q1 := by
  obtain ⟨h1, h2, h3⟩ := h
  refine ⟨fun d S' v H' e ev gi gd => step d S' v H' e ev gi gd ⟨fun d2 S2 v2 H2 e2 ev2 gi2 gd2 => h1 d2 S2 v2 H2 (by rw [e]; exact e2) (ev.trans ev2) gi2 gd2, fun x S2 e2 cls dd H2 ev2 gi2 xr => h2 x S2 (by rw [e]; exact e2) cls dd H2 (ev.trans ev2) gi2 xr, fun e2 => h3 (by rw [e]; exact e2)⟩, fun x S2 e => h2 x S2 (by rw [e]; rfl), fun e => h3 (by rw [e]; rfl)⟩
theorem Goal.ok {d : α} {S : Store} {G2 : Store → Hp → β → α → Prop} {Q : β → Hp → Prop} (h : Goal c B H σ (.ok d S) G2 Q) {v : β} {H' : Hp} (ev : Evo c.g.G H H') (gi : GI c.X.K c.g B H' S) (gd : G2 S H' v d) : Q v H' := h.1 d S v H' rfl ev gi gd
theorem Goal.ok0 {d : α} {S : Store} {G2 : Store → Hp → β → α → Prop} {Q : β → Hp → Prop} (h : Goal c B H σ (.ok d S) G2 Q) {v : β} (gi : GI c.X.K c.g B H S) (gd : G2 S H v d) : Q v H := h.ok (Evo.refl _ _) gi gd
theorem Goal.not_bad {r : R α} {G2 : Store → Hp → β → α → Prop} {Q : β → Hp → Prop} (h : Goal c B H σ r G2 Q) : r ≠ .bad := h.2.2
theorem Goal.imp {r : R α} {G1 : Store → Hp → β → α → Prop} {G2 : Store → Hp → γ → α → Prop} {Q : β → Hp → Prop} {Q' : γ → Hp → Prop} (h : Goal c B H σ r G1 Q) (f : ∀ H' v d S', Evo c.g.G H H' → GI c.X.K c.g B H' S' → G2 S' H' v d → (∀ v', G1 S' H' v' d → Q v' H') → Q' v H') : Goal c B H σ r G2 Q' :=
  ⟨fun d S' v H' e ev gi gd => f H' v d S' ev gi gd fun v' g1 => h.1 d S' v' H' e ev gi g1, h.2.1, h.2.2⟩
end
section
variable {c : Cc} {m : List Md} {e : Expr} {den : DE}
theorem EV.eb (h : EV c m e den) : EB c m e den := fun σ H ρ S B0 B ow Q fr gi g => h σ H ρ S B0 B ow Q fr gi (g.imp fun H' v d S' _ _ gd k => k v (.inl gd))
theorem EO.ev (h : EO c m e den) : EV c m e den := fun σ H ρ S B0 B ow Q fr gi g => h σ H ρ S B0 B ow Q fr gi (g.imp fun H' v d S' _ _ gd k => by
  obtain ⟨p, rfl, hp, t, _⟩ := gd
  have np : p ∉ B := fun z => gi.kn p z hp
  exact k _ (t.is (fz_anti fun a ha => List.mem_cons_of_mem _ ha) fun o q => fz_some.mpr ⟨np, q⟩))
theorem EO.eb (h : EO c m e den) : EB c m e den := h.ev.eb
end
end PD
/-! PDb: names, constants, displays, operators, comparisons, tests. -/
namespace PD
open PySem PySem.Spec PyProof.Rows L2
/-! ### readable values -/
def isNone : PyData → Bool | .none => true | _ => false
def Rb (K : PySem.W.Frag) (g : Gx) (B : List Addr) (H : Hp) (v : V) (d : PyData) : Prop := Is K (Fz B H) v d ∨ ∃ p, v = .ref p ∧ p ∉ g.G ∧ Top K B H p d
section
variable {K : PySem.W.Frag} {g : Gx} {B : List Addr} {H H' : Hp} {v : V} {d : PyData}
theorem Rb.evo (h : Rb K g B H v d) (hg : ∀ a ∈ g.G, a ∈ B) (e : Evo g.G H H') : Rb K g B H' v d := by
  rcases h with h | ⟨p, rfl, hp, t⟩
  · exact .inl (h.mono (e.fz hg))
  · exact .inr ⟨p, rfl, hp, t.mono (e.fz hg) fun o q => e p o hp q⟩
theorem fz_evo (hg : ∀ a ∈ g.G, a ∈ B) (e : Evo g.G H H') {a : Addr} {o : HO} (h : Fz B H a = some o) : H' a = some o :=
  have q := fz_some.mp h
  e a o (fun z => q.1 (hg a z)) q.2
theorem rd_evo (hg : ∀ a ∈ g.G, a ∈ B) (e : Evo g.G H H') {a : Addr} {o : HO} (h : Rd (Fz B H) a o) : Rd H' a o := by
  rcases h with h | ⟨u, h⟩
  · exact .inl (fz_evo hg e h)
  · exact .inr ⟨u, fz_evo hg e h⟩
theorem Rb.lst {ds : List PyData} (h : Rb K g B H v (.list ds)) (hg : ∀ a ∈ g.G, a ∈ B) : ∃ a vs, v = .ref a ∧ IsAll K (Fz B H) vs ds ∧ (∀ H', Evo g.G H H' → H' a = some (.lst vs)) ∧ vs.length ≤ sizeLine := by
  rcases h with h | ⟨p, rfl, hp, t⟩
  · cases h with
    | lst h z r => exact ⟨_, _, rfl, r, fun H' e => fz_evo hg e h, z⟩
  · rcases t with ⟨ds, vs, e, a, z, b⟩ | ⟨ds, kvs, e, _⟩ | ⟨ds, kvs, e, _⟩ <;> cases e
    exact ⟨p, vs, rfl, b, fun H' e => e p _ hp a, z⟩
theorem Rb.tup {ds : List PyData} (h : Rb K g B H v (.tuple ds)) (hg : ∀ a ∈ g.G, a ∈ B) : ∃ a vs, v = .ref a ∧ IsAll K (Fz B H) vs ds ∧ (∀ H', Evo g.G H H' → SqT K H' a vs) ∧ vs.length ≤ sizeLine := by
  rcases h with h | ⟨p, rfl, hp, t⟩
  · cases h with
    | tup h z r =>
      refine ⟨_, _, rfl, r, fun H' e => ?_, z⟩
      rcases h with h | h
      · exact .inl (rd_evo hg e h)
      · exact .inr h
  · rcases t with ⟨ds, vs, e, a, b⟩ | ⟨ds, kvs, e, _⟩ | ⟨ds, kvs, e, _⟩ <;> cases e
theorem Rb.int {i : Int} (h : Rb K g B H v (.int i)) : v = .int i := by
  rcases h with h | ⟨p, rfl, hp, ⟨ds, vs, e, _⟩ | ⟨ds, kvs, e, _⟩ | ⟨ds, kvs, e, _⟩⟩
  · cases h; rfl
  all_goals cases e
theorem Rb.str {i : Str} (h : Rb K g B H v (.str i)) : v = .str i := by
  rcases h with h | ⟨p, rfl, hp, ⟨ds, vs, e, _⟩ | ⟨ds, kvs, e, _⟩ | ⟨ds, kvs, e, _⟩⟩
  · cases h; rfl
  all_goals cases e
theorem Rb.bool {i : Bool} (h : Rb K g B H v (.bool i)) : v = .bl i := by
  rcases h with h | ⟨p, rfl, hp, ⟨ds, vs, e, _⟩ | ⟨ds, kvs, e, _⟩ | ⟨ds, kvs, e, _⟩⟩
  · cases h; rfl
  all_goals cases e
theorem Rb.non (h : Rb K g B H v .none) : v = .non := by
  rcases h with h | ⟨p, rfl, hp, ⟨ds, vs, e, _⟩ | ⟨ds, kvs, e, _⟩ | ⟨ds, kvs, e, _⟩⟩
  · cases h; rfl
  all_goals cases e
/-- it is None just where its data is -/
theorem Rb.non_iff (h : Rb K g B H v d) : decide (v = .non) = isNone d := by
  rcases h with h | ⟨p, rfl, hp, ⟨ds, vs, rfl, _⟩ | ⟨ds, kvs, rfl, _⟩ | ⟨ds, kvs, rfl, _⟩⟩
  · cases h <;> rfl
  all_goals rfl
mutual
theorem Is.dp : ∀ {v : V} {d : PyData}, Is K H v d → d.canLay0 = true → Dp K H v d
  | _, _, .non, _ => .non
  | _, _, .bl b, _ => .bl b
  | _, _, .int i, _ => .int i
  | _, _, .str x, _ => .str x
  | _, _, .lst h _ r, q => .lst (.inl (.inl h)) (IsAll.dp r (by simpa [PyData.canLay0] using q))
  | _, _, .tup h _ r, q => .tup h (IsAll.dp r (by simpa [PyData.canLay0] using q))
  | _, _, .dK _ _ _, q => by simp [PyData.canLay0] at q
  | _, _, .dT _ _ _, q => by simp [PyData.canLay0] at q
theorem IsAll.dp : ∀ {v : List V} {d : List PyData}, IsAll K H v d → PyData.canLayAll0 d = true → DpAll K H v d
  | _, _, .nil, _ => .nil
  | _, _, .cons h r, q => by
    have q := Bool.and_eq_true_iff.mp (show (PyData.canLay0 _ && PyData.canLayAll0 _) = true by rw [PyData.canLayAll0] at q; exact q)
    exact .cons (Is.dp h q.1) (IsAll.dp r q.2)
end
theorem Rb.dp (h : Rb K g B H v d) (q : d.canLay0 = true) : Dp K H v d := by
  rcases h with h | ⟨p, rfl, hp, t⟩
  · exact (h.mono fz_le).dp q
  · exact (t.is fz_le fun _ z => z).dp q
theorem new_notin {p : Addr} (hn : ∀ a ∈ B, H a ≠ none) (hp : H p = none) : p ∉ B := fun z => hn p z hp
theorem fz_new {p : Addr} {o : HO} (hn : ∀ a ∈ B, H a ≠ none) (hp : H p = none) : Fz B (upd H p o) p = some o := fz_some.mpr ⟨new_notin hn hp, upd_same⟩
theorem is_newT {p : Addr} {vs : List V} {ds : List PyData} (hn : ∀ a ∈ B, H a ≠ none) (hp : H p = none) (hz : vs.length ≤ sizeLine) (h : IsAll K (Fz B H) vs ds) : Is K (Fz B (upd H p (.tup vs))) (.ref p) (.tuple ds) :=
  .tup (.inl (.inl (fz_new hn hp))) hz (h.mono (Ex.new hp).fz)
theorem is_newL {p : Addr} {vs : List V} {ds : List PyData} (hn : ∀ a ∈ B, H a ≠ none) (hp : H p = none) (hz : vs.length ≤ sizeLine) (h : IsAll K (Fz B H) vs ds) : Is K (Fz B (upd H p (.lst vs))) (.ref p) (.list ds) :=
  .lst (fz_new hn hp) hz (h.mono (Ex.new hp).fz)
theorem top_newL {p : Addr} {vs : List V} {ds : List PyData} (hp : H p = none) (hz : vs.length ≤ sizeLine) (h : IsAll K (Fz B H) vs ds) : Top K (p :: B) (upd H p (.lst vs)) p (.list ds) :=
  .inl ⟨ds, vs, rfl, upd_same, hz, h.mono fun a o q => by
    have q := fz_some.mp q
    have ne : a ≠ p := ne_of_none q.2 hp
    exact fz_some.mpr ⟨fun z => (List.mem_cons.mp z).elim ne q.1, (Ex.new hp) a o q.2⟩⟩
end
theorem GI.fresh {K : PySem.W.Frag} {g : Gx} {B : List Addr} {H H' : Hp} {S : Store} {p : Addr} (i : GI K g B H S) (e : Ex H H') (hp : H p = none) (ht : H' p ≠ none) : GI K g (p :: B) H' S := by
  have ex : Ex (Fz B H) (Fz (p :: B) H') := fun a u q => by
    have q := fz_some.mp q
    have ne : a ≠ p := ne_of_none q.2 hp
    exact fz_some.mpr ⟨fun z => (List.mem_cons.mp z).elim ne q.1, e a u q.2⟩
  refine ⟨Paired.imp i.st fun p xs ⟨vs, a, z, b⟩ => ⟨vs, e _ _ a, z, b.mono ex⟩, i.tabs.ext e, fun a ha => List.mem_cons_of_mem _ (i.sub a ha), fun a ha => ?_, i.nd, fun l hl => ⟨e _ _ (i.cd l hl).1, (i.cd l hl).2.trans ex⟩⟩
  rcases List.mem_cons.mp ha with rfl | ha
  · exact ht
  · intro z
    exact i.kn a ha (e.free z)
def ofO {α : Type} (o : Option α) (S : Store) : R α := match o with | some a => .ok a S | none => .bad
@[simp] theorem ofO_some {α : Type} (a : α) (S : Store) : ofO (some a) S = .ok a S := rfl
@[simp] theorem ofO_none {α : Type} (S : Store) : ofO (none : Option α) S = .bad := rfl
/-! ### names and constants -/
def dVar (i : Nat) : DE := fun ρ S => ofO (ρ.getD i none) S
theorem ev_var {c : Cc} {m : List Md} {i : Nat} {x : Str} {pos : Pos} (hm : m[i]? = some .fz) (hp : PE c.X (.Name x pos) (tVar i)) : EV c m (.Name x pos) (dVar i) := by
  intro σ H ρ S B0 B ow Q fr gi g
  refine WE.of hp ?_
  have hs := fr.slot i _ hm
  unfold dVar at g
  cases e : ρ.getD i none with
  | none => rw [e] at g; exact absurd rfl g.not_bad
  | some d =>
    rw [e] at g hs
    obtain ⟨v, hv, q⟩ := hs d rfl
    refine ⟨v, ?_, g.ok0 gi q⟩
    rw [List.getD_eq_getElem?_getD] at hv
    cases h2 : σ[i]? with
    | none => rw [h2] at hv; cases hv
    | some o => rw [h2] at hv; rw [show o = some v from hv]
/-- a list, dict of the slot's own, read -/
theorem eb_own {c : Cc} {m : List Md} {i : Nat} {x : Str} {pos : Pos} (hm : m[i]? = some .own) (hp : PE c.X (.Name x pos) (tVar i)) : EB c m (.Name x pos) (dVar i) := by
  intro σ H ρ S B0 B ow Q fr gi g
  refine WE.of hp ?_
  obtain ⟨d, p, e, hv, hw, t⟩ := fr.slot i _ hm
  unfold dVar at g
  rw [e] at g
  refine ⟨.ref p, ?_, g.ok0 gi (.inr ⟨p, rfl, fun z => hw.2.1 (fr.gsub p z), t⟩)⟩
  rw [List.getD_eq_getElem?_getD] at hv
  cases h2 : σ[i]? with
  | none => rw [h2] at hv; cases hv
  | some o => rw [h2] at hv; rw [show o = some _ from hv]
def dC (d : PyData) : DE := fun _ S => .ok d S
section
variable {c : Cc} {m : List Md}
theorem ev_const {e : Expr} {v : V} {d : PyData} (hp : PE c.X e (tC v)) (h : ∀ H, Is c.X.K H v d) : EV c m e (dC d) := fun σ H ρ S B0 B ow Q fr gi g => WE.of hp (g.ok0 gi (h _))
theorem ev_int {i : Int} {j pos} : EV c m (.Constant (.int i) j pos) (dC (.int i)) := ev_const pe_int fun _ => .int i
theorem ev_bl {i : Bool} {j pos} : EV c m (.Constant (.bool i) j pos) (dC (.bool i)) := ev_const pe_bl fun _ => .bl i
theorem ev_str {i : Str} {j pos} : EV c m (.Constant (.str i) j pos) (dC (.str i)) := ev_const pe_str fun _ => .str i
theorem ev_non {j pos} : EV c m (.Constant .none j pos) (dC .none) := ev_const pe_non fun _ => .non
/-- a constant of the module -/
theorem ev_glob {x : Str} {v : V} {u : Value} {d : PyData} {pos : Pos} (hg : Gl c.X x) (hm : c.X.mg x = some u) (r : RelV v u) (h : ∀ H, Is c.X.K H v d) (hd : (x == ("__debug__" : Str)) = false := by decide) : EV c m (.Name x pos) (dC d) := ev_const (pe_glob hg hm r hd) h
/-! ### lists of arguments, displays -/
def dNil : DA := fun _ S => .ok [] S
def dCons (a : DE) (r : DA) : DA := fun ρ S => (a ρ S).bind fun x S1 => (r ρ S1).bind fun xs S2 => .ok (x :: xs) S2
theorem ea_nil : EA c m [] dNil := fun σ H ρ S B0 B ow Q fr gi g => WA.of pa_nil (g.ok0 gi .nil)
theorem ea_cons {e : Expr} {es : List Expr} {a : DE} {r : DA} (ha : EV c m e a) (hr : EA c m es r) (hs : starEach (e :: es) c.X.env = (false, eval e c.X.env) :: starEach es c.X.env := by rfl) : EA c m (e :: es) (dCons a r) := by
  intro σ H ρ S B0 B ow Q fr gi g
  refine WA.of (pa_cons we wa hs) (ha σ H ρ S B0 B ow _ fr gi (g.bind fun d S' v H' _ ev gi' gd g' => ?_))
  refine hr σ H' ρ S' B0 B ow _ (fr.evo ev) gi' (g'.bind fun ds S2 vs H2 _ ev2 gi2 gd2 g2 => ?_)
  exact g2.ok0 gi2 (.cons (gd.mono (ev2.fz gi2.sub)) gd2)
def sz (n : Nat) : Bool := decide (n ≤ sizeLine)
def dTup (a : DA) : DE := fun ρ S => (a ρ S).bind fun xs S1 => if sz xs.length then .ok (.tuple xs) S1 else .bad
def dLst (a : DA) : DE := fun ρ S => (a ρ S).bind fun xs S1 => if sz xs.length then .ok (.list xs) S1 else .bad
theorem ev_tup {es : List Expr} {a : DA} {x1 pos} (ha : EA c m es a) : EV c m (.Tuple es x1 pos) (dTup a) := by
  intro σ H ρ S B0 B ow Q fr gi g
  refine WE.of (pe_tup wa) (ha σ H ρ S B0 B ow _ fr gi (g.bind fun ds S' vs H' _ ev gi' gd g' => ?_))
  unfold sz at g'
  by_cases hz : ds.length ≤ sizeLine
  · simp only [hz, decide_true, if_true] at g'
    refine ⟨by rw [gd.length]; exact hz, fun p hp => g'.ok (Ex.new hp).evo (gi'.ex (Ex.new hp)) (is_newT gi'.kn hp (by rw [gd.length]; exact hz) gd)⟩
  · simp [hz] at g'
    exact absurd rfl g'.not_bad
theorem eo_lst {es : List Expr} {a : DA} {pos} (ha : EA c m es a) : EO c m (.List es pos) (dLst a) := by
  intro σ H ρ S B0 B ow Q fr gi g
  refine WE.of (pe_lst wa) (ha σ H ρ S B0 B ow _ fr gi (g.bind (G1 := fun _ H' v d => IsAll c.X.K (Fz B H') v d) fun ds S' vs H' _ ev gi' gd g' => ?_))
  unfold sz at g'
  by_cases hz : ds.length ≤ sizeLine
  · simp only [hz, decide_true, if_true] at g'
    refine ⟨by rw [gd.length]; exact hz, fun p hp => g'.ok (Ex.new hp).evo (gi'.ex (Ex.new hp)) ⟨p, rfl, ?_, top_newL hp (by rw [gd.length]; exact hz) gd, gi'.fresh (Ex.new hp) hp (by rw [upd_same]; intro z; cases z)⟩⟩
    cases q : H p with
    | none => rfl
    | some o =>
      exfalso
      by_cases hG : p ∈ c.g.G
      · exact gi'.kn p (gi'.sub p hG) hp
      · rw [ev p o hG q] at hp; cases hp
  · simp [hz] at g'
    exact absurd rfl g'.not_bad
end
/-- what was free is free ahead -/
theorem free_back {K : PySem.W.Frag} {g : Gx} {B : List Addr} {H H' : Hp} {S : Store} {p : Addr} (ev : Evo g.G H H') (gi : GI K g B H' S) (hp : H' p = none) : H p = none := by
  cases q : H p with
  | none => rfl
  | some o =>
    exfalso
    by_cases hG : p ∈ g.G
    · exact gi.kn p (gi.sub p hG) hp
    · rw [ev p o hG q] at hp; cases hp
/-! ### operators by values -/
/-- what an operator is worth on data: a value that is there, or one that is laid anew -/
def OpD (K : PySem.W.Frag) (g : Gx) (r : R2) (F : PyData → PyData → Option PyData) : Prop := ∀ (B : List Addr) (H : Hp) (x y : V) (dx dy d : PyData) (Q : VK), (∀ a ∈ B, H a ≠ none) → (∀ a ∈ g.G, a ∈ B) →
  Rb K g B H x dx → Rb K g B H y dy → F dx dy = some d → (∀ v H', Ex H H' → Is K (Fz B H') v d → Q v H') → r x y H Q
/-- .. always a new list -/
def OpO (K : PySem.W.Frag) (g : Gx) (r : R2) (F : PyData → PyData → Option PyData) : Prop := ∀ (B : List Addr) (H : Hp) (x y : V) (dx dy d : PyData) (Q : VK), (∀ a ∈ B, H a ≠ none) → (∀ a ∈ g.G, a ∈ B) →
  Rb K g B H x dx → Rb K g B H y dy → F dx dy = some d → (∀ p H', Ex H H' → H p = none → Top K (p :: B) H' p d → Q (.ref p) H') → r x y H Q
def d2 (F : PyData → PyData → Option PyData) (a b : DE) : DE := fun ρ S => (a ρ S).bind fun x S1 => (b ρ S1).bind fun y S2 => ofO (F x y) S2
section
variable {c : Cc} {m : List Md} {a b : Expr} {da db : DE} {r r1 r2 : R2} {F : PyData → PyData → Option PyData} {pos : Pos}
theorem OpR.or {f : Value → Value → Sem Value} (h1 : OpR c.X f r1) (h2 : OpR c.X f r2) : OpR c.X f (fun x y H Q => r1 x y H Q ∨ r2 x y H Q) := fun pins s σ H x y v u Q I rx ry h => by
  rcases h with h | h
  · exact h1 pins s σ H x y v u Q I rx ry h
  · exact h2 pins s σ H x y v u Q I rx ry h
theorem two_read (hd : OpD c.X.K c.g r F) (ha : EB c m a da) (hb : EB c m b db) {σ : L2.St} {H : Hp} {ρ : Env} {S : Store} {B0 B : List Addr} {ow : Addr → Nat} {Q : VK} (fr : Frame c.X.K c.g B0 B ow m ρ σ H) (gi : GI c.X.K c.g B H S)
    (g : Goal c B H σ (d2 F da db ρ S) (fun _ H' v d => Is c.X.K (Fz B H') v d) Q) : tOp r (WE c.X a) (WE c.X b) σ H Q := by
  refine ha σ H ρ S B0 B ow _ fr gi (g.bind fun d S' v H' _ ev gi' gd g' => ?_)
  refine hb σ H' ρ S' B0 B ow _ (fr.evo ev) gi' (g'.bind fun e S2 w H2 _ ev2 gi2 gd2 g2 => ?_)
  cases q : F d e with
  | none => rw [q] at g2; exact absurd rfl g2.not_bad
  | some z =>
    rw [q] at g2
    exact hd B H2 v w d e z Q gi2.kn gi2.sub (Rb.evo gd gi'.sub ev2) gd2 q fun u H3 x3 i3 => g2.ok x3.evo (gi2.ex x3) i3
theorem ev_op {op : Operator} (ho : OpR c.X (binaryOp op) r) (hd : OpD c.X.K c.g r F) (ha : EB c m a da) (hb : EB c m b db) : EV c m (.BinOp a op b pos) (d2 F da db) := fun σ H ρ S B0 B ow Q fr gi g =>
  WE.of (pe_op ho we we) (two_read hd ha hb fr gi g)
theorem ev_cmp {op : CmpOp} (ho : OpR c.X (compareOp op) r) (hd : OpD c.X.K c.g r F) (ha : EB c m a da) (hb : EB c m b db) (hm : behindInMarks op b = false) : EV c m (.Compare a [op] [b] pos) (d2 F da db) := fun σ H ρ S B0 B ow Q fr gi g =>
  WE.of (pe_cmpR ho we we hm) (two_read hd ha hb fr gi g)
theorem eo_op {op : Operator} (ho : OpR c.X (binaryOp op) r) (hd : OpO c.X.K c.g r F) (ha : EB c m a da) (hb : EB c m b db) : EO c m (.BinOp a op b pos) (d2 F da db) := by
  intro σ H ρ S B0 B ow Q fr gi g
  refine WE.of (pe_op ho we we) ?_
  refine ha σ H ρ S B0 B ow _ fr gi (g.bind fun d S' v H' _ ev gi' gd g' => ?_)
  refine hb σ H' ρ S' B0 B ow _ (fr.evo ev) gi' (g'.bind (G1 := fun _ H' v d => Is c.X.K (Fz B H') v d ∨ ∃ p, v = .ref p ∧ p ∉ c.g.G ∧ Top c.X.K B H' p d) fun e S2 w H2 _ ev2 gi2 gd2 g2 => ?_)
  cases q : F d e with
  | none => rw [q] at g2; exact absurd rfl g2.not_bad
  | some z =>
    rw [q] at g2
    refine hd B H2 v w d e z Q gi2.kn gi2.sub (Rb.evo gd gi'.sub ev2) gd2 q fun p H3 x3 hp i3 => g2.ok x3.evo (gi2.ex x3) ⟨p, rfl, ?_, i3, gi2.fresh x3 hp i3.some⟩
    exact free_back ev gi' (free_back ev2 gi2 hp)
end
/-! ### whole numbers -/
def fI (C : Int → Int → Bool) (f : Int → Int → Int) : PyData → PyData → Option PyData
  | .int i, .int j => if C i j then some (.int (f i j)) else none
  | _, _ => none
theorem opd_I {K : PySem.W.Frag} {g : Gx} {P : Int → Int → Prop} {C : Int → Int → Bool} {f : Int → Int → Int} (h : ∀ i j, C i j = true → P i j) : OpD K g (rI P fun i j => .int (f i j)) (fI C f) := by
  intro B H x y dx dy d Q _ _ hx hy e k
  unfold fI at e
  split at e
  · rename_i i j
    split at e
    · rename_i hc
      cases e
      obtain rfl := hx.int
      obtain rfl := hy.int
      exact ⟨i, j, rfl, rfl, h i j hc, k _ _ (Ex.refl _) (.int _)⟩
    · cases e
  · cases e
theorem opd_I0 {K : PySem.W.Frag} {g : Gx} {f : Int → Int → Int} : OpD K g (rI0 fun i j => .int (f i j)) (fI (fun _ _ => true) f) := by
  intro B H x y dx dy d Q _ _ hx hy e k
  unfold fI at e
  split at e
  · rename_i i j
    cases e
    obtain rfl := hx.int
    obtain rfl := hy.int
    exact ⟨i, j, rfl, rfl, k _ _ (Ex.refl _) (.int _)⟩
  · cases e
/-- a comparison of two whole numbers -/
def fB (f : Int → Int → Bool) : PyData → PyData → Option PyData
  | .int i, .int j => some (.bool (f i j))
  | _, _ => none
theorem opd_B {K : PySem.W.Frag} {g : Gx} {f : Int → Int → Bool} : OpD K g (rI0 fun i j => .bl (f i j)) (fB f) := by
  intro B H x y dx dy d Q _ _ hx hy e k
  unfold fB at e
  split at e
  · rename_i i j
    cases e
    obtain rfl := hx.int
    obtain rfl := hy.int
    exact ⟨i, j, rfl, rfl, k _ _ (Ex.refl _) (.bl _)⟩
  · cases e
/-- either of two -/
theorem OpD.or {K : PySem.W.Frag} {g : Gx} {r1 r2 : R2} {F1 F2 F : PyData → PyData → Option PyData} (h1 : OpD K g r1 F1) (h2 : OpD K g r2 F2) (h : ∀ x y d, F x y = some d → F1 x y = some d ∨ F2 x y = some d) : OpD K g (fun x y H Q => r1 x y H Q ∨ r2 x y H Q) F := fun B H x y dx dy d Q a b hx hy e k => by
  rcases h dx dy d e with e | e
  · exact .inl (h1 B H x y dx dy d Q a b hx hy e k)
  · exact .inr (h2 B H x y dx dy d Q a b hx hy e k)
/-- and if the first gives nothing the second -/
def orF (F1 F2 : PyData → PyData → Option PyData) : PyData → PyData → Option PyData := fun x y => match F1 x y with | some d => some d | none => F2 x y
theorem orF_or {F1 F2 : PyData → PyData → Option PyData} (x y d : PyData) (h : orF F1 F2 x y = some d) : F1 x y = some d ∨ F2 x y = some d := by
  unfold orF at h
  cases e : F1 x y with
  | some z => rw [e] at h; exact .inl h
  | none => rw [e] at h; exact .inr h
/-! ### +, -, *, //, %, ** -/
def fAddS : PyData → PyData → Option PyData
  | .str a, .str b => if sz (a.length + b.length) then some (.str (a ++ b)) else none
  | _, _ => none
def fAddT : PyData → PyData → Option PyData
  | .tuple a, .tuple b => if sz (a.length + b.length) then some (.tuple (a ++ b)) else none
  | _, _ => none
def fAddL : PyData → PyData → Option PyData
  | .list a, .list b => if sz (a.length + b.length) then some (.list (a ++ b)) else none
  | _, _ => none
def fAdd : PyData → PyData → Option PyData
  | .int i, .int j => some (.int (i + j))
  | .str a, .str b => if sz (a.length + b.length) then some (.str (a ++ b)) else none
  | .tuple a, .tuple b => if sz (a.length + b.length) then some (.tuple (a ++ b)) else none
  | .list a, .list b => if sz (a.length + b.length) then some (.list (a ++ b)) else none
  | _, _ => none
theorem sz_le {n : Nat} (h : sz n = true) : n ≤ sizeLine := of_decide_eq_true h
theorem opd_addS {K : PySem.W.Frag} {g : Gx} : OpD K g (fun x y H Q => ∃ i j, x = .str i ∧ y = .str j ∧ i.length + j.length ≤ sizeLine ∧ Q (.str (i ++ j)) H) fAddS := by
  intro B H x y dx dy d Q _ _ hx hy e k
  unfold fAddS at e
  split at e
  · rename_i a b
    split at e
    · rename_i hz
      cases e
      obtain rfl := hx.str
      obtain rfl := hy.str
      exact ⟨a, b, rfl, rfl, sz_le hz, k _ _ (Ex.refl _) (.str _)⟩
    · cases e
  · cases e
theorem opd_addT {K : PySem.W.Frag} {g : Gx} : OpD K g (rCatA K) fAddT := by
  intro B H x y dx dy d Q hn hg hx hy e k
  unfold fAddT at e
  split at e
  · rename_i a b
    split at e
    · rename_i hz
      cases e
      obtain ⟨p, vs, rfl, h1, s1, z1⟩ := hx.tup hg
      obtain ⟨q, ws, rfl, h2, s2, z2⟩ := hy.tup hg
      refine ⟨p, q, vs, ws, rfl, rfl, s1 H (Evo.refl _ _), s2 H (Evo.refl _ _), by rw [h1.length, h2.length]; exact sz_le hz, fun e => ?_, fun _ e => ?_, fun _ _ r hr => ?_⟩
      · subst e
        cases h1
        rcases hy with hy | ⟨r, _, _, ⟨_, _, z, _⟩ | ⟨_, _, z, _⟩ | ⟨_, _, z, _⟩⟩
        · exact k _ _ (Ex.refl _) hy
        all_goals cases z
      · subst e
        cases h2
        rcases hx with hx | ⟨r, _, _, ⟨_, _, z, _⟩ | ⟨_, _, z, _⟩ | ⟨_, _, z, _⟩⟩
        · exact k _ _ (Ex.refl _) (by rw [List.append_nil]; exact hx)
        all_goals cases z
      · exact k _ _ (Ex.new hr) (is_newT hn hr (by rw [List.length_append, h1.length, h2.length]; exact sz_le hz) (h1.append h2))
    · cases e
  · cases e
theorem opo_addL {K : PySem.W.Frag} {g : Gx} : OpO K g rCat fAddL := by
  intro B H x y dx dy d Q hn hg hx hy e k
  unfold fAddL at e
  split at e
  · rename_i a b
    split at e
    · rename_i hz
      cases e
      obtain ⟨p, vs, rfl, h1, s1, z1⟩ := hx.lst hg
      obtain ⟨q, ws, rfl, h2, s2, z2⟩ := hy.lst hg
      exact ⟨p, q, vs, ws, rfl, rfl, s1 H (Evo.refl _ _), s2 H (Evo.refl _ _), by rw [h1.length, h2.length]; exact sz_le hz, fun r hr => k _ _ (Ex.new hr) hr (top_newL hr (by rw [List.length_append, h1.length, h2.length]; exact sz_le hz) (h1.append h2))⟩
    · cases e
  · cases e
theorem OpO.d {K : PySem.W.Frag} {g : Gx} {r : R2} {F : PyData → PyData → Option PyData} (h : OpO K g r F) : OpD K g r F := fun B H x y dx dy d Q hn hg hx hy e k =>
  h B H x y dx dy d Q hn hg hx hy e fun p H' ex hp t => by
    have np : p ∉ B := new_notin hn hp
    exact k _ _ ex (t.is (fz_anti fun a ha => List.mem_cons_of_mem _ ha) fun o q => fz_some.mpr ⟨np, q⟩)
theorem fAdd_or (x y d : PyData) (h : fAdd x y = some d) : fI (fun _ _ => true) (fun i j => i + j) x y = some d ∨ orF fAddS (orF fAddT fAddL) x y = some d := by
  unfold fAdd at h
  split at h
  · exact .inl (by simpa [fI] using h)
  · right; simp only [orF, fAddS]; split at h <;> simp_all
  · right; simp only [orF, fAddS, fAddT]; split at h <;> simp_all
  · right; simp only [orF, fAddS, fAddT, fAddL]; split at h <;> simp_all
  · cases h
section
variable {c : Cc} {m : List Md} {a b : Expr} {da db : DE} {pos : Pos}
theorem ev_add (ha : EB c m a da) (hb : EB c m b db) : EV c m (.BinOp a .Add b pos) (d2 fAdd da db) :=
  ev_op (OpR.or op_add (OpR.or op_add_str (OpR.or op_catA op_cat))) (OpD.or opd_I0 (OpD.or opd_addS (OpD.or opd_addT opo_addL.d orF_or) orF_or) fAdd_or) ha hb
theorem eo_add (ha : EB c m a da) (hb : EB c m b db) : EO c m (.BinOp a .Add b pos) (d2 fAddL da db) := eo_op op_cat opo_addL ha hb
theorem ev_sub (ha : EB c m a da) (hb : EB c m b db) : EV c m (.BinOp a .Sub b pos) (d2 (fI (fun _ _ => true) fun i j => i - j) da db) := ev_op op_sub opd_I0 ha hb
end
end PD
/-! PDc: more operators, comparisons, subscripts, tests. -/
namespace PD
open PySem PySem.Spec PyProof.Rows L2
/-! ### *, //, %, **, shifts, masks -/
def cMul (i j : Int) : Bool := decide (-(2 ^ 64) < i ∧ i < 2 ^ 64) || decide (-(2 ^ 64) < j ∧ j < 2 ^ 64)
theorem cMul_ok (i j : Int) (h : cMul i j = true) : CMul i j := by
  unfold cMul at h
  simp only [Bool.or_eq_true, decide_eq_true_eq] at h
  exact h
def cPow (i j : Int) : Bool := decide (0 ≤ j ∧ j ≤ 1000000 ∧ i.natAbs < 2 ^ 64)
def cDiv (_ j : Int) : Bool := decide (0 < j ∧ j.natAbs.log2 < 9000)
theorem cDiv_ok (i j : Int) (h : cDiv i j = true) : CDivW i j := by
  exact of_decide_eq_true (p := 0 < j ∧ j.natAbs.log2 < 9000) h
theorem cPow_ok (i j : Int) (h : cPow i j = true) : CPow i j := by
  exact of_decide_eq_true (p := 0 ≤ j ∧ j ≤ 1000000 ∧ i.natAbs < 2 ^ 64) h
def cMod (_ j : Int) : Bool := decide (0 < j)
def cShr (_ j : Int) : Bool := decide (0 ≤ j)
/-- a tuple, a list, a text as often as told -/
def fRepT : PyData → PyData → Option PyData
  | .tuple a, .int k => if !a.isEmpty && decide (2 ≤ k ∧ k ≤ 1000 ∧ a.length ≤ 1000) then some (.tuple (List.replicate k.toNat a).flatten) else none
  | _, _ => none
def fRepL : PyData → PyData → Option PyData
  | .list a, .int k => if decide (-(2 ^ 63) ≤ k ∧ k < 2 ^ 63 ∧ a.length * k.toNat ≤ sizeLine) then some (.list (List.replicate k.toNat a).flatten) else none
  | _, _ => none
theorem IsAll.rep {K : PySem.W.Frag} {H : Hp} {vs : List V} {ds : List PyData} (h : IsAll K H vs ds) : ∀ n : Nat, IsAll K H (List.replicate n vs).flatten (List.replicate n ds).flatten
  | 0 => .nil
  | n + 1 => by
    rw [List.replicate_succ, List.replicate_succ, List.flatten_cons, List.flatten_cons]
    exact h.append (IsAll.rep h n)
theorem opd_repT {K : PySem.W.Frag} {g : Gx} : OpD K g (rRepT K) fRepT := by
  intro B H x y dx dy d Q hn hg hx hy e k
  unfold fRepT at e
  split at e
  · rename_i a j
    split at e
    · rename_i hc
      cases e
      rw [Bool.and_eq_true] at hc
      have hc2 := of_decide_eq_true hc.2
      obtain ⟨p, vs, rfl, h1, s1, z1⟩ := hx.tup hg
      obtain rfl := hy.int
      refine ⟨p, j, vs, rfl, rfl, s1 H (Evo.refl _ _), fun e => ?_, hc2.1, hc2.2.1, by rw [h1.length]; exact hc2.2.2, fun r hr => k _ _ (Ex.new hr) (is_newT hn hr (by rw [lm_len_rep_flat, h1.length, sizeLine_eq]; have a1 : j.toNat * a.length ≤ 1000 * 1000 := Nat.mul_le_mul (by omega) hc2.2.2; omega) (h1.rep _))⟩
      subst e
      cases h1
      exact absurd hc.1 (by decide)
    · cases e
  · cases e
theorem opo_repL {K : PySem.W.Frag} {g : Gx} : OpO K g rRep fRepL := by
  intro B H x y dx dy d Q hn hg hx hy e k
  unfold fRepL at e
  split at e
  · rename_i a j
    split at e
    · rename_i hc
      cases e
      have hc := of_decide_eq_true hc
      obtain ⟨p, vs, rfl, h1, s1, z1⟩ := hx.lst hg
      obtain rfl := hy.int
      exact ⟨p, j, vs, rfl, rfl, s1 H (Evo.refl _ _), hc.1, hc.2.1, by rw [h1.length]; exact hc.2.2, fun r hr => k _ _ (Ex.new hr) hr (top_newL hr (by rw [lm_len_rep_flat, h1.length, Nat.mul_comm]; exact hc.2.2) (h1.rep _))⟩
    · cases e
  · cases e
def fMul : PyData → PyData → Option PyData := orF (fI cMul fun i j => i * j) (orF fRepT fRepL)
section
variable {c : Cc} {m : List Md} {a b : Expr} {da db : DE} {pos : Pos}
theorem ev_mul (ha : EB c m a da) (hb : EB c m b db) : EV c m (.BinOp a .Mult b pos) (d2 fMul da db) :=
  ev_op (OpR.or op_mul (OpR.or op_repT op_rep)) (OpD.or (opd_I cMul_ok) (OpD.or opd_repT opo_repL.d orF_or) orF_or) ha hb
theorem eo_mul (ha : EB c m a da) (hb : EB c m b db) : EO c m (.BinOp a .Mult b pos) (d2 fRepL da db) := eo_op op_rep opo_repL ha hb
theorem ev_fdiv (ha : EB c m a da) (hb : EB c m b db) : EV c m (.BinOp a .FloorDiv b pos) (d2 (fI cDiv fun i j => i / j) da db) := ev_op op_fdivW (opd_I cDiv_ok) ha hb
theorem ev_mod (ha : EB c m a da) (hb : EB c m b db) : EV c m (.BinOp a .Mod b pos) (d2 (fI cMod fun i j => i % j) da db) := ev_op op_mod (opd_I fun i j h => of_decide_eq_true h) ha hb
theorem ev_pow (ha : EB c m a da) (hb : EB c m b db) : EV c m (.BinOp a .Pow b pos) (d2 (fI cPow fun i j => i ^ j.toNat) da db) := ev_op op_pow (opd_I cPow_ok) ha hb
theorem ev_shl (ha : EB c m a da) (hb : EB c m b db) : EV c m (.BinOp a .LShift b pos) (d2 (fI cPow fun i j => i * 2 ^ j.toNat) da db) := ev_op op_shl (opd_I cPow_ok) ha hb
theorem ev_shr (ha : EB c m a da) (hb : EB c m b db) : EV c m (.BinOp a .RShift b pos) (d2 (fI cShr fun i j => i / 2 ^ j.toNat) da db) := ev_op op_shr (opd_I fun i j h => of_decide_eq_true h) ha hb
theorem ev_and_ (ha : EB c m a da) (hb : EB c m b db) : EV c m (.BinOp a .BitAnd b pos) (d2 (fI (fun _ _ => true) Builtin.bitAnd) da db) := ev_op op_and opd_I0 ha hb
def d1 (F : PyData → Option PyData) (a : DE) : DE := fun ρ S => (a ρ S).bind fun x S1 => ofO (F x) S1
def fNeg : PyData → Option PyData | .int i => some (.int (-i)) | _ => none
theorem ev_neg (ha : EV c m a da) : EV c m (.UnaryOp .USub a pos) (d1 fNeg da) := by
  intro σ H ρ S B0 B ow Q fr gi g
  refine WE.of (pe_un un_neg we) (ha σ H ρ S B0 B ow _ fr gi (g.bind fun d S' v H' _ ev gi' gd g' => ?_))
  cases gd with
  | int i => exact ⟨i, rfl, g'.ok0 gi' (.int _)⟩
  | _ => exact absurd rfl g'.not_bad
/-! ### comparisons -/
def fEqD (x y : PyData) : Option PyData := if SeqAt.shaped x && SeqAt.shaped y then some (.bool (PyData.eqv x y)) else none
def fNeD (x y : PyData) : Option PyData := if SeqAt.shaped x && SeqAt.shaped y then some (.bool (!PyData.eqv x y)) else none
def fEqS : PyData → PyData → Option PyData | .str a, .str b => some (.bool (decide (a = b))) | _, _ => none
def fNeS : PyData → PyData → Option PyData | .str a, .str b => some (.bool (!decide (a = b))) | _, _ => none
def fEq : PyData → PyData → Option PyData := orF fEqS fEqD
def fNe : PyData → PyData → Option PyData := orF fNeS fNeD
variable {K : PySem.W.Frag} {gx : Gx}
theorem opd_eqD : OpD K gx (rEqD K) fEqD := by
  intro B H x y dx dy d Q hn hg hx hy e k
  unfold fEqD at e
  split at e
  · rename_i hc
    cases e
    have hc := Bool.and_eq_true_iff.mp hc
    exact ⟨dx, dy, hx.dp (SeqAt.canLay_of_shaped hc.1), hy.dp (SeqAt.canLay_of_shaped hc.2), hc.1, hc.2, k _ _ (Ex.refl _) (.bl _)⟩
  · cases e
theorem opd_neD : OpD K gx (rNeD K) fNeD := by
  intro B H x y dx dy d Q hn hg hx hy e k
  unfold fNeD at e
  split at e
  · rename_i hc
    cases e
    have hc := Bool.and_eq_true_iff.mp hc
    exact ⟨dx, dy, hx.dp (SeqAt.canLay_of_shaped hc.1), hy.dp (SeqAt.canLay_of_shaped hc.2), hc.1, hc.2, k _ _ (Ex.refl _) (.bl _)⟩
  · cases e
theorem vstr_inj {a b : Str} : (V.str a = V.str b) = (a = b) := propext ⟨fun h => V.str.inj h, fun h => by rw [h]⟩
theorem opd_eqS : OpD K gx rEq fEqS := by
  intro B H x y dx dy d Q hn hg hx hy e k
  unfold fEqS at e
  split at e
  · cases e
    obtain rfl := hx.str
    obtain rfl := hy.str
    exact ⟨rfl, by simp only [vstr_inj]; exact k _ _ (Ex.refl _) (.bl _)⟩
  · cases e
theorem opd_neS : OpD K gx rNe fNeS := by
  intro B H x y dx dy d Q hn hg hx hy e k
  unfold fNeS at e
  split at e
  · cases e
    obtain rfl := hx.str
    obtain rfl := hy.str
    exact ⟨rfl, by simp only [vstr_inj]; exact k _ _ (Ex.refl _) (.bl _)⟩
  · cases e
theorem ev_eq (hu : c.X.A.units + 64 < cLine) (ha : EB c m a da) (hb : EB c m b db) : EV c m (.Compare a [.Eq] [b] pos) (d2 fEq da db) :=
  ev_cmp (OpR.or op_eq (op_eqD hu)) (OpD.or opd_eqS opd_eqD orF_or) ha hb (nomark _)
theorem ev_ne (hu : c.X.A.units + 64 < cLine) (ha : EB c m a da) (hb : EB c m b db) : EV c m (.Compare a [.NotEq] [b] pos) (d2 fNe da db) :=
  ev_cmp (OpR.or op_ne (op_neD hu)) (OpD.or opd_neS opd_neD orF_or) ha hb (nomark _)
/-- the whole numbers of a tuple of them -/
def intsOf : List PyData → Option (List Int)
  | [] => some []
  | .int i :: r => (intsOf r).map (i :: ·)
  | _ :: _ => none
theorem intsOf_eq : ∀ {ds : List PyData} {ns : List Int}, intsOf ds = some ns → ds = ns.map .int
  | [], ns, h => by cases h; rfl
  | d :: r, ns, h => by
    cases d with
    | int i =>
      unfold intsOf at h
      cases e : intsOf r with
      | none => rw [e] at h; cases h
      | some ms => rw [e] at h; cases h; rw [intsOf_eq e]; rfl
    | _ => cases h
@[simp] theorem intsOf_ints : ∀ {ns : List Int}, intsOf (ns.map .int) = some ns
  | [] => rfl
  | n :: ns => by
    show (intsOf (ns.map .int)).map (n :: ·) = _
    rw [intsOf_ints]
    rfl
def fTT (f : List Int → List Int → Bool) : PyData → PyData → Option PyData
  | .tuple xs, .tuple ys => (intsOf xs).bind fun ns => (intsOf ys).bind fun ms => some (.bool (f ns ms))
  | _, _ => none
theorem opd_TT {r : R2} {f : List Int → List Int → Bool} (hr : ∀ x y H Q, r x y H Q = ∃ (a b : Addr) (ns ms : List Int), x = .ref a ∧ y = .ref b ∧ SqT K H a (ns.map V.int) ∧ SqT K H b (ms.map V.int) ∧ Q (.bl (f ns ms)) H) : OpD K gx r (fTT f) := by
  intro B H x y dx dy d Q hn hg hx hy e k
  rw [hr]
  unfold fTT at e
  split at e
  · rename_i xs ys
    cases e1 : intsOf xs with
    | none => rw [e1] at e; cases e
    | some ns =>
      cases e2 : intsOf ys with
      | none => rw [e1, e2] at e; cases e
      | some ms =>
        rw [e1, e2] at e
        cases e
        obtain rfl := intsOf_eq e1
        obtain rfl := intsOf_eq e2
        obtain ⟨p, vs, rfl, h1, s1, z1⟩ := hx.tup hg
        obtain ⟨q, ws, rfl, h2, s2, z2⟩ := hy.tup hg
        obtain rfl := h1.ints
        obtain rfl := h2.ints
        exact ⟨p, q, ns, ms, rfl, rfl, s1 H (Evo.refl _ _), s2 H (Evo.refl _ _), k _ _ (Ex.refl _) (.bl _)⟩
  · cases e
theorem lexLe_at (z : Bool) : ∀ (k i : Nat) (ns ms : List Int), min (ns.length - i) (ms.length - i) = k → i ≤ ns.length → i ≤ ms.length → z = decide (ns.length ≤ ms.length) →
    Ob.lexAt (fun j => decide (ns.getD j 0 = ms.getD j 0)) (fun j => decide (ns.getD j 0 ≤ ms.getD j 0)) z i k = lexLeI (ns.drop i) (ms.drop i)
  | 0, i, ns, ms, h, l1, l2, hz => by
    rw [Ob.lexAt_zero, hz]
    by_cases h1 : ns.length ≤ i
    · rw [List.drop_of_length_le h1]
      simp only [lexLeI]
      exact decide_eq_true (by omega)
    · have h2 : ms.length ≤ i := by omega
      rw [List.drop_of_length_le h2]
      cases e : ns.drop i with
      | nil => rw [List.drop_eq_nil_iff] at e; omega
      | cons x r => simp only [lexLeI]; exact decide_eq_false (by omega)
  | k + 1, i, ns, ms, h, l1, l2, hz => by
    have h1 : i < ns.length := by omega
    have h2 : i < ms.length := by omega
    rw [Ob.lexAt_succ, lexLe_at z k (i + 1) ns ms (by omega) (by omega) (by omega) hz, List.drop_eq_getElem_cons h1, List.drop_eq_getElem_cons h2]
    have e1 : ns.getD i 0 = ns[i] := by simp [List.getD, h1]
    have e2 : ms.getD i 0 = ms[i] := by simp [List.getD, h2]
    simp only [lexLeI, e1, e2, decide_eq_true_eq]
theorem lexLe_eq (ns ms : List Int) : Ob.lexAt (fun j => decide (ns.getD j 0 = ms.getD j 0)) (fun j => decide (ns.getD j 0 ≤ ms.getD j 0)) (decide (ns.length ≤ ms.length)) 0 (min ns.length ms.length) = lexLeI ns ms := by
  have h := lexLe_at (decide (ns.length ≤ ms.length)) (min ns.length ms.length) 0 ns ms (by simp) (Nat.zero_le _) (Nat.zero_le _) rfl
  simpa using h
def fLt : PyData → PyData → Option PyData := orF (fB fun i j => decide (i < j)) (fTT HT.lexLt)
def fLe : PyData → PyData → Option PyData := orF (fB fun i j => decide (i ≤ j)) (fTT lexLeI)
theorem ev_lt (hu : c.X.A.units < cLine) (ha : EB c m a da) (hb : EB c m b db) : EV c m (.Compare a [.Lt] [b] pos) (d2 fLt da db) :=
  ev_cmp (OpR.or op_lt (op_ltT hu)) (OpD.or opd_B (opd_TT fun _ _ _ _ => rfl) orF_or) ha hb (nomark _)
theorem ev_le (hu : c.X.A.units < cLine) (ha : EB c m a da) (hb : EB c m b db) : EV c m (.Compare a [.LtE] [b] pos) (d2 fLe da db) :=
  ev_cmp (OpR.or op_le (op_leT hu)) (OpD.or opd_B (opd_TT (f := lexLeI) fun x y H Q => by simp only [rLeT, lexLe_eq]) orF_or) ha hb (nomark _)
theorem ev_gt (ha : EB c m a da) (hb : EB c m b db) : EV c m (.Compare a [.Gt] [b] pos) (d2 (fB fun i j => decide (j < i)) da db) := ev_cmp op_gt opd_B ha hb (nomark _)
theorem ev_ge (ha : EB c m a da) (hb : EB c m b db) : EV c m (.Compare a [.GtE] [b] pos) (d2 (fB fun i j => decide (j ≤ i)) da db) := ev_cmp op_ge opd_B ha hb (nomark _)
/-- in, not in -/
def flatD : PyData → Bool | .none => true | .bool _ => true | .int _ => true | .str _ => true | _ => false
def inOk (x : PyData) (ds : List PyData) : Bool := (flatD x && ds.all flatD) || (SeqAt.shaped x && SeqAt.shaped (.list ds))
def inD (x : PyData) (ds : List PyData) : Bool := ds.any fun z => PyData.eqv z x
def fIn (neg : Bool) (x : PyData) : PyData → Option PyData
  | .str z => match x with
    | .str s => match s.cps.toList with
      | [c] => some (.bool (if neg then !decide (c ∈ z.cps.toList) else decide (c ∈ z.cps.toList)))
      | _ => none
    | _ => none
  | .list ds => if inOk x ds then some (.bool (if neg then !inD x ds else inD x ds)) else none
  | .tuple ds => if inOk x ds then some (.bool (if neg then !inD x ds else inD x ds)) else none
  | _ => none
theorem flat_v {H : Hp} {v : V} {d : PyData} (h : Is K H v d) (f : flatD d = true) : flatV v = true := by
  cases h <;> first | rfl | cases f
theorem flat_vs {H : Hp} : ∀ {vs : List V} {ds : List PyData}, IsAll K H vs ds → ds.all flatD = true → vs.all flatV = true
  | _, _, .nil, _ => rfl
  | _, _, .cons h r, f => by
    rw [List.all_cons, Bool.and_eq_true] at f
    rw [List.all_cons, flat_v h f.1, flat_vs r f.2]
    rfl
theorem eqv_flat {H : Hp} {v w : V} {d e : PyData} (h : Is K H v d) (h2 : Is K H w e) (f : flatD d = true) (f2 : flatD e = true) : eqV v w = PyData.eqv d e := by
  cases h <;> first | (cases f; done) | (cases h2 <;> first | (cases f2; done) | (simp only [eqV, PyData.eqv]))
theorem inV_flat {H : Hp} {x : V} {d : PyData} (hx : Is K H x d) (f : flatD d = true) : ∀ {vs : List V} {ds : List PyData}, IsAll K H vs ds → ds.all flatD = true → inV x vs = inD d ds
  | _, _, .nil, _ => rfl
  | _, _, .cons h r, g => by
    rw [List.all_cons, Bool.and_eq_true] at g
    have ih := inV_flat hx f r g.2
    unfold inV inD at ih ⊢
    rw [List.any_cons, List.any_cons, ih, eqv_flat h hx g.1 f]
/-- in, over data of any depth -/
def rInS (K : PySem.W.Frag) (neg : Bool) : R2 := fun x y H Q => ∃ d ds, Dp K H x d ∧ (Dp K H y (.list ds) ∨ Dp K H y (.tuple ds)) ∧ SeqAt.shaped d = true ∧ SeqAt.shaped (.list ds) = true ∧ Q (.bl (if neg then !(ds.any fun z => PyData.eqv z d) else ds.any fun z => PyData.eqv z d)) H
theorem op_inS (hu : c.X.A.units + 65 < cLine) : OpR c.X (compareOp .In) (rInS c.X.K false) := by
  intro pins s σ H x y v u Q I rx ry h
  obtain ⟨d, ds, hd, he, sd, se, q⟩ := h
  obtain ⟨as, r1⟩ := Dp.reads I d x v hd rx
  rcases he with he | he
  · obtain ⟨bs, r2⟩ := Dp.reads I (.list ds) y u he ry
    exact SeqAt.in_list_reads r2 r1 (SeqAt.canLay_of_shaped se) (SeqAt.canLay_of_shaped sd) (room_in_shaped sd hu) ⟨.bl _, H, I, rfl, q⟩
  · obtain ⟨bs, r2⟩ := Dp.reads I (.tuple ds) y u he ry
    exact SeqAt.in_tuple_reads r2 r1 (SeqAt.canLay_of_shaped se) (SeqAt.canLay_of_shaped sd) (room_in_shaped sd hu) ⟨.bl _, H, I, rfl, q⟩
theorem op_notInS (hu : c.X.A.units + 65 < cLine) : OpR c.X (compareOp .NotIn) (rInS c.X.K true) := by
  intro pins s σ H x y v u Q I rx ry h
  obtain ⟨d, ds, hd, he, sd, se, q⟩ := h
  obtain ⟨as, r1⟩ := Dp.reads I d x v hd rx
  rcases he with he | he
  · obtain ⟨bs, r2⟩ := Dp.reads I (.list ds) y u he ry
    exact SeqAt.notIn_list_reads r2 r1 (SeqAt.canLay_of_shaped se) (SeqAt.canLay_of_shaped sd) (room_in_shaped sd hu) ⟨.bl _, H, I, rfl, q⟩
  · obtain ⟨bs, r2⟩ := Dp.reads I (.tuple ds) y u he ry
    exact SeqAt.notIn_tuple_reads r2 r1 (SeqAt.canLay_of_shaped se) (SeqAt.canLay_of_shaped sd) (room_in_shaped sd hu) ⟨.bl _, H, I, rfl, q⟩
def rInSign (neg : Bool) : R2 := fun x y H Q => ∃ (c : Nat) (z : Str), x = .str ⟨#[c]⟩ ∧ y = .str z ∧ Q (.bl (if neg then !decide (c ∈ z.cps.toList) else decide (c ∈ z.cps.toList))) H
theorem Rb.flat {H : Hp} {B : List Addr} {v : V} {d : PyData} (h : Rb K gx B H v d) (f : flatD d = true) : Is K (Fz B H) v d := by
  rcases h with h | ⟨p, rfl, hp, ⟨ds, vs, rfl, _⟩ | ⟨ds, kvs, rfl, _⟩ | ⟨ds, kvs, rfl, _⟩⟩
  · exact h
  all_goals cases f
theorem opd_in (neg : Bool) : OpD K gx (fun x y H Q => rIn K neg x y H Q ∨ rInS K neg x y H Q ∨ rInSign neg x y H Q) (fIn neg) := by
  intro B H x y dx dy d Q hn hg hx hy e k
  have key : ∀ (a : Addr) (vs : List V) (ds : List PyData), y = .ref a → (SqL K H a vs ∨ SqT K H a vs) → (Dp K H y (.list ds) ∨ Dp K H y (.tuple ds) ∨ PyData.canLayAll0 ds = false) → IsAll K (Fz B H) vs ds → (if inOk dx ds then some (PyData.bool (if neg then !inD dx ds else inD dx ds)) else none) = some d →
      rIn K neg x y H Q ∨ rInS K neg x y H Q ∨ rInSign neg x y H Q := by
    intro a vs ds ey sq hdp h2 e
    subst ey
    split at e
    · rename_i hc
      cases e
      unfold inOk at hc
      rw [Bool.or_eq_true, Bool.and_eq_true, Bool.and_eq_true] at hc
      rcases hc with ⟨f1, f2⟩ | ⟨f1, f2⟩
      · have hx' := hx.flat f1
        exact .inl ⟨a, vs, rfl, sq, flat_v hx' f1, flat_vs h2 f2, by rw [inV_flat hx' f1 h2 f2]; exact k _ _ (Ex.refl _) (.bl _)⟩
      · have f3 := SeqAt.canLay_of_shaped f2
        refine .inr (.inl ⟨dx, ds, hx.dp (SeqAt.canLay_of_shaped f1), ?_, f1, f2, k _ _ (Ex.refl _) (.bl _)⟩)
        rcases hdp with h | h | h
        · exact .inl h
        · exact .inr h
        · rw [PyData.canLay0] at f3; rw [f3] at h; cases h
    · cases e
  cases dy with
  | str z =>
    cases dx with
    | str s =>
      simp only [fIn] at e
      split at e
      · rename_i cc hc
        cases e
        obtain rfl := hx.str
        obtain rfl := hy.str
        refine .inr (.inr ⟨cc, z, ?_, rfl, k _ _ (Ex.refl _) (.bl _)⟩)
        have : s = ⟨#[cc]⟩ := by
          cases s with
          | mk arr =>
            have : arr = #[cc] := by
              apply Array.ext'
              simpa using hc
            rw [this]
        rw [this]
      · cases e
    | _ => simp [fIn] at e
  | list ds =>
    obtain ⟨a, vs, ey, h2, s2, z2⟩ := hy.lst hg
    refine key a vs ds ey (.inl (.inl (.inl (s2 H (Evo.refl _ _))))) ?_ h2 e
    cases q : PyData.canLayAll0 ds with
    | false => exact .inr (.inr rfl)
    | true => exact .inl (hy.dp (by rw [PyData.canLay0]; exact q))
  | tuple ds =>
    obtain ⟨a, vs, ey, h2, s2, z2⟩ := hy.tup hg
    refine key a vs ds ey (.inr (s2 H (Evo.refl _ _))) ?_ h2 e
    cases q : PyData.canLayAll0 ds with
    | false => exact .inr (.inr rfl)
    | true => exact .inr (.inl (hy.dp (by rw [PyData.canLay0]; exact q)))
  | _ => simp [fIn] at e
theorem ev_in (hu : c.X.A.units + 65 < cLine) (ha : EB c m a da) (hb : EB c m b db) (hm : behindInMarks .In b = false) : EV c m (.Compare a [.In] [b] pos) (d2 (fIn false) da db) :=
  ev_cmp (OpR.or op_in_seq (OpR.or (op_inS hu) op_in_sign)) (opd_in false) ha hb hm
theorem ev_notIn (hu : c.X.A.units + 65 < cLine) (ha : EB c m a da) (hb : EB c m b db) (hm : behindInMarks .NotIn b = false) : EV c m (.Compare a [.NotIn] [b] pos) (d2 (fIn true) da db) :=
  ev_cmp (OpR.or op_notIn_seq (OpR.or (op_notInS hu) op_notIn_sign)) (opd_in true) ha hb hm
/-- is None, is True .. -/
def fIsN (neg : Bool) : PyData → PyData → Option PyData
  | x, .none => some (.bool (if neg then !isNone x else isNone x))
  | .bool p, .bool q => some (.bool (if neg then !decide (p = q) else decide (p = q)))
  | _, _ => none
theorem opd_is (neg : Bool) : OpD K gx (fun x y H Q => (y = .non ∧ Q (.bl (if neg then !decide (x = .non) else decide (x = .non))) H) ∨ (∃ a b : Bool, x = .bl a ∧ y = .bl b ∧ Q (.bl (if neg then !decide (a = b) else decide (a = b))) H)) (fIsN neg) := by
  intro B H x y dx dy d Q hn hg hx hy e k
  unfold fIsN at e
  split at e
  · cases e
    obtain rfl := hy.non
    refine .inl ⟨rfl, ?_⟩
    have q := hx.non_iff
    rw [q]
    exact k _ _ (Ex.refl _) (.bl _)
  · cases e
    obtain rfl := hx.bool
    obtain rfl := hy.bool
    exact .inr ⟨_, _, rfl, rfl, k _ _ (Ex.refl _) (.bl _)⟩
  · cases e
theorem ev_is (ha : EB c m a da) (hb : EB c m b db) : EV c m (.Compare a [.Is] [b] pos) (d2 (fIsN false) da db) := ev_cmp (OpR.or op_isN op_isBl) (opd_is false) ha hb (nomark _)
theorem ev_isNot (ha : EB c m a da) (hb : EB c m b db) : EV c m (.Compare a [.IsNot] [b] pos) (d2 (fIsN true) da db) := ev_cmp (OpR.or op_notN op_notBl) (opd_is true) ha hb (nomark _)
end
end PD
/-! PDe: subscripts, tests, choices, calls of built-ins and of defs. -/
namespace PD
open PySem PySem.Spec PyProof.Rows L2
/-! ### subscripts -/
theorem IsAll.atI {K : PySem.W.Frag} {H : Hp} {vs : List V} {ds : List PyData} {i : Int} {d : PyData} (h : IsAll K H vs ds) (e : L2.atI ds i = some d) : ∃ v, L2.atI vs i = some v ∧ Is K H v d := by
  unfold L2.atI at e ⊢
  rw [h.length]
  cases q : ixN ds.length i with
  | none => rw [q] at e; cases e
  | some j =>
    rw [q] at e
    exact h.get e
def fIx : PyData → PyData → Option PyData
  | .list xs, .int i => L2.atI xs i
  | .tuple xs, .int i => L2.atI xs i
  | .str z, .int i => if sz z.length then (L2.atI z.cps.toList i).map fun c => .str ⟨#[c]⟩ else none
  | _, _ => none
theorem opd_ix {K : PySem.W.Frag} {g : Gx} : OpD K g (rIx K) fIx := by
  intro B H x y dx dy d Q hn hg hx hy e k
  unfold fIx at e
  split at e
  · obtain ⟨p, vs, rfl, h1, s1, z1⟩ := hx.lst hg
    obtain rfl := hy.int
    obtain ⟨v, e2, i2⟩ := h1.atI e
    exact .inl ⟨p, vs, _, v, rfl, rfl, .inl (.inl (s1 H (Evo.refl _ _))), e2, k _ _ (Ex.refl _) i2⟩
  · obtain ⟨p, vs, rfl, h1, s1, z1⟩ := hx.tup hg
    obtain rfl := hy.int
    obtain ⟨v, e2, i2⟩ := h1.atI e
    exact .inr (.inl ⟨p, vs, _, v, rfl, rfl, s1 H (Evo.refl _ _), e2, k _ _ (Ex.refl _) i2⟩)
  · split at e
    · rename_i z i hz
      obtain rfl := hx.str
      obtain rfl := hy.int
      cases q : L2.atI z.cps.toList i with
      | none => rw [q] at e; cases e
      | some cc =>
        rw [q] at e
        cases e
        exact .inr (.inr ⟨z, i, cc, rfl, rfl, sz_le hz, q, k _ _ (Ex.refl _) (.str _)⟩)
    · cases e
  · cases e
section
variable {c : Cc} {m : List Md} {a b : Expr} {da db : DE} {pos : Pos}
theorem ev_ix (ha : EB c m a da) (hb : EB c m b db) (hs : PlainIx b) : EV c m (.Subscript a b pos) (d2 fIx da db) := fun σ H ρ S B0 B ow Q fr gi g =>
  WE.of (pe_ix ix_seq we we hs) (two_read opd_ix ha hb fr gi g)
end
/-! a slice's parts -/
structure WO (X : Cx) (e : Option Expr) (σ : L2.St) (H : Hp) (Q : Option Int → Hp → Prop) : Prop where
  go : ∀ (pins : List (Addr × Obj)) (s : Shared), Inv X pins σ H s → wpAny (model X.prog X.w) X.A (evalPart e X.env) (fun u s' => ∃ o H', Inv X pins σ H' s' ∧ IsPart u o ∧ Q o H') X.xe s
theorem wo {X : Cx} {e : Option Expr} : PO X e (WO X e) := ⟨fun pins s _ _ _ I h => h.go pins s I⟩
theorem WO.of {X : Cx} {e : Option Expr} {t : TO} (h : PO X e t) {σ : L2.St} {H : Hp} {Q : Option Int → Hp → Prop} (q : t σ H Q) : WO X e σ H Q := ⟨fun pins s I => h.run pins s σ H Q I q⟩
abbrev DP := Env → Store → R (Option Int)
def pNo : DP := fun _ S => .ok none S
def pSm (d : DE) : DP := fun ρ S => (d ρ S).bind fun x S1 => match x with | .int i => .ok (some i) S1 | _ => .bad
def EP_ (c : Cc) (m : List Md) (e : Option Expr) (den : DP) : Prop := ∀ σ H ρ S B0 B ow Q, Frame c.X.K c.g B0 B ow m ρ σ H → GI c.X.K c.g B H S →
  Goal c B H σ (den ρ S) (fun _ H' v d => v = d) Q → WO c.X e σ H Q
section
variable {c : Cc} {m : List Md} {a b : Expr} {da db : DE} {pos p2 : Pos} {lo hi : Option Expr} {dl dh : DP}
theorem ep_no : EP_ c m none pNo := fun σ H ρ S B0 B ow Q fr gi g => WO.of po_none (g.ok0 gi rfl)
theorem ep_sm (ha : EV c m a da) : EP_ c m (some a) (pSm da) := by
  intro σ H ρ S B0 B ow Q fr gi g
  refine WO.of (po_some we) (ha σ H ρ S B0 B ow _ fr gi (g.bind fun d S' v H' _ ev gi' gd g' => ?_))
  cases gd with
  | int i => exact ⟨i, rfl, g'.ok0 gi' rfl⟩
  | _ => exact absurd rfl g'.not_bad
def cutA {α : Type} (xs : List α) (lo hi : Option Int) : List α := (xs.drop (HT.sIx xs.length 0 lo)).take (HT.sIx xs.length xs.length hi - HT.sIx xs.length 0 lo)
theorem IsAll.cut {K : PySem.W.Frag} {H : Hp} {vs : List V} {ds : List PyData} (h : IsAll K H vs ds) (lo hi : Option Int) : IsAll K H (cutV vs lo hi) (cutA ds lo hi) := by
  unfold cutV cutA
  rw [h.length]
  exact (h.drop _).take _
def fSl (x : PyData) (lo hi : Option Int) : Option PyData := match x with
  | .list xs => some (.list (cutA xs lo hi))
  | .tuple xs => some (.tuple (cutA xs lo hi))
  | .str z => if sz z.length then some (.str (cutS z lo hi)) else none
  | _ => none
def fSlL (x : PyData) (lo hi : Option Int) : Option PyData := match x with
  | .list xs => some (.list (cutA xs lo hi))
  | _ => none
def dSl (F : PyData → Option Int → Option Int → Option PyData) (da : DE) (dl dh : DP) : DE := fun ρ S => (da ρ S).bind fun x S1 => (dl ρ S1).bind fun l S2 => (dh ρ S2).bind fun h S3 => ofO (F x l h) S3
theorem cutA_whole {α : Type} {xs : List α} {lo hi : Option Int} (h : HT.sIx xs.length 0 lo = 0 ∧ HT.sIx xs.length xs.length hi = xs.length) : cutA xs lo hi = xs := by
  unfold cutA
  rw [h.1, h.2]
  simp
theorem ev_sl (ha : EB c m a da) (hl : EP_ c m lo dl) (hh : EP_ c m hi dh) : EV c m (.Subscript a (.Slice lo hi none p2) pos) (dSl fSl da dl dh) := by
  intro σ H ρ S B0 B ow Q fr gi g
  refine WE.of (pe_slice (SlR.or sl_list (SlR.or sl_tupA sl_str)) we wo wo) ?_
  refine ha σ H ρ S B0 B ow _ fr gi (g.bind fun d S1 v H1 _ ev1 gi1 gd1 g1 => ?_)
  refine hl σ H1 ρ S1 B0 B ow _ (fr.evo ev1) gi1 (g1.bind fun l S2 l' H2 _ ev2 gi2 gd2 g2 => ?_)
  cases gd2
  refine hh σ H2 ρ S2 B0 B ow _ ((fr.evo ev1).evo ev2) gi2 (g2.bind fun h S3 h' H3 _ ev3 gi3 gd3 g3 => ?_)
  cases gd3
  have hx : Rb c.X.K c.g B H3 v d := Rb.evo (Rb.evo gd1 gi1.sub ev2) gi2.sub ev3
  unfold fSl at g3
  split at g3
  · rename_i xs
    obtain ⟨p, vs, rfl, h1, s1, z1⟩ := hx.lst gi3.sub
    exact .inl ⟨p, vs, rfl, .inl (.inl (s1 H3 (Evo.refl _ _))), fun q hq => g3.ok (Ex.new hq).evo (gi3.ex (Ex.new hq)) (is_newL gi3.kn hq (Nat.le_trans (cutV_length _ _ _) z1) (h1.cut l h))⟩
  · rename_i xs
    obtain ⟨p, vs, e, h1, s1, z1⟩ := hx.tup gi3.sub
    subst e
    refine .inr (.inl ⟨p, vs, rfl, s1 H3 (Evo.refl _ _), fun hw => ?_, fun hw q hq => g3.ok (Ex.new hq).evo (gi3.ex (Ex.new hq)) (is_newT gi3.kn hq (Nat.le_trans (cutV_length _ _ _) z1) (h1.cut l h))⟩)
    rw [h1.length] at hw
    rw [cutA_whole hw] at g3
    rcases hx with hx | ⟨r, _, _, ⟨_, _, z, _⟩ | ⟨_, _, z, _⟩ | ⟨_, _, z, _⟩⟩
    · exact g3.ok0 gi3 hx
    all_goals cases z
  · split at g3
    · rename_i hz
      obtain rfl := hx.str
      exact .inr (.inr ⟨_, rfl, sz_le hz, g3.ok0 gi3 (.str _)⟩)
    · exact absurd rfl g3.not_bad
  · exact absurd rfl g3.not_bad
theorem eo_slL (ha : EB c m a da) (hl : EP_ c m lo dl) (hh : EP_ c m hi dh) : EO c m (.Subscript a (.Slice lo hi none p2) pos) (dSl fSlL da dl dh) := by
  intro σ H ρ S B0 B ow Q fr gi g
  refine WE.of (pe_slice sl_list we wo wo) ?_
  refine ha σ H ρ S B0 B ow _ fr gi (g.bind fun d S1 v H1 _ ev1 gi1 gd1 g1 => ?_)
  refine hl σ H1 ρ S1 B0 B ow _ (fr.evo ev1) gi1 (g1.bind fun l S2 l' H2 _ ev2 gi2 gd2 g2 => ?_)
  cases gd2
  refine hh σ H2 ρ S2 B0 B ow _ ((fr.evo ev1).evo ev2) gi2 (g2.bind fun h S3 h' H3 _ ev3 gi3 gd3 g3 => ?_)
  cases gd3
  have hx : Rb c.X.K c.g B H3 v d := Rb.evo (Rb.evo gd1 gi1.sub ev2) gi2.sub ev3
  unfold fSlL at g3
  split at g3
  · rename_i xs
    obtain ⟨p, vs, rfl, h1, s1, z1⟩ := hx.lst gi3.sub
    exact ⟨p, vs, rfl, .inl (.inl (s1 H3 (Evo.refl _ _))), fun q hq => g3.ok (Ex.new hq).evo (gi3.ex (Ex.new hq)) ⟨q, rfl, free_back ev1 gi1 (free_back ev2 gi2 (free_back ev3 gi3 hq)), top_newL hq (Nat.le_trans (cutV_length _ _ _) z1) (h1.cut l h), gi3.fresh (Ex.new hq) hq (by rw [upd_same]; intro z; cases z)⟩⟩
  · exact absurd rfl g3.not_bad
/-- xs[::-1] -/
def fRev : PyData → Option PyData | .list xs => some (.list xs.reverse) | _ => none
theorem eo_revL {k : Nat} {p1 p2 p3 pos : Pos} (ha : EB c m a da) : EO c m (.Subscript a (.Slice none none (some (.UnaryOp .USub (.Constant (.int 1) k p1) p2)) p3) pos) (d1 fRev da) := by
  intro σ H ρ S B0 B ow Q fr gi g
  refine WE.of (pe_revL we) (ha σ H ρ S B0 B ow _ fr gi (g.bind fun d S1 v H1 _ ev1 gi1 gd1 g1 => ?_))
  unfold fRev at g1
  split at g1
  · obtain ⟨p, vs, rfl, h1, s1, z1⟩ := Rb.lst gd1 gi1.sub
    exact ⟨p, vs, rfl, .inl (.inl (s1 H1 (Evo.refl _ _))), fun q hq => g1.ok (Ex.new hq).evo (gi1.ex (Ex.new hq)) ⟨q, rfl, free_back ev1 gi1 hq, top_newL hq (by rw [List.length_reverse]; exact z1) h1.reverse, gi1.fresh (Ex.new hq) hq (by rw [upd_same]; intro z; cases z)⟩⟩
  · exact absurd rfl g1.not_bad
/-! ### chains, tests -/
def dTest (d : DE) : DT := fun ρ S => (d ρ S).bind fun x S1 => match x with | .bool b => .ok b S1 | _ => .bad
theorem et_val {e : Expr} {den : DE} (h : EV c m e den) (he : ∀ whole, isTrue e c.X.env whole = (do let v ← whole; standAt e.pos; holding [v] (truthy v)) := by intro _; rfl) : ET c m e (dTest den) := by
  intro σ H ρ S B0 B ow Q fr gi g
  refine WT.of (pt_val we he) (h σ H ρ S B0 B ow _ fr gi (g.bind fun d S1 v H1 _ ev1 gi1 gd1 g1 => ?_))
  cases gd1 with
  | bl b => exact ⟨b, rfl, g1.ok0 gi1 rfl⟩
  | _ => exact absurd rfl g1.not_bad
theorem et_cmp {op : CmpOp} {r : R2} {F : PyData → PyData → Option PyData} (ho : OpR c.X (compareOp op) r) (hd : OpD c.X.K c.g r F) (ha : EB c m a da) (hb : EB c m b db) (hm : behindInMarks op b = false) : ET c m (.Compare a [op] [b] pos) (dTest (d2 F da db)) := by
  intro σ H ρ S B0 B ow Q fr gi g
  refine WT.of (pt_cmpR ho we we hm) ?_
  show tOp r (WE c.X a) (WE c.X b) σ H _
  refine two_read hd ha hb fr gi (g.bind fun d S1 v H1 _ ev1 gi1 gd1 g1 => ?_)
  cases gd1 with
  | bl b => exact ⟨b, rfl, g1.ok0 gi1 rfl⟩
  | _ => exact absurd rfl g1.not_bad
theorem et_eq (hu : c.X.A.units + 64 < cLine) (ha : EB c m a da) (hb : EB c m b db) : ET c m (.Compare a [.Eq] [b] pos) (dTest (d2 fEq da db)) :=
  et_cmp (OpR.or op_eq (op_eqD hu)) (OpD.or opd_eqS opd_eqD orF_or) ha hb (nomark _)
theorem et_ne (hu : c.X.A.units + 64 < cLine) (ha : EB c m a da) (hb : EB c m b db) : ET c m (.Compare a [.NotEq] [b] pos) (dTest (d2 fNe da db)) :=
  et_cmp (OpR.or op_ne (op_neD hu)) (OpD.or opd_neS opd_neD orF_or) ha hb (nomark _)
theorem et_lt (hu : c.X.A.units < cLine) (ha : EB c m a da) (hb : EB c m b db) : ET c m (.Compare a [.Lt] [b] pos) (dTest (d2 fLt da db)) :=
  et_cmp (OpR.or op_lt (op_ltT hu)) (OpD.or opd_B (opd_TT fun _ _ _ _ => rfl) orF_or) ha hb (nomark _)
theorem et_le (hu : c.X.A.units < cLine) (ha : EB c m a da) (hb : EB c m b db) : ET c m (.Compare a [.LtE] [b] pos) (dTest (d2 fLe da db)) :=
  et_cmp (OpR.or op_le (op_leT hu)) (OpD.or opd_B (opd_TT (f := lexLeI) fun x y H Q => by simp only [rLeT, lexLe_eq]) orF_or) ha hb (nomark _)
theorem et_gt (ha : EB c m a da) (hb : EB c m b db) : ET c m (.Compare a [.Gt] [b] pos) (dTest (d2 (fB fun i j => decide (j < i)) da db)) := et_cmp op_gt opd_B ha hb (nomark _)
theorem et_ge (ha : EB c m a da) (hb : EB c m b db) : ET c m (.Compare a [.GtE] [b] pos) (dTest (d2 (fB fun i j => decide (j ≤ i)) da db)) := et_cmp op_ge opd_B ha hb (nomark _)
theorem et_in (hu : c.X.A.units + 65 < cLine) (ha : EB c m a da) (hb : EB c m b db) (hm : behindInMarks .In b = false) : ET c m (.Compare a [.In] [b] pos) (dTest (d2 (fIn false) da db)) :=
  et_cmp (OpR.or op_in_seq (OpR.or (op_inS hu) op_in_sign)) (opd_in false) ha hb hm
theorem et_notIn (hu : c.X.A.units + 65 < cLine) (ha : EB c m a da) (hb : EB c m b db) (hm : behindInMarks .NotIn b = false) : ET c m (.Compare a [.NotIn] [b] pos) (dTest (d2 (fIn true) da db)) :=
  et_cmp (OpR.or op_notIn_seq (OpR.or (op_notInS hu) op_notIn_sign)) (opd_in true) ha hb hm
theorem et_is (ha : EB c m a da) (hb : EB c m b db) : ET c m (.Compare a [.Is] [b] pos) (dTest (d2 (fIsN false) da db)) := et_cmp (OpR.or op_isN op_isBl) (opd_is false) ha hb (nomark _)
theorem et_isNot (ha : EB c m a da) (hb : EB c m b db) : ET c m (.Compare a [.IsNot] [b] pos) (dTest (d2 (fIsN true) da db)) := et_cmp (OpR.or op_notN op_notBl) (opd_is true) ha hb (nomark _)
/-- two comparisons, the middle asked once -/
def dChain (F F' : PyData → PyData → Option PyData) (da db dc : DE) : DE := fun ρ S => (da ρ S).bind fun x S1 => (db ρ S1).bind fun y S2 => match F x y with
  | some (.bool true) => (dc ρ S2).bind fun z S3 => ofO (F' y z) S3
  | some (.bool false) => .ok (.bool false) S2
  | _ => .bad
theorem chain_read {e : Expr} {de : DE} {r r' : R2} {F F' : PyData → PyData → Option PyData} (hd : OpD c.X.K c.g r F) (hd' : OpD c.X.K c.g r' F') (ha : EB c m a da) (hb : EB c m b db) (hc : EB c m e de) {σ : L2.St} {H : Hp} {ρ : Env} {S : Store} {B0 B : List Addr} {ow : Addr → Nat} {Q : VK} (fr : Frame c.X.K c.g B0 B ow m ρ σ H) (gi : GI c.X.K c.g B H S)
    (g : Goal c B H σ (dChain F F' da db de ρ S) (fun _ H' v d => Is c.X.K (Fz B H') v d) Q) : tChain r r' (WE c.X a) (WE c.X b) (WE c.X e) σ H Q := by
  refine ha σ H ρ S B0 B ow _ fr gi (g.bind fun d S1 v H1 _ ev1 gi1 gd1 g1 => ?_)
  refine hb σ H1 ρ S1 B0 B ow _ (fr.evo ev1) gi1 (g1.bind fun e S2 w H2 _ ev2 gi2 gd2 g2 => ?_)
  split at g2
  · rename_i q
    refine hd B H2 v w d e _ _ gi2.kn gi2.sub (Rb.evo gd1 gi1.sub ev2) gd2 q fun u H3 x3 i3 => ?_
    cases i3
    have gi3 := gi2.ex x3
    refine ⟨true, rfl, ?_⟩
    rw [if_pos rfl]
    have g3 : Goal c B H3 σ ((de ρ S2).bind fun z S3 => ofO (F' e z) S3) (fun _ H' v d => Is c.X.K (Fz B H') v d) Q :=
      ⟨fun d S' v H' e1 ev gi' gd => g2.1 d S' v H' e1 (x3.evo.trans ev) gi' gd, fun x S' e1 cls dd H' ev gi' xr => g2.2.1 x S' e1 cls dd H' (x3.evo.trans ev) gi' xr, g2.2.2⟩
    refine hc σ H3 ρ S2 B0 B ow _ (((fr.evo ev1).evo ev2).evo x3.evo) gi3 (g3.bind fun f S4 w4 H4 _ ev4 gi4 gd4 g4 => ?_)
    cases q' : F' e f with
    | none => rw [q'] at g4; exact absurd rfl g4.not_bad
    | some z =>
      rw [q'] at g4
      exact hd' B H4 w w4 e f z Q gi4.kn gi4.sub (Rb.evo (Rb.evo gd2 gi2.sub x3.evo) gi3.sub ev4) gd4 q' fun u H5 x5 i5 => g4.ok x5.evo (gi4.ex x5) i5
  · rename_i q
    refine hd B H2 v w d e _ _ gi2.kn gi2.sub (Rb.evo gd1 gi1.sub ev2) gd2 q fun u H3 x3 i3 => ?_
    cases i3
    refine ⟨false, rfl, ?_⟩
    rw [if_neg (by simp)]
    exact g2.ok x3.evo (gi2.ex x3) (.bl false)
  · exact absurd rfl g2.not_bad
theorem ev_chain {e : Expr} {de : DE} {r r' : R2} {F F' : PyData → PyData → Option PyData} {op op' : CmpOp} (ho : OpR c.X (compareOp op) r) (ho' : OpR c.X (compareOp op') r') (hd : OpD c.X.K c.g r F) (hd' : OpD c.X.K c.g r' F') (ha : EB c m a da) (hb : EB c m b db) (hc : EB c m e de)
    (hm : lastMarks [op, op'] [b, e] = false := by with_unfolding_all rfl) : EV c m (.Compare a [op, op'] [b, e] pos) (dChain F F' da db de) := fun σ H ρ S B0 B ow Q fr gi g =>
  WE.of (pe_chain ho ho' we we we hm) (chain_read hd hd' ha hb hc fr gi g)
theorem et_chain {e : Expr} {de : DE} {r r' : R2} {F F' : PyData → PyData → Option PyData} {op op' : CmpOp} (ho : OpR c.X (compareOp op) r) (ho' : OpR c.X (compareOp op') r') (hd : OpD c.X.K c.g r F) (hd' : OpD c.X.K c.g r' F') (ha : EB c m a da) (hb : EB c m b db) (hc : EB c m e de)
    (hm : lastMarks [op, op'] [b, e] = false := by with_unfolding_all rfl) : ET c m (.Compare a [op, op'] [b, e] pos) (dTest (dChain F F' da db de)) := fun σ H ρ S B0 B ow Q fr gi g =>
  WT.of (pt_chain ho ho' we we we hm) (show tTest (tChain r r' (WE c.X a) (WE c.X b) (WE c.X e)) σ H Q from chain_read hd hd' ha hb hc fr gi (g.bind fun d S1 v H1 _ ev1 gi1 gd1 g1 => by
    cases gd1 with
    | bl b => exact ⟨b, rfl, g1.ok0 gi1 rfl⟩
    | _ => exact absurd rfl g1.not_bad))
/-! and, or, not -/
structure WW (X : Cx) (e : Expr) (σ : L2.St) (H : Hp) (Q : Bool → Hp → Prop) : Prop where
  go : ∀ (whole : Sem Value) (pins : List (Addr × Obj)) (s : Shared), Inv X pins σ H s → wpAny (model X.prog X.w) X.A (isTrue e X.env whole) (TP X pins σ Q) X.xe s
theorem ww {X : Cx} {e : Expr} : PW X e (WW X e) := ⟨fun wh pins s _ _ _ I h => h.go wh pins s I⟩
theorem WW.of {X : Cx} {e : Expr} {t : TT} (h : PW X e t) {σ : L2.St} {H : Hp} {Q : Bool → Hp → Prop} (q : t σ H Q) : WW X e σ H Q := ⟨fun wh pins s I => h.run wh pins s σ H Q I q⟩
def EW (c : Cc) (m : List Md) (e : Expr) (den : DT) : Prop := ∀ σ H ρ S B0 B ow Q, Frame c.X.K c.g B0 B ow m ρ σ H → GI c.X.K c.g B H S →
  Goal c B H σ (den ρ S) (fun _ H' v d => v = d) Q → WW c.X e σ H Q
variable {ta tb : DT} {rest : List Expr}
def dAnd (a b : DT) : DT := fun ρ S => (a ρ S).bind fun x S1 => if x = true then b ρ S1 else .ok false S1
def dOr (a b : DT) : DT := fun ρ S => (a ρ S).bind fun x S1 => if x = true then .ok true S1 else b ρ S1
def dNot (a : DT) : DT := fun ρ S => (a ρ S).bind fun x S1 => .ok (!x) S1
theorem ew_and1 (ha : ET c m a ta) : EW c m (.BoolOp .And [a] pos) ta := fun σ H ρ S B0 B ow Q fr gi g => WW.of (pw_and1 wt) (ha σ H ρ S B0 B ow Q fr gi g)
theorem ew_or1 (ha : ET c m a ta) : EW c m (.BoolOp .Or [a] pos) ta := fun σ H ρ S B0 B ow Q fr gi g => WW.of (pw_or1 wt) (ha σ H ρ S B0 B ow Q fr gi g)
theorem ew_and (ha : ET c m a ta) (hb : EW c m (.BoolOp .And (b :: rest) pos) tb) : EW c m (.BoolOp .And (a :: b :: rest) pos) (dAnd ta tb) := by
  intro σ H ρ S B0 B ow Q fr gi g
  refine WW.of (pw_and wt ww) (ha σ H ρ S B0 B ow _ fr gi (g.bind fun d S1 v H1 _ ev1 gi1 gd1 g1 => ?_))
  cases gd1
  cases d with
  | true => rw [if_pos rfl] at g1 ⊢; exact hb σ H1 ρ S1 B0 B ow Q (fr.evo ev1) gi1 g1
  | false => rw [if_neg (by simp)] at g1 ⊢; exact g1.ok0 gi1 rfl
theorem ew_or (ha : ET c m a ta) (hb : EW c m (.BoolOp .Or (b :: rest) pos) tb) : EW c m (.BoolOp .Or (a :: b :: rest) pos) (dOr ta tb) := by
  intro σ H ρ S B0 B ow Q fr gi g
  refine WW.of (pw_or wt ww) (ha σ H ρ S B0 B ow _ fr gi (g.bind fun d S1 v H1 _ ev1 gi1 gd1 g1 => ?_))
  cases gd1
  cases d with
  | true => rw [if_pos rfl] at g1 ⊢; exact g1.ok0 gi1 rfl
  | false => rw [if_neg (by simp)] at g1 ⊢; exact hb σ H1 ρ S1 B0 B ow Q (fr.evo ev1) gi1 g1
theorem et_w {e : Expr} (h : EW c m e ta) : ET c m e ta := fun σ H ρ S B0 B ow Q fr gi g => WT.of (PW.pt ww) (h σ H ρ S B0 B ow Q fr gi g)
theorem et_not (ha : ET c m a ta) : ET c m (.UnaryOp .Not a pos) (dNot ta) := by
  intro σ H ρ S B0 B ow Q fr gi g
  refine WT.of (pt_not wt) (ha σ H ρ S B0 B ow _ fr gi (g.bind fun d S1 v H1 _ ev1 gi1 gd1 g1 => ?_))
  cases gd1
  exact g1.ok0 gi1 rfl
/-- .. as values: all but the last True or False -/
def asB (x : PyData) (t : Store → R PyData) (f : Store → R PyData) (S : Store) : R PyData := match x with | .bool true => t S | .bool false => f S | _ => .bad
def dAndV (a b : DE) : DE := fun ρ S => (a ρ S).bind fun x S1 => asB x (b ρ) (.ok (.bool false)) S1
def dOrV (a b : DE) : DE := fun ρ S => (a ρ S).bind fun x S1 => asB x (.ok (.bool true)) (b ρ) S1
def dNotV (a : DE) : DE := fun ρ S => (a ρ S).bind fun x S1 => asB x (.ok (.bool false)) (.ok (.bool true)) S1
theorem ev_one {op} (h : EV c m a da) : EV c m (.BoolOp op [a] pos) da := fun σ H ρ S B0 B ow Q fr gi g => WE.of (pe_one we) (h σ H ρ S B0 B ow Q fr gi g)
theorem ev_andV (ha : EV c m a da) (hb : EV c m (.BoolOp .And (b :: rest) pos) db) : EV c m (.BoolOp .And (a :: b :: rest) pos) (dAndV da db) := by
  intro σ H ρ S B0 B ow Q fr gi g
  refine WE.of (pe_and we we) (ha σ H ρ S B0 B ow _ fr gi (g.bind fun d S1 v H1 _ ev1 gi1 gd1 g1 => ?_))
  cases gd1 with
  | bl q =>
    refine ⟨q, rfl, ?_⟩
    cases q with
    | true => rw [if_pos rfl]; exact hb σ H1 ρ S1 B0 B ow Q (fr.evo ev1) gi1 g1
    | false => rw [if_neg (by simp)]; exact g1.ok0 gi1 (.bl _)
  | _ => exact absurd rfl g1.not_bad
theorem ev_orV (ha : EV c m a da) (hb : EV c m (.BoolOp .Or (b :: rest) pos) db) : EV c m (.BoolOp .Or (a :: b :: rest) pos) (dOrV da db) := by
  intro σ H ρ S B0 B ow Q fr gi g
  refine WE.of (pe_or we we) (ha σ H ρ S B0 B ow _ fr gi (g.bind fun d S1 v H1 _ ev1 gi1 gd1 g1 => ?_))
  cases gd1 with
  | bl q =>
    refine ⟨q, rfl, ?_⟩
    cases q with
    | true => rw [if_pos rfl]; exact g1.ok0 gi1 (.bl _)
    | false => rw [if_neg (by simp)]; exact hb σ H1 ρ S1 B0 B ow Q (fr.evo ev1) gi1 g1
  | _ => exact absurd rfl g1.not_bad
theorem ev_notV (ha : EV c m a da) : EV c m (.UnaryOp .Not a pos) (dNotV da) := by
  intro σ H ρ S B0 B ow Q fr gi g
  refine WE.of (pe_not we) (ha σ H ρ S B0 B ow _ fr gi (g.bind fun d S1 v H1 _ ev1 gi1 gd1 g1 => ?_))
  cases gd1 with
  | bl q =>
    refine ⟨q, rfl, ?_⟩
    cases q <;> exact g1.ok0 gi1 (.bl _)
  | _ => exact absurd rfl g1.not_bad
/-! a if t else b -/
def dIfE (t : DT) (a b : DE) : DE := fun ρ S => (t ρ S).bind fun x S1 => if x = true then a ρ S1 else b ρ S1
variable {q : Expr} {tq : DT}
theorem ev_if (hq : ET c m q tq) (ha : EV c m a da) (hb : EV c m b db) : EV c m (.IfExp q a b pos) (dIfE tq da db) := by
  intro σ H ρ S B0 B ow Q fr gi g
  refine WE.of (pe_ifExp wt we we) (hq σ H ρ S B0 B ow _ fr gi (g.bind fun d S1 v H1 _ ev1 gi1 gd1 g1 => ?_))
  cases gd1
  cases d with
  | true => rw [if_pos rfl] at g1 ⊢; exact ha σ H1 ρ S1 B0 B ow Q (fr.evo ev1) gi1 g1
  | false => rw [if_neg (by simp)] at g1 ⊢; exact hb σ H1 ρ S1 B0 B ow Q (fr.evo ev1) gi1 g1
theorem eb_if (hq : ET c m q tq) (ha : EB c m a da) (hb : EB c m b db) : EB c m (.IfExp q a b pos) (dIfE tq da db) := by
  intro σ H ρ S B0 B ow Q fr gi g
  refine WE.of (pe_ifExp wt we we) (hq σ H ρ S B0 B ow _ fr gi (g.bind (G1 := fun _ H' v d => v = d) fun d S1 v H1 _ ev1 gi1 gd1 g1 => ?_))
  cases gd1
  cases d with
  | true => rw [if_pos rfl] at g1 ⊢; exact ha σ H1 ρ S1 B0 B ow Q (fr.evo ev1) gi1 g1
  | false => rw [if_neg (by simp)] at g1 ⊢; exact hb σ H1 ρ S1 B0 B ow Q (fr.evo ev1) gi1 g1
theorem eo_if (hq : ET c m q tq) (ha : EO c m a da) (hb : EO c m b db) : EO c m (.IfExp q a b pos) (dIfE tq da db) := by
  intro σ H ρ S B0 B ow Q fr gi g
  refine WE.of (pe_ifExp wt we we) (hq σ H ρ S B0 B ow _ fr gi (g.bind (G1 := fun _ H' v d => v = d) fun d S1 v H1 _ ev1 gi1 gd1 g1 => ?_))
  cases gd1
  cases d with
  | true =>
    rw [if_pos rfl] at g1 ⊢
    exact ha σ H1 ρ S1 B0 B ow Q (fr.evo ev1) gi1 (g1.imp fun H' v d S' _ _ ⟨p, e1, e2, e3⟩ k => k v ⟨p, e1, free_back ev1 gi1 e2, e3⟩)
  | false =>
    rw [if_neg (by simp)] at g1 ⊢
    exact hb σ H1 ρ S1 B0 B ow Q (fr.evo ev1) gi1 (g1.imp fun H' v d S' _ _ ⟨p, e1, e2, e3⟩ k => k v ⟨p, e1, free_back ev1 gi1 e2, e3⟩)
end
end PD
/-! PDf: calls of built-ins, of methods of texts, of defs. -/
namespace PD
open PySem PySem.Spec PyProof.Rows L2
/-- no star -/
def Pl (e : Expr) : Prop := ∀ (env : PySem.Env) (es : List Expr), starEach (e :: es) env = (false, eval e env) :: starEach es env
/-! ### a built-in of one argument -/
def CalD (K : PySem.W.Frag) (g : Gx) (r : List V → Hp → VK → Prop) (F : PyData → Option PyData) : Prop := ∀ (B : List Addr) (H : Hp) (x : V) (dx d : PyData) (Q : VK), (∀ a ∈ B, H a ≠ none) → (∀ a ∈ g.G, a ∈ B) →
  Rb K g B H x dx → F dx = some d → (∀ v H', Ex H H' → Is K (Fz B H') v d → Q v H') → r [x] H Q
def CalO (K : PySem.W.Frag) (g : Gx) (r : List V → Hp → VK → Prop) (F : PyData → Option PyData) : Prop := ∀ (B : List Addr) (H : Hp) (x : V) (dx d : PyData) (Q : VK), (∀ a ∈ B, H a ≠ none) → (∀ a ∈ g.G, a ∈ B) →
  Rb K g B H x dx → F dx = some d → (∀ p H', Ex H H' → H p = none → Top K (p :: B) H' p d → Q (.ref p) H') → r [x] H Q
theorem CalO.d {K : PySem.W.Frag} {g : Gx} {r : List V → Hp → VK → Prop} {F : PyData → Option PyData} (h : CalO K g r F) : CalD K g r F := fun B H x dx d Q hn hg hx e k =>
  h B H x dx d Q hn hg hx e fun p H' ex hp t => k _ _ ex (t.is (fz_anti fun a ha => List.mem_cons_of_mem _ ha) fun o q => fz_some.mpr ⟨new_notin hn hp, q⟩)
section
variable {c : Cc} {m : List Md} {a : Expr} {da : DE} {r r1 r2 : List V → Hp → VK → Prop} {F F1 F2 : PyData → Option PyData} {x : Str} {p pos : Pos} {id T : String}
theorem CallR.or {f : Value} (h1 : CallR c.X f r1) (h2 : CallR c.X f r2) : CallR c.X f (fun xs H Q => r1 xs H Q ∨ r2 xs H Q) := fun pins s σ H xs us Q I rx h => by
  rcases h with h | h
  · exact h1 pins s σ H xs us Q I rx h
  · exact h2 pins s σ H xs us Q I rx h
theorem one_read (hd : CalD c.X.K c.g r F) (ha : EB c m a da) {σ : L2.St} {H : Hp} {ρ : Env} {S : Store} {B0 B : List Addr} {ow : Addr → Nat} {Q : VK} (fr : Frame c.X.K c.g B0 B ow m ρ σ H) (gi : GI c.X.K c.g B H S)
    (g : Goal c B H σ (d1 F da ρ S) (fun _ H' v d => Is c.X.K (Fz B H') v d) Q) : tCB r (tCons (WE c.X a) tNil) σ H Q := by
  refine ha σ H ρ S B0 B ow _ fr gi (g.bind fun d S1 v H1 _ ev1 gi1 gd1 g1 => ?_)
  cases q : F d with
  | none => rw [q] at g1; exact absurd rfl g1.not_bad
  | some z =>
    rw [q] at g1
    exact hd B H1 v d z Q gi1.kn gi1.sub gd1 q fun u H2 x2 i2 => g1.ok x2.evo (gi1.ex x2) i2
theorem one_readO (hd : CalO c.X.K c.g r F) (ha : EB c m a da) {σ : L2.St} {H : Hp} {ρ : Env} {S : Store} {B0 B : List Addr} {ow : Addr → Nat} {Q : VK} (fr : Frame c.X.K c.g B0 B ow m ρ σ H) (gi : GI c.X.K c.g B H S)
    (g : Goal c B H σ (d1 F da ρ S) (fun S' H' v d => ∃ p, v = .ref p ∧ H p = none ∧ Top c.X.K (p :: B) H' p d ∧ GI c.X.K c.g (p :: B) H' S') Q) : tCB r (tCons (WE c.X a) tNil) σ H Q := by
  refine ha σ H ρ S B0 B ow _ fr gi (g.bind (G1 := fun _ H' v d => Is c.X.K (Fz B H') v d ∨ ∃ p, v = .ref p ∧ p ∉ c.g.G ∧ Top c.X.K B H' p d) fun d S1 v H1 _ ev1 gi1 gd1 g1 => ?_)
  cases q : F d with
  | none => rw [q] at g1; exact absurd rfl g1.not_bad
  | some z =>
    rw [q] at g1
    exact hd B H1 v d z Q gi1.kn gi1.sub gd1 q fun p H2 x2 hp i2 => g1.ok x2.evo (gi1.ex x2) ⟨p, rfl, free_back ev1 gi1 hp, i2, gi1.fresh x2 hp i2.some⟩
theorem ev_callB (hc : CallR c.X (.builtin id) r) (hd : CalD c.X.K c.g r F) (hg : Gl c.X x) (hm : c.X.mg x = none) (hv : bootBuiltins x = some (.builtin id)) (ha : EB c m a da) (hs : Pl a := by intro _ _; rfl) (hn : x ≠ "__name__" := by decide) (hdb : (x == ("__debug__" : Str)) = false := by decide) :
    EV c m (.Call (.Name x p) [a] [] pos) (d1 F da) := fun σ H ρ S B0 B ow Q fr gi g => WE.of (pe_callB hc hg hm hv (pa_cons we pa_nil (hs _ _)) hn hdb (hs _ _)) (one_read hd ha fr gi g)
theorem ev_callT (hc : CallR c.X (.type T) r) (hd : CalD c.X.K c.g r F) (hg : Gl c.X x) (hm : c.X.mg x = none) (hv : bootBuiltins x = some (.type T)) (ha : EB c m a da) (hs : Pl a := by intro _ _; rfl) (hn : x ≠ "__name__" := by decide) (hdb : (x == ("__debug__" : Str)) = false := by decide) :
    EV c m (.Call (.Name x p) [a] [] pos) (d1 F da) := fun σ H ρ S B0 B ow Q fr gi g => WE.of (pe_callTy hc hg hm hv (pa_cons we pa_nil (hs _ _)) hn hdb (hs _ _)) (one_read hd ha fr gi g)
theorem eo_callB (hc : CallR c.X (.builtin id) r) (hd : CalO c.X.K c.g r F) (hg : Gl c.X x) (hm : c.X.mg x = none) (hv : bootBuiltins x = some (.builtin id)) (ha : EB c m a da) (hs : Pl a := by intro _ _; rfl) (hn : x ≠ "__name__" := by decide) (hdb : (x == ("__debug__" : Str)) = false := by decide) :
    EO c m (.Call (.Name x p) [a] [] pos) (d1 F da) := fun σ H ρ S B0 B ow Q fr gi g => WE.of (pe_callB hc hg hm hv (pa_cons we pa_nil (hs _ _)) hn hdb (hs _ _)) (one_readO hd ha fr gi g)
theorem eo_callT (hc : CallR c.X (.type T) r) (hd : CalO c.X.K c.g r F) (hg : Gl c.X x) (hm : c.X.mg x = none) (hv : bootBuiltins x = some (.type T)) (ha : EB c m a da) (hs : Pl a := by intro _ _; rfl) (hn : x ≠ "__name__" := by decide) (hdb : (x == ("__debug__" : Str)) = false := by decide) :
    EO c m (.Call (.Name x p) [a] [] pos) (d1 F da) := fun σ H ρ S B0 B ow Q fr gi g => WE.of (pe_callTy hc hg hm hv (pa_cons we pa_nil (hs _ _)) hn hdb (hs _ _)) (one_readO hd ha fr gi g)
/-! len -/
def fLen : PyData → Option PyData
  | .list xs => some (.int xs.length)
  | .tuple xs => some (.int xs.length)
  | .str z => if sz z.length then some (.int z.length) else none
  | _ => none
theorem cal_len {K : PySem.W.Frag} {g : Gx} : CalD K g (fun xs H Q => (∃ p ys, xs = [.ref p] ∧ (SqL K H p ys ∨ SqT K H p ys) ∧ Q (.int ys.length) H) ∨ (∃ z, xs = [.str z] ∧ z.length ≤ sizeLine ∧ Q (.int z.length) H)) fLen := by
  intro B H x dx d Q hn hg hx e k
  unfold fLen at e
  split at e
  · cases e
    obtain ⟨p, vs, rfl, h1, s1, z1⟩ := hx.lst hg
    exact .inl ⟨p, vs, rfl, .inl (.inl (.inl (s1 H (Evo.refl _ _)))), by rw [h1.length]; exact k _ _ (Ex.refl _) (.int _)⟩
  · cases e
    obtain ⟨p, vs, rfl, h1, s1, z1⟩ := hx.tup hg
    exact .inl ⟨p, vs, rfl, .inr (s1 H (Evo.refl _ _)), by rw [h1.length]; exact k _ _ (Ex.refl _) (.int _)⟩
  · split at e
    · rename_i hz
      cases e
      obtain rfl := hx.str
      exact .inr ⟨_, rfl, sz_le hz, k _ _ (Ex.refl _) (.int _)⟩
    · cases e
  · cases e
theorem ev_len (hg : Gl c.X "len") (hm : c.X.mg "len" = none) (ha : EB c m a da) (hs : Pl a := by intro _ _; rfl) : EV c m (.Call (.Name "len" p) [a] [] pos) (d1 fLen da) := ev_callB (CallR.or call_len_seq call_len_str) cal_len hg hm PySem.boot_len ha hs
/-! abs, int, str -/
def fAbs : PyData → Option PyData | .int i => some (.int (if i < 0 then -i else i)) | _ => none
theorem cal_abs {K : PySem.W.Frag} {g : Gx} : CalD K g (fun xs H Q => ∃ i, xs = [.int i] ∧ Q (.int (if i < 0 then -i else i)) H) fAbs := by
  intro B H x dx d Q hn hg hx e k
  unfold fAbs at e
  split at e
  · cases e
    obtain rfl := hx.int
    exact ⟨_, rfl, k _ _ (Ex.refl _) (.int _)⟩
  · cases e
theorem ev_abs (hg : Gl c.X "abs") (hm : c.X.mg "abs" = none) (ha : EB c m a da) (hs : Pl a := by intro _ _; rfl) : EV c m (.Call (.Name "abs" p) [a] [] pos) (d1 fAbs da) := ev_callB call_abs cal_abs hg hm PyProof.Rows.boot_abs ha hs
def fInt : PyData → Option PyData
  | .int i => some (.int i)
  | .bool b => some (.int (if b then 1 else 0))
  | .str z => if decide (z.length ≤ 640) then (PySem.intText? z).map .int else none
  | _ => none
theorem cal_int {K : PySem.W.Frag} {g : Gx} : CalD K g (fun xs H Q => ((∃ i, xs = [.int i] ∧ Q (.int i) H) ∨ ∃ k, xs = [.bl k] ∧ Q (.int (if k then 1 else 0)) H) ∨ (∃ a n, xs = [.str a] ∧ PySem.intText? a = some n ∧ a.length ≤ 640 ∧ Q (.int n) H)) fInt := by
  intro B H x dx d Q hn hg hx e k
  unfold fInt at e
  split at e
  · cases e
    obtain rfl := hx.int
    exact .inl (.inl ⟨_, rfl, k _ _ (Ex.refl _) (.int _)⟩)
  · cases e
    obtain rfl := hx.bool
    exact .inl (.inr ⟨_, rfl, k _ _ (Ex.refl _) (.int _)⟩)
  · split at e
    · rename_i z hz
      obtain rfl := hx.str
      cases q : PySem.intText? z with
      | none => rw [q] at e; cases e
      | some n =>
        rw [q] at e
        cases e
        exact .inr ⟨z, n, rfl, q, of_decide_eq_true hz, k _ _ (Ex.refl _) (.int _)⟩
    · cases e
  · cases e
theorem ev_int_ (hg : Gl c.X "int") (hm : c.X.mg "int" = none) (ha : EB c m a da) (hs : Pl a := by intro _ _; rfl) : EV c m (.Call (.Name "int" p) [a] [] pos) (d1 fInt da) := ev_callT (CallR.or call_int1 call_int_str) cal_int hg hm PyProof.Rows.boot_int ha hs
def fStr : PyData → Option PyData | .int i => if decide (i.natAbs.log2 < 1920) then some (.str (Str.ofString (toString i))) else none | _ => none
theorem cal_str {K : PySem.W.Frag} {g : Gx} : CalD K g (fun xs H Q => ∃ i : Int, xs = [.int i] ∧ i.natAbs.log2 < 1920 ∧ Q (.str (Str.ofString (toString i))) H) fStr := by
  intro B H x dx d Q hn hg hx e k
  unfold fStr at e
  split at e
  · split at e
    · rename_i hz
      cases e
      obtain rfl := hx.int
      exact ⟨_, rfl, of_decide_eq_true hz, k _ _ (Ex.refl _) (.str _)⟩
    · cases e
  · cases e
theorem ev_str_ (hg : Gl c.X "str") (hm : c.X.mg "str" = none) (ha : EB c m a da) (hs : Pl a := by intro _ _; rfl) : EV c m (.Call (.Name "str" p) [a] [] pos) (d1 fStr da) := ev_callT call_str_int cal_str hg hm PyProof.Rows.boot_str ha hs
/-! tuple(..) of a list, a tuple, a text; list(..) -/
def signs (z : Str) : List V := z.cps.toList.map fun c => V.str ⟨#[c]⟩
def signsD (z : Str) : List PyData := z.cps.toList.map fun c => .str ⟨#[c]⟩
def fTuple : PyData → Option PyData
  | .list xs => some (.tuple xs)
  | .tuple xs => some (.tuple xs)
  | .str z => if sz z.length then some (.tuple (signsD z)) else none
  | _ => none
theorem signs_is {K : PySem.W.Frag} {H : Hp} : ∀ l : List Nat, IsAll K H (l.map fun c => V.str ⟨#[c]⟩) (l.map fun c => PyData.str ⟨#[c]⟩)
  | [] => .nil
  | c :: l => .cons (.str _) (signs_is l)
theorem signs_vals {acc : Array Value} {z : Str} (h : ItemsOf (SignAt z) acc z.cps.size) : Vals (signs z) acc.toList := by
  refine vals_of_at (by unfold signs; rw [List.length_map, Array.length_toList, Array.length_toList, h.1]) fun j x u e1 e2 => ?_
  rw [Array.getElem?_toList] at e2
  obtain ⟨c, t, e3, e4⟩ := h.2 j u e2
  unfold signs at e1
  rw [List.getElem?_map, Array.getElem?_toList, e3] at e1
  cases e1
  exact ⟨t, e4⟩
theorem call_tupS (hc : c.X.calm = true) : CallR c.X (.type "tuple") (fun xs H Q => ∃ z, xs = [.str z] ∧ z.length ≤ sizeLine ∧ ∀ l, H l = none → Q (.ref l) (upd H l (.tup (signs z)))) := by
  intro pins s σ H xs us Q I r h
  obtain ⟨z, rfl, hz, q⟩ := h
  obtain ⟨u, rfl, t, rfl⟩ := vals1 r
  refine call_tuple_str (I.ok.hd hc) z t (fun h' tk acc kp hacc => ?_) hz
  have I1 : Inv c.X pins σ H { s with heap := h' } := I.kept (t' := s.toks) kp
  have hv := signs_vals hacc
  have I2 : Inv c.X pins σ (upd H h'.objs.size (.tup (signs z))) { s with heap := h'.push { cls := .type "tuple", data := .seq acc }, toks := tk } :=
    I1.laid (t' := tk) (fun b o e => Heap.get?_push_of_some _ e) (Nat.le_refl _) (show ObjOk c.X.prog c.X.w _ _ _ (.tup (signs z)) from ⟨by unfold signs; rw [List.length_map, Array.length_toList]; exact hz, acc.toList, hv, by simpa using IsTup.new _ _⟩)
  exact ⟨.ref h'.objs.size, _, I2, rfl, q _ (I1.hok.fresh (Nat.le_refl _))⟩
theorem cal_tuple {K : PySem.W.Frag} {g : Gx} : CalD K g (fun xs H Q => (∃ p ys, xs = [.ref p] ∧ ((SqL K H p ys ∧ ∀ l, H l = none → Q (.ref l) (upd H l (.tup ys))) ∨ (SqT K H p ys ∧ Q (.ref p) H))) ∨ (∃ z, xs = [.str z] ∧ z.length ≤ sizeLine ∧ ∀ l, H l = none → Q (.ref l) (upd H l (.tup (signs z))))) fTuple := by
  intro B H x dx d Q hn hg hx e k
  unfold fTuple at e
  split at e
  · cases e
    obtain ⟨p, vs, rfl, h1, s1, z1⟩ := hx.lst hg
    exact .inl ⟨p, vs, rfl, .inl ⟨.inl (.inl (s1 H (Evo.refl _ _))), fun l hl => k _ _ (Ex.new hl) (is_newT hn hl z1 h1)⟩⟩
  · cases e
    obtain ⟨p, vs, e2, h1, s1, z1⟩ := hx.tup hg
    subst e2
    refine .inl ⟨p, vs, rfl, .inr ⟨s1 H (Evo.refl _ _), ?_⟩⟩
    rcases hx with hx | ⟨r, _, _, ⟨_, _, z, _⟩ | ⟨_, _, z, _⟩ | ⟨_, _, z, _⟩⟩
    · exact k _ _ (Ex.refl _) hx
    all_goals cases z
  · split at e
    · rename_i z hz
      cases e
      obtain rfl := hx.str
      exact .inr ⟨z, rfl, sz_le hz, fun l hl => k _ _ (Ex.new hl) (is_newT hn hl (by unfold signs; rw [List.length_map, Array.length_toList]; exact sz_le hz) (signs_is _))⟩
    · cases e
  · cases e
theorem ev_tuple (hc : c.X.calm = true) (hg : Gl c.X "tuple") (hm : c.X.mg "tuple" = none) (ha : EB c m a da) (hs : Pl a := by intro _ _; rfl) : EV c m (.Call (.Name "tuple" p) [a] [] pos) (d1 fTuple da) := ev_callT (CallR.or call_tuple_of (call_tupS hc)) cal_tuple hg hm PyProof.Rows.boot_tuple ha hs
def fList : PyData → Option PyData
  | .list xs => some (.list xs)
  | .tuple xs => some (.list xs)
  | _ => none
theorem cal_list {K : PySem.W.Frag} {g : Gx} : CalO K g (fun xs H Q => ∃ p ys, xs = [.ref p] ∧ (SqL K H p ys ∨ SqT K H p ys) ∧ ∀ l, H l = none → Q (.ref l) (upd H l (.lst ys))) fList := by
  intro B H x dx d Q hn hg hx e k
  unfold fList at e
  split at e
  · cases e
    obtain ⟨p, vs, rfl, h1, s1, z1⟩ := hx.lst hg
    exact ⟨p, vs, rfl, .inl (.inl (.inl (s1 H (Evo.refl _ _)))), fun l hl => k _ _ (Ex.new hl) hl (top_newL hl z1 h1)⟩
  · cases e
    obtain ⟨p, vs, rfl, h1, s1, z1⟩ := hx.tup hg
    exact ⟨p, vs, rfl, .inr (s1 H (Evo.refl _ _)), fun l hl => k _ _ (Ex.new hl) hl (top_newL hl z1 h1)⟩
  · cases e
theorem eo_list (hg : Gl c.X "list") (hm : c.X.mg "list" = none) (ha : EB c m a da) (hs : Pl a := by intro _ _; rfl) : EO c m (.Call (.Name "list" p) [a] [] pos) (d1 fList da) := eo_callT call_list_of cal_list hg hm PyProof.Rows.boot_list ha hs
/-! all, any of a list of truth values -/
def boolsOf : List PyData → Option (List Bool)
  | [] => some []
  | .bool i :: r => (boolsOf r).map (i :: ·)
  | _ :: _ => none
theorem boolsOf_eq : ∀ {ds : List PyData} {ns : List Bool}, boolsOf ds = some ns → ds = ns.map .bool
  | [], ns, h => by cases h; rfl
  | d :: r, ns, h => by
    cases d with
    | bool i =>
      unfold boolsOf at h
      cases e : boolsOf r with
      | none => rw [e] at h; cases h
      | some ms => rw [e] at h; cases h; rw [boolsOf_eq e]; rfl
    | _ => cases h
@[simp] theorem boolsOf_bools : ∀ {ns : List Bool}, boolsOf (ns.map .bool) = some ns
  | [] => rfl
  | n :: ns => by
    show (boolsOf (ns.map .bool)).map (n :: ·) = _
    rw [boolsOf_bools]
    rfl
def fBs (f : List Bool → Bool) : PyData → Option PyData | .list xs => (boolsOf xs).map fun bs => .bool (f bs) | _ => none
theorem cal_bs {K : PySem.W.Frag} {g : Gx} (f : List Bool → Bool) : CalD K g (fun vs H Q => ∃ (a : Addr) (bs : List Bool), vs = [V.ref a] ∧ SqL K H a (bs.map V.bl) ∧ Q (.bl (f bs)) H) (fBs f) := by
  intro B H x dx d Q hn hg hx e k
  unfold fBs at e
  split at e
  · rename_i xs
    cases q : boolsOf xs with
    | none => rw [q] at e; cases e
    | some bs =>
      rw [q] at e
      cases e
      obtain rfl := boolsOf_eq q
      obtain ⟨p, vs, rfl, h1, s1, z1⟩ := hx.lst hg
      obtain rfl := h1.bools
      exact ⟨p, bs, rfl, .inl (.inl (s1 H (Evo.refl _ _))), k _ _ (Ex.refl _) (.bl _)⟩
  · cases e
theorem ev_all (hc : c.X.calm = true) (hg : Gl c.X "all") (hm : c.X.mg "all" = none) (ha : EB c m a da) (hs : Pl a := by intro _ _; rfl) : EV c m (.Call (.Name "all" p) [a] [] pos) (d1 (fBs fun bs => bs.all _root_.id) da) := ev_callB (cr_all hc) (cal_bs _) hg hm PyProof.Rows.boot_all ha hs
theorem ev_any (hc : c.X.calm = true) (hg : Gl c.X "any") (hm : c.X.mg "any" = none) (ha : EB c m a da) (hs : Pl a := by intro _ _; rfl) : EV c m (.Call (.Name "any" p) [a] [] pos) (d1 (fBs fun bs => bs.any _root_.id) da) := ev_callB (cr_any hc) (cal_bs _) hg hm PyProof.Rows.boot_any ha hs
/-! isinstance of a built-in class -/
def tyD : PyData → String | .none => "NoneType" | .bool _ => "bool" | .int _ => "int" | .str _ => "str" | .list _ => "list" | .tuple _ => "tuple" | .dict _ => "dict"
theorem ty_of {K : PySem.W.Frag} {g : Gx} {B : List Addr} {H : Hp} {v : V} {d : PyData} (h : Rb K g B H v d) : TyX K H v (.type (tyD d)) := by
  have lst : ∀ {a xs}, H a = some (.lst xs) → TyX K H (.ref a) (.type "list") := fun e => .base (.lst e)
  rcases h with h | ⟨p, rfl, hp, ⟨ds, vs, rfl, e, _⟩ | ⟨ds, kvs, rfl, e, _⟩ | ⟨ds, kvs, rfl, e, _⟩⟩
  · cases h with
    | non => exact .base .non
    | bl b => exact .base (.bl b)
    | int i => exact .base (.int i)
    | str x => exact .base (.str x)
    | lst e _ _ => exact .base (.lst (fz_le _ _ e))
    | tup e _ _ =>
      rcases e with (e | ⟨o, e⟩) | ⟨o, its, n, e, h2, _⟩
      · exact .base (.tup (fz_le _ _ e))
      · exact .fTuple (fz_le _ _ e)
      · exact .kTuple e h2
    | dK e _ _ => exact .base (.dK (fz_le _ _ e))
    | dT e _ _ => exact .base (.dT (fz_le _ _ e))
  · exact .base (.lst e)
  · exact .base (.dK e)
  · exact .base (.dT e)
def isT (T : String) (d : PyData) : Bool := match d with
  | .bool _ => T == "bool" || T == "int"
  | d => T == tyD d
/-- isinstance is answered as isT says -/
def IsTOk (T : String) : Prop := ∀ t ∈ ["NoneType", "bool", "int", "str", "list", "tuple", "dict"], kitB t T = some (t == T || (t == "bool" && T == "int"))
theorem isT_eq (T : String) (d : PyData) : (tyD d == T || (tyD d == "bool" && T == "int")) = isT T d := by
  cases d <;> simp [isT, tyD, Bool.beq_comm, BEq.comm]
theorem ev_isi {T : Str} {p2 : Pos} (hT : IsTOk T') (hb : bootBuiltins T = some (.type T')) (hg : Gl c.X "isinstance") (hm : c.X.mg "isinstance" = none) (gT : Gl c.X T) (mT : c.X.mg T = none) (ha : EV c m a da) (hs : Pl a := by intro _ _; rfl) (n1 : T ≠ "__name__" := by decide) (n2 : (T == ("__debug__" : Str)) = false := by decide) :
    EV c m (.Call (.Name "isinstance" p) [a, .Name T p2] [] pos) (d1 (fun d => some (.bool (isT T' d))) da) := by
  intro σ H ρ S B0 B ow Q fr gi g
  refine WE.of (pe_callB call_isi hg hm PyProof.Rows.boot_isinstance (pa_cons we (pa_cons (pe_bltn (v := .ty T') gT mT hb rfl n1 n2) pa_nil) (hs _ _)) (he := hs _ _)) ?_
  refine ha σ H ρ S B0 B ow _ fr gi (g.bind fun d S1 v H1 _ ev1 gi1 gd1 g1 => ?_)
  refine ⟨v, .ty T', .type (tyD d), .type T', isT T' d, rfl, .ty T', ty_of (g := c.g) (.inl gd1), ?_, g1.ok0 gi1 (.bl _)⟩
  rw [← isT_eq]
  refine kit_ty (hT _ ?_)
  cases d <;> simp [tyD]
end
end PD
/-! PDg: what is walked; list comprehensions; calls of defs. -/
namespace PD
open PySem PySem.Spec PyProof.Rows L2
/-! ### calls of defs -/
/-- an argument: frozen data, or the list at place k that all share -/
def ArgOk (K : PySem.W.Frag) (g : Gx) (B : List Addr) (H : Hp) : Md → V → PyData → Prop
  | .st k, v, d => d = .none ∧ ∃ p, g.SA[k]? = some p ∧ v = .ref p
  | .cs, v, d => ∃ a vs ds, d = .list ds ∧ v = .ref a ∧ SqL K (Fz B H) a vs ∧ vs.length ≤ sizeLine ∧ IsAll K (Fz B H) vs ds
  | _, v, d => Is K (Fz B H) v d
inductive ArgsOk (K : PySem.W.Frag) (g : Gx) (B : List Addr) (H : Hp) : List Md → List V → List PyData → Prop
  | nil : ArgsOk K g B H [] [] []
  | cons {k : Md} {ks : List Md} {v : V} {vs : List V} {d : PyData} {ds : List PyData} : ArgOk K g B H k v d → ArgsOk K g B H ks vs ds → ArgsOk K g B H (k :: ks) (v :: vs) (d :: ds)
theorem ArgOk.evo {K : PySem.W.Frag} {g : Gx} {B : List Addr} {H H' : Hp} {k : Md} {v : V} {d : PyData} (h : ArgOk K g B H k v d) (e : Ex (Fz B H) (Fz B H')) : ArgOk K g B H' k v d := by
  cases k with
  | st k => exact h
  | cs => exact let ⟨a, vs, ds, h1, h2, h3, h4, h5⟩ := h; ⟨a, vs, ds, h1, h2, e.l h3, h4, h5.mono e⟩
  | _ => exact Is.mono e h
theorem ArgsOk.length {K : PySem.W.Frag} {g : Gx} {B : List Addr} {H : Hp} : ∀ {ks : List Md} {vs : List V} {ds : List PyData}, ArgsOk K g B H ks vs ds → vs.length = ks.length
  | _, _, _, .nil => rfl
  | _, _, _, .cons _ r => by simp [ArgsOk.length r]
def EM (c : Cc) (m : List Md) (ks : List Md) (e : List Expr) (den : DA) : Prop := ∀ σ H ρ S B0 B ow Q, Frame c.X.K c.g B0 B ow m ρ σ H → GI c.X.K c.g B H S →
  Goal c B H σ (den ρ S) (fun _ H' v d => ArgsOk c.X.K c.g B H' ks v d) Q → WA c.X e σ H Q
def dSt : DE := fun _ S => .ok .none S
section
variable {c : Cc} {m : List Md} {ks : List Md} {e : Expr} {es : List Expr} {a : DE} {r : DA}
theorem em_nil : EM c m [] [] dNil := fun σ H ρ S B0 B ow Q fr gi g => WA.of pa_nil (g.ok0 gi .nil)
theorem em_val (ha : EV c m e a) (hr : EM c m ks es r) (hs : Pl e := by intro _ _; rfl) : EM c m (.fz :: ks) (e :: es) (dCons a r) := by
  intro σ H ρ S B0 B ow Q fr gi g
  refine WA.of (pa_cons we wa (hs _ _)) (ha σ H ρ S B0 B ow _ fr gi (g.bind fun d S' v H' _ ev gi' gd g' => ?_))
  refine hr σ H' ρ S' B0 B ow _ (fr.evo ev) gi' (g'.bind fun ds S2 vs H2 _ ev2 gi2 gd2 g2 => ?_)
  exact g2.ok0 gi2 (.cons (show Is _ _ _ _ from gd.mono (ev2.fz gi2.sub)) gd2)
theorem em_st {k i : Nat} {x : Str} {pos : Pos} (hm : m[i]? = some (.st k)) (hp : PE c.X (.Name x pos) (tVar i)) (hr : EM c m ks es r) : EM c m (.st k :: ks) (.Name x pos :: es) (dCons dSt r) := by
  intro σ H ρ S B0 B ow Q fr gi g
  refine WA.of (pa_cons hp wa rfl) ?_
  obtain ⟨p, hk, hv⟩ := fr.slot i _ hm
  refine ⟨.ref p, ?_, ?_⟩
  · rw [List.getD_eq_getElem?_getD] at hv
    cases h2 : σ[i]? with
    | none => rw [h2] at hv; cases hv
    | some o => rw [h2] at hv; rw [show o = some _ from hv]
  · refine hr σ H ρ S B0 B ow _ fr gi (Goal.bind (r := r ρ S) (k := fun xs S2 => R.ok (PyData.none :: xs) S2) g fun ds S2 vs H2 _ ev2 gi2 gd2 g2 => ?_)
    exact g2.ok0 gi2 (.cons ⟨rfl, p, hk, rfl⟩ gd2)
end
/-- what a result is: frozen, or a new list of its own -/
def ResOk (K : PySem.W.Frag) (g : Gx) (fr : Bool) (B : List Addr) (H H' : Hp) (S' : Store) (v : V) (d : PyData) : Prop :=
  if fr = true then ∃ p, v = .ref p ∧ H p = none ∧ Top K (p :: B) H' p d ∧ GI K g (p :: B) H' S' else Is K (Fz B H') v d
/-- a def's promise: its denotation -/
def spD (K : PySem.W.Frag) (mg : Str → Option Value) (g : Gx) (ks : List Md) (fr : Bool) (den : List PyData → Store → R PyData) : Sp := fun vs H Q E =>
  ∃ ds S B, ArgsOk K g B H ks vs ds ∧ GI K g B H S ∧
    (∀ d S' v H', den ds S = .ok d S' → Evo g.G H H' → GI K g B H' S' → ResOk K g fr B H H' S' v d → Q v H') ∧
    (∀ x S' cls dd H', den ds S = .exc x S' → Evo g.G H H' → GI K g B H' S' → XcRep K mg (Fz B H') x cls dd → E cls dd H') ∧ den ds S ≠ .bad
def dCall (f : List PyData → Store → R PyData) (as : DA) : DE := fun ρ S => (as ρ S).bind fun ds S1 => f ds S1
section
variable {c : Cc} {m : List Md} {ks : List Md} {e : Expr} {es : List Expr} {as : DA} {k : Nat} {f : Addr} {fd : FuncData} {ps : List Str} {den : List PyData → Store → R PyData} {x : Str} {p pos : Pos}
theorem call_read {fr0 : Bool} (ha : EM c m ks es as) {σ : L2.St} {H : Hp} {ρ : Env} {S : Store} {B0 B : List Addr} {ow : Addr → Nat} {Q : VK} (fr : Frame c.X.K c.g B0 B ow m ρ σ H) (gi : GI c.X.K c.g B H S)
    (g : Goal c B H σ (dCall den as ρ S) (fun S' H' v d => ResOk c.X.K c.g fr0 B H H' S' v d) Q) : tCallS (spD c.X.K c.X.mg c.g ks fr0 den) (L2.WE c.W) (WA c.X es) σ H Q := by
  refine ha σ H ρ S B0 B ow _ fr gi (g.bind (G1 := fun _ H' v d => ArgsOk c.X.K c.g B H' ks v d) fun ds S1 vs H1 _ ev1 gi1 gd1 g1 => ?_)
  refine ⟨ds, S1, B, gd1, gi1, fun d S' v H' e1 ev gi' rs => g1.1 d S' v H' e1 ev gi' ?_, fun x S' cls dd H' e1 ev gi' xr => g1.2.1 x S' e1 cls dd H' ev gi' xr, g1.2.2⟩
  unfold ResOk at rs ⊢
  split at rs
  · rename_i q
    rw [if_pos q]
    obtain ⟨p, e2, e3, e4⟩ := rs
    exact ⟨p, e2, free_back ev1 gi1 e3, e4⟩
  · rename_i q
    rw [if_neg q]
    exact rs
/-- a def of the denotation den at level k -/
def FnD (c : Cc) (k : Nat) (f : Addr) (fd : FuncData) (ps : List Str) (ks : List Md) (fr : Bool) (den : List PyData → Store → R PyData) : Prop :=
  FnOk c.X.prog c.X.w c.X.K c.X.mg c.X.base (L2.CX c.X.prog c.X.w) k f fd ps (spD c.X.K c.X.mg c.g ks fr den)
/-- where a def that is called stands -/
structure At (X : Cx) (x : Str) (f : Addr) (fd : FuncData) (ps : List Str) : Prop where
  g : X.mg x = some (.ref f)
  k : PySem.W.keepIn X.K (.ref f) = true
  b : Binds X.K fd ps []
theorem ev_call (F : FnD c k f fd ps ks false den) (hr : Room k c.X.A) (hg : Gl c.X x) (T : At c.X x f fd ps) (tk : Takes c.X c.W) (ha : EM c m ks (e :: es) as) (hdb : (x == ("__debug__" : Str)) = false := by decide)
    (he : starEach (e :: es) c.X.env = (false, eval e c.X.env) :: starEach es c.X.env := by rfl) (hpl : (backTo pos (starEach es c.X.env)).any (·.1) = false := by rfl) : EV c m (.Call (.Name x p) (e :: es) [] pos) (dCall den as) := fun σ H ρ S B0 B ow Q fr gi g =>
  PD.WE.of (pe_callS F hr hg T.g T.k T.b (fun σ => passAt tk σ) wa hdb he hpl) (call_read (fr0 := false) ha fr gi g)
theorem eo_call (F : FnD c k f fd ps ks true den) (hr : Room k c.X.A) (hg : Gl c.X x) (T : At c.X x f fd ps) (tk : Takes c.X c.W) (ha : EM c m ks (e :: es) as) (hdb : (x == ("__debug__" : Str)) = false := by decide)
    (he : starEach (e :: es) c.X.env = (false, eval e c.X.env) :: starEach es c.X.env := by rfl) (hpl : (backTo pos (starEach es c.X.env)).any (·.1) = false := by rfl) : EO c m (.Call (.Name x p) (e :: es) [] pos) (dCall den as) := fun σ H ρ S B0 B ow Q fr gi g =>
  PD.WE.of (pe_callS F hr hg T.g T.k T.b (fun σ => passAt tk σ) wa hdb he hpl) (call_read (fr0 := true) ha fr gi g)
end
/-! ### what is walked -/
structure WI (X : Cx) (tg iter : Expr) (σ : L2.St) (H : Hp) (R : It → Hp → Prop) : Prop where
  go : ∀ (pins : List (Addr × Obj)) (s : Shared), Inv X pins σ H s → wpAny (model X.prog X.w) X.A (eval iter X.env) (fun v s1 => wpAny (model X.prog X.w) X.A (pyIter v) (PIE X pins σ tg R) X.xe s1) X.xe s
theorem wi {X : Cx} {tg iter : Expr} : PI X tg iter (WI X tg iter) := ⟨fun pins s _ _ _ I h => h.go pins s I⟩
theorem WI.of {X : Cx} {tg iter : Expr} {t : TI} (h : PI X tg iter t) {σ : L2.St} {H : Hp} {R : It → Hp → Prop} (q : t σ H R) : WI X tg iter σ H R := ⟨fun pins s I => h.run pins s σ H R I q⟩
/-- a walk through the items ds, wherever what is frozen stays -/
def ItF (K : PySem.W.Frag) (B : List Addr) (H0 : Hp) (J : It) (ds : List PyData) : Prop := ds.length ≤ sizeLine ∧ ∀ B' H, Ex (Fz B H0) (Fz B' H) → (∀ a ∈ B', H a ≠ none) →
  (∀ (i : Nat) d, ds[i]? = some d → J.go i H ∧ ∀ x H', J.yld i H x H' → Ex H H' ∧ Is K (Fz B' H') x d) ∧ ∀ (i : Nat), ds.length ≤ i → J.stop i H
/-- .. wherever all but the shared lists and tables stays -/
def ItC (K : PySem.W.Frag) (G B : List Addr) (H0 : Hp) (J : It) (ds : List PyData) : Prop := ds.length ≤ sizeLine ∧ ∀ B' H, Evo G H0 H → Ex (Fz B H0) (Fz B' H) → (∀ a ∈ B', H a ≠ none) →
  (∀ (i : Nat) d, ds[i]? = some d → J.go i H ∧ ∀ x H', J.yld i H x H' → Ex H H' ∧ Is K (Fz B' H') x d) ∧ ∀ (i : Nat), ds.length ≤ i → J.stop i H
abbrev DI := Env → Store → R (List PyData)
def IFo (c : Cc) (m : List Md) (tg iter : Expr) (den : DI) : Prop := ∀ σ H ρ S B0 B ow (Q : It → Hp → Prop), Frame c.X.K c.g B0 B ow m ρ σ H → GI c.X.K c.g B H S →
  Goal c B H σ (den ρ S) (fun _ H' J ds => ItF c.X.K B H' J ds) Q → WI c.X tg iter σ H Q
def ICo (c : Cc) (m : List Md) (tg iter : Expr) (den : DI) : Prop := ∀ σ H ρ S B0 B ow (Q : It → Hp → Prop), Frame c.X.K c.g B0 B ow m ρ σ H → GI c.X.K c.g B H S →
  Goal c B H σ (den ρ S) (fun _ H' J ds => ItC c.X.K c.g.G B H' J ds) Q → WI c.X tg iter σ H Q
theorem ItF.c {K : PySem.W.Frag} {g : Gx} {B : List Addr} {H0 : Hp} {J : It} {ds : List PyData} (h : ItF K B H0 J ds) (hg : ∀ a ∈ g.G, a ∈ B) : ItC K g.G B H0 J ds := ⟨h.1, fun B' H _ e kn => h.2 B' H e kn⟩
theorem IFo.c {c : Cc} {m : List Md} {tg iter : Expr} {den : DI} (h : IFo c m tg iter den) : ICo c m tg iter den := fun σ H ρ S B0 B ow Q fr gi g => h σ H ρ S B0 B ow Q fr gi (g.imp fun H' J ds S' _ gi' gd k => k J (gd.c gi'.sub))
def seqD : PyData → Option (List PyData) | .list xs => some xs | .tuple xs => some xs | .str z => if sz z.length then some (signsD z) else none | _ => none
def dIter (a : DE) : DI := fun ρ S => (a ρ S).bind fun x S1 => ofO (seqD x) S1
/-- a list, a tuple, a text by its kind -/
def lstD : PyData → Option (List PyData) | .list xs => some xs | _ => none
def tupD : PyData → Option (List PyData) | .tuple xs => some xs | _ => none
def strD : PyData → Option (List PyData) | .str z => if sz z.length then some (signsD z) else none | _ => none
def dIt (F : PyData → Option (List PyData)) (a : DE) : DI := fun ρ S => (a ρ S).bind fun x S1 => ofO (F x) S1
section
variable {c : Cc} {m : List Md} {a b : Expr} {da db : DE} {tg : Expr} {p pos : Pos}
theorem itF_list {K : PySem.W.Frag} {B : List Addr} {H : Hp} {v : V} {ds : List PyData} (h : Is K (Fz B H) v (.list ds)) : ∃ a, v = .ref a ∧ (∃ xs, SqL K H a xs) ∧ ItF K B H (Itl K a) ds := by
  cases h with
  | lst h z r =>
    rename_i a vs
    refine ⟨a, rfl, ⟨vs, .inl (.inl (fz_le _ _ h))⟩, by rw [← r.length]; exact z, fun B' H' e kn => ⟨fun i d hd => ?_, fun i hi => ⟨vs, .inl (.inl (fz_le _ _ (e _ _ h))), by rw [r.length]; exact hi⟩⟩⟩
    obtain ⟨w, hw, iw⟩ := r.get hd
    have sq : SqL K H' a vs := .inl (.inl (fz_le _ _ (e _ _ h)))
    refine ⟨⟨vs, w, sq, hw⟩, fun x H2 ⟨e2, k⟩ => ?_⟩
    subst e2
    have := k vs sq
    rw [hw] at this
    cases this
    exact ⟨Ex.refl _, iw.mono e⟩
theorem itF_tup {K : PySem.W.Frag} {B : List Addr} {H : Hp} {v : V} {ds : List PyData} (h : Is K (Fz B H) v (.tuple ds)) : ∃ a, v = .ref a ∧ (∃ xs, SqT K H a xs) ∧ ItF K B H (Itt K a) ds := by
  cases h with
  | tup h z r =>
    rename_i a vs
    refine ⟨a, rfl, ⟨vs, (fz_le (H := H)).t h⟩, by rw [← r.length]; exact z, fun B' H' e kn => ⟨fun i d hd => ?_, fun i hi => ⟨vs, (fz_le).t (e.t h), by rw [r.length]; exact hi⟩⟩⟩
    obtain ⟨w, hw, iw⟩ := r.get hd
    have sq : SqT K H' a vs := (fz_le).t (e.t h)
    refine ⟨⟨vs, w, sq, hw⟩, fun x H2 ⟨e2, k⟩ => ?_⟩
    subst e2
    have := k vs sq
    rw [hw] at this
    cases this
    exact ⟨Ex.refl _, iw.mono e⟩
theorem if_list (ha : EV c m a da) : IFo c m tg a (dIt lstD da) := by
  intro σ H ρ S B0 B ow Q fr gi g
  refine WI.of (pi_list we) (ha σ H ρ S B0 B ow _ fr gi (g.bind fun d S1 v H1 _ ev1 gi1 gd1 g1 => ?_))
  unfold lstD at g1
  split at g1
  · obtain ⟨a, rfl, ex, it⟩ := itF_list gd1
    exact ⟨a, rfl, ex, g1.ok0 gi1 it⟩
  · exact absurd rfl g1.not_bad
theorem if_tup (ha : EV c m a da) : IFo c m tg a (dIt tupD da) := by
  intro σ H ρ S B0 B ow Q fr gi g
  refine WI.of (pi_tup we) (ha σ H ρ S B0 B ow _ fr gi (g.bind fun d S1 v H1 _ ev1 gi1 gd1 g1 => ?_))
  unfold tupD at g1
  split at g1
  · obtain ⟨a, rfl, ex, it⟩ := itF_tup gd1
    exact ⟨a, rfl, ex, g1.ok0 gi1 it⟩
  · exact absurd rfl g1.not_bad
/-- a list or a tuple, whichever comes -/
def sqD : PyData → Option (List PyData) | .list xs => some xs | .tuple xs => some xs | _ => none
theorem pi_or {tg e : Expr} {X : Cx} {t1 t2 : TE → TI} (h1 : ∀ {te}, PE X e te → PI X tg e (t1 te)) (h2 : ∀ {te}, PE X e te → PI X tg e (t2 te)) {te : TE} (he : PE X e te) : PI X tg e (fun σ H R => t1 te σ H R ∨ t2 te σ H R) :=
  ⟨fun pins s σ H R I h => h.elim (fun h => (h1 he).run pins s σ H R I h) fun h => (h2 he).run pins s σ H R I h⟩
theorem if_seq (ha : EV c m a da) : IFo c m tg a (dIt sqD da) := by
  intro σ H ρ S B0 B ow Q fr gi g
  have gc : ∀ x S1, da ρ S = .ok x S1 → (∃ xs, x = .list xs) ∨ ∃ xs, x = .tuple xs := fun x S1 e => by
    have nb := g.2.2
    unfold dIt at nb
    rw [e] at nb
    cases x with
    | list xs => exact .inl ⟨xs, rfl⟩
    | tuple xs => exact .inr ⟨xs, rfl⟩
    | _ => exact absurd rfl nb
  cases e : da ρ S with
  | bad => exact absurd (by unfold dIt; rw [e]; rfl) g.2.2
  | exc x S1 =>
    refine WI.of (pi_list we) (ha σ H ρ S B0 B ow _ fr gi (g.bind fun d S1 v H1 q ev1 gi1 gd1 g1 => ?_))
    rw [e] at q; cases q
  | ok x S1 =>
    rcases gc x S1 e with ⟨xs, rfl⟩ | ⟨xs, rfl⟩
    · refine WI.of (pi_list we) (ha σ H ρ S B0 B ow _ fr gi (g.bind fun d S1 v H1 q ev1 gi1 gd1 g1 => ?_))
      rw [e] at q
      cases q
      obtain ⟨a, rfl, ex, it⟩ := itF_list gd1
      exact ⟨a, rfl, ex, g1.ok0 gi1 it⟩
    · refine WI.of (pi_tup we) (ha σ H ρ S B0 B ow _ fr gi (g.bind fun d S1 v H1 q ev1 gi1 gd1 g1 => ?_))
      rw [e] at q
      cases q
      obtain ⟨a, rfl, ex, it⟩ := itF_tup gd1
      exact ⟨a, rfl, ex, g1.ok0 gi1 it⟩
/-- a list of a slot's own, in a comprehension -/
theorem ic_list (ha : EB c m a da) : ICo c m tg a (dIt lstD da) := by
  intro σ H ρ S B0 B ow Q fr gi g
  refine WI.of (pi_list we) (ha σ H ρ S B0 B ow _ fr gi (g.bind (G1 := fun _ H' v d => Is c.X.K (Fz B H') v d ∨ ∃ p, v = .ref p ∧ p ∉ c.g.G ∧ Top c.X.K B H' p d) fun d S1 v H1 _ ev1 gi1 gd1 g1 => ?_))
  unfold lstD at g1
  split at g1
  · obtain ⟨a, vs, rfl, r, st, z⟩ := Rb.lst gd1 gi1.sub
    refine ⟨a, rfl, ⟨vs, .inl (.inl (st H1 (Evo.refl _ _)))⟩, g1.ok0 gi1 ⟨by rw [← r.length]; exact z, fun B' H' e e' kn => ⟨fun i d hd => ?_, fun i hi => ⟨vs, .inl (.inl (st H' e)), by rw [r.length]; exact hi⟩⟩⟩⟩
    obtain ⟨w, hw, iw⟩ := r.get hd
    have sq : SqL c.X.K H' a vs := .inl (.inl (st H' e))
    refine ⟨⟨vs, w, sq, hw⟩, fun x H2 ⟨e2, k⟩ => ?_⟩
    subst e2
    have := k vs sq
    rw [hw] at this
    cases this
    exact ⟨Ex.refl _, iw.mono e'⟩
  · exact absurd rfl g1.not_bad
/-! range -/
def rngD (lo : Int) (n : Nat) : List PyData := (List.range n).map fun i => .int (lo + (i : Nat))
def cR (i : Int) : Bool := decide (-(2 ^ 62) ≤ i ∧ i < 2 ^ 62)
def dRng1 (a : DE) : DI := fun ρ S => (a ρ S).bind fun x S1 => match x with | .int j => if cR j && sz j.toNat then .ok (rngD 0 j.toNat) S1 else .bad | _ => .bad
def dRng2 (a b : DE) : DI := fun ρ S => (a ρ S).bind fun x S1 => (b ρ S1).bind fun y S2 => match x, y with | .int i, .int j => if cR i && cR j && sz (j - i).toNat then .ok (rngD i (j - i).toNat) S2 else .bad | _, _ => .bad
theorem itF_rng {K : PySem.W.Frag} {B : List Addr} {H : Hp} {lo : Int} {n : Nat} (hz : n ≤ sizeLine) : ItF K B H (Itr lo n) (rngD lo n) := by
  have el : (rngD lo n).length = n := by unfold rngD; rw [List.length_map, List.length_range]
  refine ⟨by rw [el]; exact hz, fun B' H' e kn => ⟨fun i d hd => ?_, fun i hi => by rw [el] at hi; exact hi⟩⟩
  have hi : i < n := by rw [← el]; exact (List.getElem?_eq_some_iff.mp hd).1
  refine ⟨hi, fun x H2 ⟨e2, k⟩ => ?_⟩
  subst e2 k
  unfold rngD at hd
  rw [List.getElem?_map, List.getElem?_range hi] at hd
  cases hd
  exact ⟨Ex.refl _, .int _⟩
theorem if_rng1 (hg : Gl c.X "range") (hm : c.X.mg "range" = none) (ha : EV c m a da) (hs : Pl a := by intro _ _; rfl) : IFo c m tg (.Call (.Name "range" p) [a] [] pos) (dRng1 da) := by
  intro σ H ρ S B0 B ow Q fr gi g
  refine WI.of (pi_range1 hg hm (pa_cons we pa_nil (hs _ _)) (hs _ _)) (ha σ H ρ S B0 B ow _ fr gi (g.bind fun d S1 v H1 _ ev1 gi1 gd1 g1 => ?_))
  cases gd1 with
  | int j =>
    simp only at g1
    split at g1
    · rename_i hc
      rw [Bool.and_eq_true] at hc
      have h1 := of_decide_eq_true hc.1
      exact ⟨j, rfl, h1.1, h1.2, g1.ok0 gi1 (itF_rng (sz_le hc.2))⟩
    · exact absurd rfl g1.not_bad
  | _ => exact absurd rfl g1.not_bad
theorem if_rng2 (hg : Gl c.X "range") (hm : c.X.mg "range" = none) (ha : EV c m a da) (hb : EV c m b db) (hs : Pl a := by intro _ _; rfl) (hs2 : Pl b := by intro _ _; rfl) : IFo c m tg (.Call (.Name "range" p) [a, b] [] pos) (dRng2 da db) := by
  intro σ H ρ S B0 B ow Q fr gi g
  refine WI.of (pi_range2 hg hm (pa_cons we (pa_cons we pa_nil (hs2 _ _)) (hs _ _)) (by rw [hs _ _, hs2 _ _]; rfl) (by rw [hs2 _ _]; rfl)) (ha σ H ρ S B0 B ow _ fr gi (g.bind fun d S1 v H1 _ ev1 gi1 gd1 g1 => ?_))
  refine hb σ H1 ρ S1 B0 B ow _ (fr.evo ev1) gi1 (g1.bind fun d2 S2 v2 H2 _ ev2 gi2 gd2 g2 => ?_)
  cases gd1 with
  | int i =>
    cases gd2 with
    | int j =>
      simp only at g2
      split at g2
      · rename_i hc
        rw [Bool.and_eq_true, Bool.and_eq_true] at hc
        have h1 := of_decide_eq_true hc.1.1
        have h2 := of_decide_eq_true hc.1.2
        exact ⟨i, j, rfl, ⟨h1.1, h1.2, h2.1, h2.2⟩, g2.ok0 gi2 (itF_rng (sz_le hc.2))⟩
      · exact absurd rfl g2.not_bad
    | _ => exact absurd rfl g2.not_bad
  | _ => exact absurd rfl g2.not_bad
end
end PD
/-! PDh: zip, enumerate, texts walked; list comprehensions. -/
namespace PD
open PySem PySem.Spec PyProof.Rows L2
section
variable {c : Cc} {m : List Md} {a b : Expr} {da db : DE} {tg : Expr} {p pos tpos : Pos} {elts : List Expr} {kk : Nat}
def zipD : List PyData → List PyData → List PyData
  | x :: xs, y :: ys => .tuple [x, y] :: zipD xs ys
  | _, _ => []
theorem zipD_len : ∀ xs ys : List PyData, (zipD xs ys).length = min xs.length ys.length
  | [], ys => by simp [zipD]
  | x :: xs, [] => by simp [zipD]
  | x :: xs, y :: ys => by simp [zipD, zipD_len xs ys]
theorem zipD_get : ∀ (xs ys : List PyData) (i : Nat) (d : PyData), (zipD xs ys)[i]? = some d → ∃ x y, xs[i]? = some x ∧ ys[i]? = some y ∧ d = .tuple [x, y]
  | [], ys, i, d, h => by simp [zipD] at h
  | x :: xs, [], i, d, h => by simp [zipD] at h
  | x :: xs, y :: ys, 0, d, h => by simp [zipD] at h; exact ⟨x, y, rfl, rfl, h.symm⟩
  | x :: xs, y :: ys, i + 1, d, h => by
    simp only [zipD, List.getElem?_cons_succ] at h
    obtain ⟨u, w, h1, h2, h3⟩ := zipD_get xs ys i d h
    exact ⟨u, w, by simpa using h1, by simpa using h2, h3⟩
def fZip : PyData → PyData → Option (List PyData)
  | .list xs, .list ys => some (zipD xs ys)
  | .tuple xs, .tuple ys => some (zipD xs ys)
  | _, _ => none
def dIt2 (F : PyData → PyData → Option (List PyData)) (a b : DE) : DI := fun ρ S => (a ρ S).bind fun x S1 => (b ρ S1).bind fun y S2 => ofO (F x y) S2
theorem pair_is {K : PySem.W.Frag} {B : List Addr} {H : Hp} {T : Addr} {v w : V} {x y : PyData} (kn : ∀ a ∈ B, H a ≠ none) (hT : H T = none) (h1 : Is K (Fz B H) v x) (h2 : Is K (Fz B H) w y) : Is K (Fz B (upd H T (.tup [v, w]))) (.ref T) (.tuple [x, y]) :=
  is_newT kn hT (by show 2 ≤ sizeLine; decide) (.cons h1 (.cons h2 .nil))
theorem if_zip (hg : Gl c.X "zip") (hm : c.X.mg "zip" = none) (ha : EV c m a da) (hb : EV c m b db) (hs : Pl a := by intro _ _; rfl) (hs2 : Pl b := by intro _ _; rfl) : IFo c m (.Tuple elts kk tpos) (.Call (.Name "zip" p) [a, b] [] pos) (dIt2 fZip da db) := by
  intro σ H ρ S B0 B ow Q fr gi g
  refine WI.of (RZ.pi_zipA hg hm (pa_cons we (pa_cons we pa_nil (hs2 _ _)) (hs _ _)) (hs _ _) (by rw [hs2 _ _]; rfl)) (ha σ H ρ S B0 B ow _ fr gi (g.bind fun d S1 v H1 _ ev1 gi1 gd1 g1 => ?_))
  refine hb σ H1 ρ S1 B0 B ow _ (fr.evo ev1) gi1 (g1.bind fun d2 S2 v2 H2 _ ev2 gi2 gd2 g2 => ?_)
  have gd1 := gd1.mono (ev2.fz gi2.sub)
  unfold fZip at g2
  split at g2
  · cases gd1 with
    | lst h1 z1 r1 =>
      rename_i a1 vs
      cases gd2 with
      | lst h2 z2 r2 =>
        rename_i a2 ws
        refine ⟨a1, a2, vs, ws, rfl, .inl ⟨.inl (.inl (fz_le _ _ h1)), .inl (.inl (fz_le _ _ h2)), g2.ok0 gi2 ⟨by rw [zipD_len, ← r1.length]; omega, fun B' H' e kn => ⟨fun i d hd => ?_, fun i hi => ?_⟩⟩⟩⟩
        · obtain ⟨x, y, e1, e2, rfl⟩ := zipD_get _ _ _ _ hd
          obtain ⟨v, hv, iv⟩ := r1.get e1
          obtain ⟨w, hw, iw⟩ := r2.get e2
          have s1 : SqL c.X.K H' a1 vs := .inl (.inl (fz_le _ _ (e _ _ h1)))
          have s2 : SqL c.X.K H' a2 ws := .inl (.inl (fz_le _ _ (e _ _ h2)))
          refine ⟨⟨vs, ws, v, w, s1, s2, hv, hw⟩, fun q H3 ⟨T, x', y', e3, hT, e4, k1, k2⟩ => ?_⟩
          subst e3 e4
          have q1 := k1 vs s1
          have q2 := k2 ws s2
          rw [hv] at q1
          rw [hw] at q2
          cases q1
          cases q2
          exact ⟨Ex.new hT, pair_is kn hT (iv.mono e) (iw.mono e)⟩
        · rw [zipD_len, ← r1.length, ← r2.length] at hi
          exact ⟨vs, ws, .inl (.inl (fz_le _ _ (e _ _ h1))), .inl (.inl (fz_le _ _ (e _ _ h2))), by omega⟩
  · cases gd1 with
    | tup h1 z1 r1 =>
      rename_i a1 vs
      cases gd2 with
      | tup h2 z2 r2 =>
        rename_i a2 ws
        refine ⟨a1, a2, vs, ws, rfl, .inr ⟨fz_le.t h1, fz_le.t h2, g2.ok0 gi2 ⟨by rw [zipD_len, ← r1.length]; omega, fun B' H' e kn => ⟨fun i d hd => ?_, fun i hi => ?_⟩⟩⟩⟩
        · obtain ⟨x, y, e1, e2, rfl⟩ := zipD_get _ _ _ _ hd
          obtain ⟨v, hv, iv⟩ := r1.get e1
          obtain ⟨w, hw, iw⟩ := r2.get e2
          have s1 : SqT c.X.K H' a1 vs := fz_le.t (e.t h1)
          have s2 : SqT c.X.K H' a2 ws := fz_le.t (e.t h2)
          refine ⟨⟨vs, ws, v, w, s1, s2, hv, hw⟩, fun q H3 ⟨T, x', y', e3, hT, e4, k1, k2⟩ => ?_⟩
          subst e3 e4
          have q1 := k1 vs s1
          have q2 := k2 ws s2
          rw [hv] at q1
          rw [hw] at q2
          cases q1
          cases q2
          exact ⟨Ex.new hT, pair_is kn hT (iv.mono e) (iw.mono e)⟩
        · rw [zipD_len, ← r1.length, ← r2.length] at hi
          exact ⟨vs, ws, fz_le.t (e.t h1), fz_le.t (e.t h2), by omega⟩
  · exact absurd rfl g2.not_bad
/-! enumerate of a list -/
def enumD (k : Int) : List PyData → List PyData
  | [] => []
  | x :: xs => .tuple [.int k, x] :: enumD (k + 1) xs
theorem enumD_len : ∀ (k : Int) (xs : List PyData), (enumD k xs).length = xs.length
  | _, [] => rfl
  | k, x :: xs => by simp [enumD, enumD_len (k + 1) xs]
theorem enumD_get : ∀ (k : Int) (xs : List PyData) (i : Nat) (d : PyData), (enumD k xs)[i]? = some d → ∃ x, xs[i]? = some x ∧ d = .tuple [.int (k + i), x]
  | k, [], i, d, h => by simp [enumD] at h
  | k, x :: xs, 0, d, h => by simp [enumD] at h; exact ⟨x, rfl, by rw [← h]; simp⟩
  | k, x :: xs, i + 1, d, h => by
    simp only [enumD, List.getElem?_cons_succ] at h
    obtain ⟨y, h1, h2⟩ := enumD_get (k + 1) xs i d h
    exact ⟨y, by simpa using h1, by rw [h2]; congr 3; push_cast; omega⟩
def fEnumL : PyData → Option (List PyData) | .list xs => some (enumD 0 xs) | _ => none
theorem if_enumL (hg : Gl c.X "enumerate") (hm : c.X.mg "enumerate" = none) (ha : EV c m a da) (hs : Pl a := by intro _ _; rfl) : IFo c m (.Tuple elts kk tpos) (.Call (.Name "enumerate" p) [a] [] pos) (dIt fEnumL da) := by
  intro σ H ρ S B0 B ow Q fr gi g
  refine WI.of (pi_enum hg hm (pa_cons we pa_nil (hs _ _)) (hs _ _)) (ha σ H ρ S B0 B ow _ fr gi (g.bind fun d S1 v H1 _ ev1 gi1 gd1 g1 => ?_))
  unfold fEnumL at g1
  split at g1
  · cases gd1 with
    | lst h1 z1 r1 =>
      rename_i a1 vs
      refine ⟨a1, vs, rfl, .inl (.inl (fz_le _ _ h1)), g1.ok0 gi1 ⟨by rw [enumD_len, ← r1.length]; exact z1, fun B' H' e kn => ⟨fun i d hd => ?_, fun i hi => ?_⟩⟩⟩
      · obtain ⟨x, e1, rfl⟩ := enumD_get _ _ _ _ hd
        obtain ⟨v, hv, iv⟩ := r1.get e1
        have s1 : SqL c.X.K H' a1 vs := .inl (.inl (fz_le _ _ (e _ _ h1)))
        refine ⟨⟨vs, v, s1, hv⟩, fun q H3 ⟨T, x', e3, hT, e4, k1⟩ => ?_⟩
        subst e3 e4
        have q1 := k1 vs s1
        rw [hv] at q1
        cases q1
        rw [Int.zero_add]
        exact ⟨Ex.new hT, pair_is kn hT (.int _) (iv.mono e)⟩
      · rw [enumD_len, ← r1.length] at hi
        exact ⟨vs, .inl (.inl (fz_le _ _ (e _ _ h1))), hi⟩
  · exact absurd rfl g1.not_bad
theorem if_str (ha : EV c m a da) : IFo c m tg a (dIt strD da) := by
  intro σ H ρ S B0 B ow Q fr gi g
  refine WI.of (pi_str we) (ha σ H ρ S B0 B ow _ fr gi (g.bind fun d S1 v H1 _ ev1 gi1 gd1 g1 => ?_))
  unfold strD at g1
  split at g1
  · rename_i z _
    split at g1
    · rename_i hz
      cases gd1
      have el : (signsD z).length = z.cps.size := by unfold signsD; rw [List.length_map, Array.length_toList]
      refine ⟨z, rfl, g1.ok0 gi1 ⟨by rw [el]; exact sz_le hz, fun B' H' e kn => ⟨fun i d hd => ?_, fun i hi => by rw [el] at hi; exact hi⟩⟩⟩
      have hi : i < z.cps.size := by rw [← el]; exact (List.getElem?_eq_some_iff.mp hd).1
      refine ⟨hi, fun x H2 ⟨e2, cc, h1, h2⟩ => ?_⟩
      subst e2 h2
      unfold signsD at hd
      rw [List.getElem?_map, Array.getElem?_toList, h1] at hd
      cases hd
      exact ⟨Ex.refl _, .str _⟩
    · exact absurd rfl g1.not_bad
  · exact absurd rfl g1.not_bad
end
/-! ### targets -/
inductive Tg where
  | nm (i : Nat)
  | tup (is : List Nat)
def setAll (ρ : Env) : List Nat → List PyData → Option Env
  | [], [] => some ρ
  | i :: is, d :: ds => setAll (ρ.set i (some d)) is ds
  | _, _ => none
def Tg.bind (t : Tg) (d : PyData) (ρ : Env) : Option Env := match t with
  | .nm i => some (ρ.set i (some d))
  | .tup is => match d with
    | .tuple ds => setAll ρ is ds
    | _ => none
def Tg.slots : Tg → List Nat | .nm i => [i] | .tup is => is
def setMd (m : List Md) (is : List Nat) (k : Md) : List Md := is.foldl (fun m i => m.set i k) m
/-- what a target does -/
def TgOk (X : Cx) (t : Tg) (tg : Expr) : Prop := match t with
  | .nm i => PG X tg (gName i)
  | .tup is => PG X tg (gTup X.K is.length (is.foldr (fun i u => gCons (gName i) u) gNil))
section
variable {K : PySem.W.Frag} {g : Gx} {B0 B : List Addr} {ow : Addr → Nat} {m : List Md} {ρ : Env} {σ : L2.St} {H : Hp}
theorem getD_set {α : Type} {l : List (Option α)} {i j : Nat} {x : Option α} (hi : i < l.length) : (l.set i x).getD j none = if i = j then x else l.getD j none := by
  rw [List.getD_eq_getElem?_getD, List.getD_eq_getElem?_getD]
  by_cases h : i = j
  · subst h
    rw [if_pos rfl, List.getElem?_set_self hi]
    rfl
  · rw [if_neg h, List.getElem?_set_ne h]
/-- a slot takes a frozen value -/
theorem Frame.put (f : Frame K g B0 B ow m ρ σ H) {i : Nat} {v : V} {d : PyData} (hi : i < m.length) (h : Is K (Fz B H) v d) : Frame K g B0 B ow (m.set i .fz) (ρ.set i (some d)) (σ.set i (some v)) H := by
  have hρ : i < ρ.length := by rw [← f.lm]; exact hi
  have hσ : i < σ.length := by rw [f.ls]; exact hρ
  refine ⟨by simp [f.lm], by simp [f.ls], f.sub, f.gsub, fun j md hj => ?_⟩
  rw [getD_set hρ, getD_set hσ]
  by_cases e : i = j
  · subst e
    rw [List.getElem?_set_self hi] at hj
    cases hj
    rw [if_pos rfl, if_pos rfl]
    exact fun d' e => ⟨v, rfl, by cases e; exact h⟩
  · rw [List.getElem?_set_ne e] at hj
    rw [if_neg e, if_neg e]
    exact f.slot j md hj
/-- a slot is forgotten -/
theorem Frame.drop (f : Frame K g B0 B ow m ρ σ H) {i : Nat} {x : Option V} {y : Option PyData} (hi : i < m.length) : Frame K g B0 B ow (m.set i .un) (ρ.set i y) (σ.set i x) H := by
  have hρ : i < ρ.length := by rw [← f.lm]; exact hi
  have hσ : i < σ.length := by rw [f.ls]; exact hρ
  refine ⟨by simp [f.lm], by simp [f.ls], f.sub, f.gsub, fun j md hj => ?_⟩
  rw [getD_set hρ, getD_set hσ]
  by_cases e : i = j
  · subst e
    rw [List.getElem?_set_self hi] at hj
    cases hj
    trivial
  · rw [List.getElem?_set_ne e] at hj
    rw [if_neg e, if_neg e]
    exact f.slot j md hj
theorem Frame.unk (f : Frame K g B0 B ow m ρ σ H) {i : Nat} {x : Option V} (hi : i < m.length) : Frame K g B0 B ow (m.set i .un) ρ (σ.set i x) H := by
  have hρ : i < ρ.length := by rw [← f.lm]; exact hi
  have hσ : i < σ.length := by rw [f.ls]; exact hρ
  refine ⟨by simp [f.lm], by simp [f.ls], f.sub, f.gsub, fun j md hj => ?_⟩
  rw [getD_set hσ]
  by_cases e : i = j
  · subst e
    rw [List.getElem?_set_self hi] at hj
    cases hj
    trivial
  · rw [List.getElem?_set_ne e] at hj
    rw [if_neg e]
    exact f.slot j md hj
theorem Frame.wipe (f : Frame K g B0 B ow m ρ σ H) : ∀ (vs : List Nat), (∀ i ∈ vs, i < m.length) → Frame K g B0 B ow (vs.foldr (fun i m => m.set i .un) m) ρ (L2.wipe σ vs) H
  | [], _ => f
  | v :: vs, h => by
    have ih := Frame.wipe f vs fun i hi => h i (List.mem_cons_of_mem _ hi)
    refine ih.unk ?_
    rw [ih.lm, ← f.lm]
    exact h v (List.mem_cons_self ..)
theorem setMd_len : ∀ (is : List Nat) (m : List Md) (k : Md), (setMd m is k).length = m.length
  | [], m, k => rfl
  | i :: is, m, k => by
    show (setMd (m.set i k) is k).length = _
    rw [setMd_len is, List.length_set]
theorem put_all : ∀ (is : List Nat) {m : List Md} {ρ : Env} {σ : L2.St} {vs : List V} {ds : List PyData} {ρ' : Env} {Q : L2.St → Hp → Prop}, Frame K g B0 B ow m ρ σ H → (∀ i ∈ is, i < m.length) → IsAll K (Fz B H) vs ds → setAll ρ is ds = some ρ' →
    (∀ σ', Frame K g B0 B ow (setMd m is .fz) ρ' σ' H → (∃ ws : List V, ws.length = is.length ∧ σ' = (is.zip ws).foldl (fun s p => s.set p.1 (some p.2)) σ) → Q σ' H) → (is.foldr (fun i u => gCons (gName i) u) gNil) vs σ H Q
  | [], m, ρ, σ, vs, ds, ρ', Q, f, _, h, e, k => by
    cases ds with
    | nil =>
      cases h
      cases e
      exact ⟨rfl, k σ f ⟨[], rfl, rfl⟩⟩
    | cons d ds => cases e
  | i :: is, m, ρ, σ, vs, ds, ρ', Q, f, hi, h, e, k => by
    cases ds with
    | nil => cases e
    | cons d ds =>
      cases h with
      | cons h1 h2 =>
        rename_i v vs
        refine ⟨v, vs, rfl, ?_⟩
        refine put_all is (f.put (hi i (List.mem_cons_self ..)) h1) (fun j hj => by rw [List.length_set]; exact hi j (List.mem_cons_of_mem _ hj)) h2 e fun σ' f' ⟨ws, hw, e'⟩ => k σ' f' ⟨v :: ws, by simp [hw], by rw [e']; rfl⟩
end
theorem Tg.put {X : Cx} {t : Tg} {tg : Expr} {K : PySem.W.Frag} {g : Gx} {B0 B : List Addr} {ow : Addr → Nat} {m : List Md} {ρ ρ' : Env} {σ : L2.St} {H : Hp} {v : V} {d : PyData} {Q : L2.St → Hp → Prop} (hK : X.K = K) (f : Frame K g B0 B ow m ρ σ H) (hi : ∀ i ∈ t.slots, i < m.length) (h : Is K (Fz B H) v d) (e : t.bind d ρ = some ρ')
    (k : ∀ σ', Frame K g B0 B ow (setMd m t.slots .fz) ρ' σ' H → (∃ ws : List V, ws.length = t.slots.length ∧ σ' = (t.slots.zip ws).foldl (fun s p => s.set p.1 (some p.2)) σ) → Q σ' H) :
    (match t with | .nm i => gName i | .tup is => gTup X.K is.length (is.foldr (fun i u => gCons (gName i) u) gNil)) v σ H Q := by
  subst hK
  cases t with
  | nm i =>
    cases e
    exact k _ (f.put (hi i (List.mem_cons_self ..)) h) ⟨[v], rfl, rfl⟩
  | tup is =>
    cases d with
    | tuple ds =>
      cases h with
      | tup h1 z r =>
        rename_i a vs
        have hl : ds.length = is.length := by
          clear k hi f r h1 z
          unfold Tg.bind at e
          simp only at e
          induction is generalizing ρ ds with
          | nil => cases ds with
            | nil => rfl
            | cons _ _ => cases e
          | cons i is ih => cases ds with
            | nil => cases e
            | cons d ds => simp [ih (ρ := ρ.set i (some d)) (ds := ds) e]
        exact ⟨a, vs, rfl, fz_le.t h1, by rw [r.length, hl], put_all is f hi r e k⟩
    | _ => cases e
end PD
/-! PDi: list comprehensions. -/
namespace PD
open PySem PySem.Spec PyProof.Rows L2
theorem wipe_in {σ : L2.St} {i : Nat} : ∀ {vs : List Nat}, i ∈ vs → (L2.wipe σ vs)[i]? = if i < σ.length then some none else none
  | [], h => by simp at h
  | v :: vs, h => by
    unfold L2.wipe
    by_cases e : v = i
    · subst e
      by_cases hv : v < σ.length
      · rw [if_pos hv, List.getElem?_set_self (by rw [wipe_length]; exact hv)]
      · rw [if_neg hv, List.getElem?_eq_none (by rw [List.length_set, wipe_length]; omega)]
    · rw [List.getElem?_set_ne e]
      exact wipe_in ((List.mem_cons.mp h).resolve_left (Ne.symm e))
theorem wipe_eq {σ τ : L2.St} {vs : List Nat} (hl : τ.length = σ.length) (h : ∀ i, i ∉ vs → τ[i]? = σ[i]?) : L2.wipe τ vs = L2.wipe σ vs := by
  apply List.ext_getElem?
  intro i
  by_cases hi : i ∈ vs
  · rw [wipe_in hi, wipe_in hi, hl]
  · rw [L2.wipe_out hi, L2.wipe_out hi, h i hi]
theorem fold_set_out : ∀ (ps : List (Nat × V)) (σ : L2.St) {i : Nat}, (∀ p ∈ ps, p.1 ≠ i) → (ps.foldl (fun s p => s.set p.1 (some p.2)) σ)[i]? = σ[i]?
  | [], σ, i, _ => rfl
  | p :: ps, σ, i, h => by
    show (ps.foldl _ (σ.set p.1 (some p.2)))[i]? = _
    rw [fold_set_out ps _ fun q hq => h q (List.mem_cons_of_mem _ hq), List.getElem?_set_ne (h p (List.mem_cons_self ..))]
theorem fold_set_len : ∀ (ps : List (Nat × V)) (σ : L2.St), (ps.foldl (fun s p => s.set p.1 (some p.2)) σ).length = σ.length
  | [], σ => rfl
  | p :: ps, σ => by
    show (ps.foldl _ (σ.set p.1 (some p.2))).length = _
    rw [fold_set_len ps, List.length_set]
theorem wipe_put {σ : L2.St} {vs is : List Nat} {ws : List V} (h : ∀ i ∈ is, i ∈ vs) : L2.wipe ((is.zip ws).foldl (fun s p => s.set p.1 (some p.2)) (L2.wipe σ vs)) vs = L2.wipe σ vs := by
  refine (wipe_eq (σ := L2.wipe σ vs) (by rw [fold_set_len]) fun i hi => fold_set_out _ _ fun p hp e => hi (by rw [← e]; exact h _ (List.of_mem_zip hp).1)).trans ?_
  exact wipe_eq (wipe_length _ _) fun i hi => L2.wipe_out hi
def compL (t : Tg) (tt : DT) (de : DE) (ρ : Env) : List PyData → List PyData → Store → R PyData
  | acc, [], S => .ok (.list acc) S
  | acc, d :: ds, S => match t.bind d ρ with
    | none => .bad
    | some ρ1 => (tt ρ1 S).calm.bind fun b S1 => if b = true then (de ρ1 S1).calm.bind fun x S2 => compL t tt de ρ (acc ++ [x]) ds S2 else compL t tt de ρ acc ds S1
theorem compL_nil (t : Tg) (tt : DT) (de : DE) (ρ : Env) (acc : List PyData) (S : Store) : compL t tt de ρ acc [] S = .ok (.list acc) S := rfl
theorem compL_cons (t : Tg) (tt : DT) (de : DE) (ρ : Env) (acc : List PyData) (d : PyData) (ds : List PyData) (S : Store) : compL t tt de ρ acc (d :: ds) S = match t.bind d ρ with
    | none => .bad
    | some ρ1 => (tt ρ1 S).calm.bind fun b S1 => if b = true then (de ρ1 S1).calm.bind fun x S2 => compL t tt de ρ (acc ++ [x]) ds S2 else compL t tt de ρ acc ds S1 := rfl
def dComp (di : DI) (t : Tg) (tt : DT) (de : DE) : DE := fun ρ S => (di ρ S).bind fun ds S1 => compL t tt de ρ [] ds S1
def dYes : DT := fun _ S => .ok true S
def blkM (m : List Md) (vs : List Nat) : List Md := vs.foldr (fun i m => m.set i .un) m
theorem blkM_len : ∀ (m : List Md) (vs : List Nat), (blkM m vs).length = m.length
  | m, [] => rfl
  | m, v :: vs => by
    show ((blkM m vs).set v .un).length = _
    rw [List.length_set, blkM_len]
/-- the contexts of a block -/
abbrev Cc.in (c : Cc) (scope : Scope) (s : Shared) (H : Hp) (C : Addr) (cl : List (Str × Addr)) (fp : List Addr) : Cc := ⟨c.g, c.X.blk s H scope (compEnvC scope cl C c.X.env) fp, fun _ _ _ _ => False⟩
/-- a list under construction stands at D -/
theorem Frame.under {K : PySem.W.Frag} {g : Gx} {B0 B : List Addr} {ow : Addr → Nat} {m : List Md} {ρ : Env} {σ : L2.St} {H H' : Hp} {D : Addr} (f : Frame K g B0 B ow m ρ σ H) (e : Ex (Fz B H) (Fz (D :: B) H')) (ev : Evo g.G H H') : Frame K g B0 (D :: B) ow m ρ σ H' :=
  ⟨f.lm, f.ls, fun a h => List.mem_cons_of_mem _ (f.sub a h), f.gsub, fun i md h => (f.slot i md h).step e (fun a h => List.mem_cons_of_mem _ h.1) fun a o h q => ev a o (fun z => h.2.1 (f.gsub a z)) q⟩
theorem GI.under {K : PySem.W.Frag} {g : Gx} {B : List Addr} {H : Hp} {S : Store} {D : Addr} {o : HO} (i : GI K g B H S) (hD : H D = none) : GI K g (D :: B) (upd H D o) S := by
  have e : Ex (Fz B H) (Fz (D :: B) (upd H D o)) := fun a u q => by
    have q := fz_some.mp q
    have ne : a ≠ D := ne_of_none q.2 hD
    exact fz_some.mpr ⟨fun z => (List.mem_cons.mp z).elim ne q.1, (Ex.new hD) a u q.2⟩
  refine ⟨Paired.imp i.st fun p xs ⟨vs, a, z, b⟩ => ⟨vs, (Ex.new hD) _ _ a, z, b.mono e⟩, i.tabs.ext (Ex.new hD), fun a ha => List.mem_cons_of_mem _ (i.sub a ha), fun a ha => ?_, i.nd, fun l hl => ⟨(Ex.new hD) _ _ (i.cd l hl).1, (i.cd l hl).2.trans e⟩⟩
  rcases List.mem_cons.mp ha with rfl | ha
  · rw [upd_same]; intro z; cases z
  · intro z
    exact i.kn a ha ((Ex.new hD).free z)
theorem fz_upd {B : List Addr} {H : Hp} {D : Addr} {o : HO} (h : D ∈ B) : Fz B (upd H D o) = Fz B H := by
  funext a
  unfold Fz
  by_cases e : a = D
  · subst e; rw [if_pos h, if_pos h]
  · rw [upd_ne e]
/-- the list under construction grows -/
theorem GI.grow {K : PySem.W.Frag} {g : Gx} {B : List Addr} {H : Hp} {S : Store} {D : Addr} {o : HO} (i : GI K g B H S) (hD : D ∈ B) (hG : D ∉ g.G) (hl : ∀ q, H D ≠ some (LamX.CodeO D q)) : GI K g B (upd H D o) S := by
  have hs : ∀ p, p ∈ g.G → p ≠ D := fun p hp e => hG (e ▸ hp)
  refine ⟨?_, ?_, i.sub, fun a ha => ?_, i.nd, fun l hl' => ⟨?_, by rw [fz_upd hD]; exact (i.cd l hl').2⟩⟩
  rotate_left 3
  · by_cases e : l.cc = D
    · exact absurd (e ▸ (i.cd l hl').1) (hl _)
    · rw [upd_ne e]; exact (i.cd l hl').1
  · have aux : ∀ {l₁ : List Addr} {l₂ : Store}, (∀ p ∈ l₁, p ∈ g.G) → Paired (fun (p : Addr) (xs : List PyData) => ∃ vs, H p = some (.lst vs) ∧ vs.length ≤ sizeLine ∧ IsAll K (Fz B H) vs xs) l₁ l₂ →
        Paired (fun (p : Addr) (xs : List PyData) => ∃ vs, upd H D o p = some (.lst vs) ∧ vs.length ≤ sizeLine ∧ IsAll K (Fz B (upd H D o)) vs xs) l₁ l₂ := by
      intro l₁ l₂ hm h
      induction h with
      | nil => exact .nil
      | cons r t ih =>
        obtain ⟨vs, a, z, b⟩ := r
        refine .cons ⟨vs, by rw [upd_ne (hs _ (hm _ (List.mem_cons_self ..)))]; exact a, z, by rw [fz_upd hD]; exact b⟩ (ih fun p hp => hm p (List.mem_cons_of_mem _ hp))
    exact aux (fun p hp => List.mem_append_left _ hp) i.st
  · intro p hp
    have hpG : p.1 ∈ g.G := List.mem_append_right _ (List.mem_map.mpr ⟨p, hp, rfl⟩)
    obtain ⟨ps, h1, h2, h3⟩ := i.tabs p hp
    refine ⟨ps, by rw [upd_ne (hs _ hpG)]; exact h1, h2, fun pos cv hc => ?_⟩
    obtain ⟨cc, e1, e2⟩ := h3 pos cv hc
    refine ⟨cc, e1, ?_⟩
    by_cases ec : cc = D
    · rw [ec] at e2
      exact absurd e2 (hl _)
    · rw [upd_ne ec]; exact e2
  · by_cases e : a = D
    · subst e; rw [upd_same]; intro z; cases z
    · rw [upd_ne e]; exact i.kn a ha
theorem lst_code {H : Hp} {D : Addr} {vs : List V} (h : H D = some (.lst vs)) (q : Str) : H D ≠ some (LamX.CodeO D q) := fun z => by
  rw [h] at z
  unfold LamX.CodeO at z
  cases z
section
variable {c : Cc} {m : List Md} {elt tg iter : Expr} {ifs : List Expr} {scope : Scope} {own : List (Str × Nat)} {pos : Pos} {di : DI} {t : Tg} {tt : DT} {de : DE}
/-- the target's reading -/
def gT (K : PySem.W.Frag) (t : Tg) : TG := match t with | .nm i => gName i | .tup is => gTup K is.length (is.foldr (fun i u => gCons (gName i) u) gNil)
theorem comp_read (hi : ICo c m tg iter di) (hsub : ∀ i ∈ t.slots, i ∈ own.map (·.2)) (hlen : ∀ i ∈ own.map (·.2), i < m.length)
    {ttw : TT} {tew : TE}
    (ht : ∀ {σ H ρ S B0 B ow Q}, Frame c.X.K c.g B0 B ow (setMd (blkM m (own.map (·.2))) t.slots .fz) ρ σ H → GI c.X.K c.g B H S → (∀ d S' v H', tt ρ S = .ok d S' → Evo c.g.G H H' → GI c.X.K c.g B H' S' → v = d → Q v H') → tt ρ S ≠ .bad → (∀ x S', tt ρ S ≠ .exc x S') → ttw σ H Q)
    (he : ∀ {σ H ρ S B0 B ow Q}, Frame c.X.K c.g B0 B ow (setMd (blkM m (own.map (·.2))) t.slots .fz) ρ σ H → GI c.X.K c.g B H S → (∀ d S' v H', de ρ S = .ok d S' → Evo c.g.G H H' → GI c.X.K c.g B H' S' → Is c.X.K (Fz B H') v d → Q v H') → de ρ S ≠ .bad → (∀ x S', de ρ S ≠ .exc x S') → tew σ H Q)
    {σ : L2.St} {H : Hp} {ρ : Env} {S : Store} {B0 B : List Addr} {ow : Addr → Nat} {Q : VK} (fr : Frame c.X.K c.g B0 B ow m ρ σ H) (gi : GI c.X.K c.g B H S)
    (g : Goal c B H σ (dComp di t tt de ρ S) (fun S' H' v d => ∃ p, v = .ref p ∧ H p = none ∧ Top c.X.K (p :: B) H' p d ∧ GI c.X.K c.g (p :: B) H' S') Q) : tLc (WI c.X tg iter) (gT c.X.K t) ttw tew (own.map (·.2)) σ H Q := by
  refine hi σ H ρ S B0 B ow _ fr gi (g.bind (G1 := fun _ H' J ds => ItC c.X.K c.g.G B H' J ds) fun ds S1 J H1 _ ev1 gi1 it g1 => ?_)
  intro D hD
  have nG : D ∉ c.g.G := fun z => gi1.kn D (gi1.sub D z) hD
  have nB : D ∉ B := new_notin gi1.kn hD
  -- what holds between two turns
  refine ⟨fun i k H2 => k = ds.length - i ∧ i ≤ ds.length ∧ ∃ (acc : List PyData) (vs : List V) (S2 : Store), Evo c.g.G H1 H2 ∧ Ex (Fz B H1) (Fz (D :: B) H2) ∧ GI c.X.K c.g (D :: B) H2 S2 ∧ H2 D = some (.lst vs) ∧ vs.length ≤ i ∧ IsAll c.X.K (Fz (D :: B) H2) vs acc ∧
    compL t tt de ρ [] ds S1 = compL t tt de ρ acc (ds.drop i) S2, ⟨ds.length, by simp, Nat.zero_le _, [], [], S1, (Ex.new hD).evo, ?_, gi1.under hD, upd_same, Nat.le_refl _, .nil, rfl⟩, ?_⟩
  · exact fun a u q => by
      have q := fz_some.mp q
      have ne : a ≠ D := ne_of_none q.2 hD
      exact fz_some.mpr ⟨fun z => (List.mem_cons.mp z).elim ne q.1, (Ex.new hD) a u q.2⟩
  · rintro i k H2 ⟨rfl, hi2, acc, vs, S2, ev2, ex2, gi2, hl, hvl, ia, eq⟩
    obtain ⟨go, stop⟩ := it.2 (D :: B) H2 ev2 ex2 gi2.kn
    by_cases hlt : i < ds.length
    · refine .inr ⟨(go i ds[i] (List.getElem?_eq_getElem hlt)).1, fun H3 => ∃ (acc : List PyData) (vs : List V) (S3 : Store), Evo c.g.G H1 H3 ∧ Ex (Fz B H1) (Fz (D :: B) H3) ∧ GI c.X.K c.g (D :: B) H3 S3 ∧ H3 D = some (.lst vs) ∧ vs.length ≤ i + 1 ∧ IsAll c.X.K (Fz (D :: B) H3) vs acc ∧
        compL t tt de ρ [] ds S1 = compL t tt de ρ acc (ds.drop (i + 1)) S3, fun H3 h3 => ⟨ds.length - (i + 1), by omega, rfl, hlt, h3⟩, fun x H3 hy => ?_⟩
      obtain ⟨ex3, ix⟩ := (go i ds[i] (List.getElem?_eq_getElem hlt)).2 x H3 hy
      rw [List.drop_eq_getElem_cons hlt, compL_cons] at eq
      have gi3 := gi2.ex ex3
      have ev3 : Evo c.g.G H1 H3 := ev2.trans ex3.evo
      have exB3 : Ex (Fz B H1) (Fz (D :: B) H3) := ex2.trans ex3.fz
      cases eb : t.bind ds[i] ρ with
      | none =>
        rw [eb] at eq
        exact absurd (by rw [eq]) g1.not_bad
      | some ρ1 =>
        rw [eb] at eq
        simp only at eq
        have fr3 : Frame c.X.K c.g B0 (D :: B) ow (blkM m (own.map (·.2))) ρ (L2.wipe σ (own.map (·.2))) H3 := ((fr.evo ev1).under exB3 ev3).wipe _ hlen
        refine Tg.put (X := c.X) (t := t) (tg := tg) rfl fr3 (fun j hj => by rw [blkM_len]; exact hlen j (hsub j hj)) ix eb fun σ2 fr4 ⟨ws, hws, e2⟩ => ?_
        refine ⟨by rw [e2]; exact wipe_put hsub, ?_⟩
        refine ht fr4 gi3 (fun b S4 v H4 eb4 ev4 gi4 ev => ?_) (fun z => ?_) (fun x' S' z => ?_)
        · subst ev
          rw [eb4] at eq
          simp only [R.calm_ok, R.bind_ok] at eq
          cases v with
          | true =>
            rw [if_pos rfl] at eq
            rw [if_pos rfl]
            refine he (fr4.evo ev4) gi4 (fun d S5 y H5 ed ev5 gi5 iy => ?_) (fun z => ?_) (fun x' S' z => ?_)
            · rw [ed] at eq
              simp only [R.calm_ok, R.bind_ok] at eq
              have hD5 : H5 D = some (.lst vs) := ev5 D _ nG (ev4 D _ nG (ex3 D _ hl))
              have zz : vs.length < sizeLine := by have := it.1; omega
              have exB5 : Ex (Fz B H1) (Fz (D :: B) H5) := (exB3.trans (ev4.fz gi4.sub)).trans (ev5.fz gi5.sub)
              refine ⟨vs, hD5, zz, acc ++ [d], vs ++ [y], S5, fun a o n q => ?_, ?_, gi5.grow (List.mem_cons_self ..) nG (lst_code hD5), upd_same, by rw [List.length_append]; simp; omega, ?_, eq⟩
              · rw [upd_ne (ne_of_none q hD)]
                exact ev5 a o n (ev4 a o n (ev3 a o n q))
              · rw [fz_upd (List.mem_cons_self ..)]
                exact exB5
              · rw [fz_upd (List.mem_cons_self ..)]
                exact ((ia.mono ex3.fz).mono ((ev4.fz gi4.sub).trans (ev5.fz gi5.sub))).append (.cons iy .nil)
            · rw [z] at eq
              exact g1.not_bad eq
            · rw [z] at eq
              exact g1.not_bad eq
          | false =>
            rw [if_neg (by simp)] at eq
            rw [if_neg (by simp)]
            have hD4 : H4 D = some (.lst vs) := ev4 D _ nG (ex3 D _ hl)
            exact ⟨acc, vs, S4, ev3.trans ev4, exB3.trans (ev4.fz gi4.sub), gi4, hD4, by omega, (ia.mono ex3.fz).mono (ev4.fz gi4.sub), eq⟩
        · rw [z] at eq
          exact g1.not_bad eq
        · rw [z] at eq
          exact g1.not_bad eq
    · have e : i = ds.length := by omega
      subst e
      refine .inl ⟨stop _ (Nat.le_refl _), ?_⟩
      rw [List.drop_length, compL_nil] at eq
      rw [eq] at g1
      refine g1.ok ev2 (gi2.less (fun a ha => List.mem_cons_of_mem _ ha) gi1.sub) ⟨D, rfl, free_back ev1 gi1 hD, .inl ⟨acc, vs, rfl, hl, by have := it.1; omega, ia⟩, gi2⟩
/-- the block's contexts ask nothing of exceptions -/
theorem goal_in {α β : Type} {X' : Cx} {B : List Addr} {H : Hp} {σ : L2.St} {r : R α} {Good : Store → Hp → β → α → Prop} {Q : β → Hp → Prop} {g : Gx} (hK : X'.K = c.X.K) (h1 : ∀ d S' v H', r = .ok d S' → Evo g.G H H' → GI c.X.K g B H' S' → Good S' H' v d → Q v H') (h2 : r ≠ .bad) (h3 : ∀ x S', r ≠ .exc x S') : Goal ⟨g, X', fun _ _ _ _ => False⟩ B H σ r Good Q :=
  ⟨fun d S' v H' e ev gi gd => h1 d S' v H' e ev (hK ▸ gi) gd, fun x S' e => absurd e (h3 x S'), h2⟩
theorem eo_lc (hc : c.X.calm = true) (hN : c.X.N.Nodup) (hi : ICo c m tg iter di) (ok : BlkOk c.X.N c.X.env.scope scope own) (hsub : ∀ i ∈ t.slots, i ∈ own.map (·.2)) (hlen : ∀ i ∈ own.map (·.2), i < m.length)
    (hg : ∀ s H C cl fp, PG (c.in scope s H C cl fp).X tg (gT c.X.K t)) (he : ∀ s H C cl fp, EV (c.in scope s H C cl fp) (setMd (blkM m (own.map (·.2))) t.slots .fz) elt de)
    (hs : ∀ x, foldedSetIterable iter c.X.env x = pure x := by intro _; rfl) : EO c m (.ListComp elt [⟨tg, iter, [], 0⟩] scope pos) (dComp di t dYes de) := by
  intro σ H ρ S B0 B ow Q fr gi g
  refine PD.WE.of (pe_lc (tt := tYes) (te := fun σ H Q => ∀ s H0 C cl fp, PD.WE (c.in scope s H0 C cl fp).X elt σ H Q) hc hN wi ok hg (fun _ _ _ _ _ => pts_nil) (fun s H0 C cl fp => ⟨fun pins s' σ H Q I h => (h s H0 C cl fp).go pins s' I⟩) hs) ?_
  refine comp_read hi hsub hlen (fun {σ H ρ S B0 B ow Q} fr gi h _ _ => h true S true H rfl (Evo.refl _ _) gi rfl) (fun {σ H ρ S B0 B ow Q} fr gi h h2 h3 s H0 C cl fp => ?_) fr gi g
  exact he s H0 C cl fp σ H ρ S B0 B ow Q fr gi (goal_in rfl h h2 h3)
theorem eo_lcIf {q : Expr} (hc : c.X.calm = true) (hN : c.X.N.Nodup) (hi : ICo c m tg iter di) (ok : BlkOk c.X.N c.X.env.scope scope own) (hsub : ∀ i ∈ t.slots, i ∈ own.map (·.2)) (hlen : ∀ i ∈ own.map (·.2), i < m.length)
    (hg : ∀ s H C cl fp, PG (c.in scope s H C cl fp).X tg (gT c.X.K t)) (ht : ∀ s H C cl fp, ET (c.in scope s H C cl fp) (setMd (blkM m (own.map (·.2))) t.slots .fz) q tt) (he : ∀ s H C cl fp, EV (c.in scope s H C cl fp) (setMd (blkM m (own.map (·.2))) t.slots .fz) elt de)
    (hs : ∀ x, foldedSetIterable iter c.X.env x = pure x := by intro _; rfl) : EO c m (.ListComp elt [⟨tg, iter, [q], 0⟩] scope pos) (dComp di t tt de) := by
  intro σ H ρ S B0 B ow Q fr gi g
  refine PD.WE.of (pe_lc (tt := fun σ H Q => ∀ s H0 C cl fp, WT (c.in scope s H0 C cl fp).X q σ H Q) (te := fun σ H Q => ∀ s H0 C cl fp, PD.WE (c.in scope s H0 C cl fp).X elt σ H Q) hc hN wi ok hg (fun s H0 C cl fp => pts_one ⟨fun pins s' σ H Q I h => (h s H0 C cl fp).go pins s' I⟩) (fun s H0 C cl fp => ⟨fun pins s' σ H Q I h => (h s H0 C cl fp).go pins s' I⟩) hs) ?_
  refine comp_read hi hsub hlen (fun {σ H ρ S B0 B ow Q} fr gi h h2 h3 s H0 C cl fp => ?_) (fun {σ H ρ S B0 B ow Q} fr gi h h2 h3 s H0 C cl fp => ?_) fr gi g
  · exact ht s H0 C cl fp σ H ρ S B0 B ow Q fr gi (goal_in rfl h h2 h3)
  · exact he s H0 C cl fp σ H ρ S B0 B ow Q fr gi (goal_in rfl h h2 h3)
end
end PD
/-! PDj: statements. -/
namespace PD
open PySem PySem.Spec PyProof.Rows L2
inductive RS where
  | nx (ρ : Env) (S : Store)
  | ret (d : PyData) (S : Store)
  | brk (ρ : Env) (S : Store)
  | exc (x : Xc) (ρ : Env) (S : Store)
  | bad
abbrev DS := Env → Store → RS
def RS.bind (r : RS) (f : Env → Store → RS) : RS := match r with
  | .nx ρ S => f ρ S
  | r => r
/-- an expression's result in a statement -/
def R.st {α : Type} (r : R α) (ρ : Env) (f : α → Store → RS) : RS := match r with
  | .ok a S => f a S
  | .exc x S => .exc x ρ S
  | .bad => .bad
@[simp] theorem RS.bind_nx (ρ : Env) (S : Store) (f : Env → Store → RS) : (RS.nx ρ S).bind f = f ρ S := rfl
@[simp] theorem RS.bind_ret (d : PyData) (S : Store) (f : Env → Store → RS) : (RS.ret d S).bind f = .ret d S := rfl
@[simp] theorem RS.bind_brk (ρ : Env) (S : Store) (f : Env → Store → RS) : (RS.brk ρ S).bind f = .brk ρ S := rfl
@[simp] theorem RS.bind_exc (x : Xc) (ρ : Env) (S : Store) (f : Env → Store → RS) : (RS.exc x ρ S).bind f = .exc x ρ S := rfl
@[simp] theorem RS.bind_bad (f : Env → Store → RS) : RS.bad.bind f = .bad := rfl
@[simp] theorem R.st_ok {α : Type} (a : α) (S : Store) (ρ : Env) (f : α → Store → RS) : (R.ok a S).st ρ f = f a S := rfl
@[simp] theorem R.st_exc {α : Type} (x : Xc) (S : Store) (ρ : Env) (f : α → Store → RS) : (R.exc x S : R α).st ρ f = .exc x ρ S := rfl
@[simp] theorem R.st_bad {α : Type} (ρ : Env) (f : α → Store → RS) : (R.bad : R α).st ρ f = .bad := rfl
/-- where a statement stands: the frame, and what was at the def's entry He -/
structure In (c : Cc) (He : Hp) (B0 B : List Addr) (ow : Addr → Nat) (m : List Md) (ρ : Env) (σ : L2.St) (H : Hp) (S : Store) : Prop where
  fr : Frame c.X.K c.g B0 B ow m ρ σ H
  gi : GI c.X.K c.g B H S
  ev : Evo c.g.G He H
  nw : ∀ p ∈ B, p ∉ B0 → He p = none
/-- what is known of the slots where an exception lies -/
def MxOk (K : PySem.W.Frag) (g : Gx) (B0 B : List Addr) (ow : Addr → Nat) (mx : Option (List Md)) (ρ : Env) (σ : L2.St) (H : Hp) : Prop := match mx with
  | none => True
  | some m => Frame K g B0 B ow m ρ σ H
/-- how a def hands back, what modes stand at a break, at an exception -/
structure Fx where
  fr : Bool
  mb : List Md
  mx : Option (List Md)
structure Wants (c : Cc) (x : Fx) (He : Hp) (B0 B : List Addr) (H : Hp) (m' : List Md) (r : RS) (D : Ends) : Prop where
  nx : ∀ ρ' S', r = .nx ρ' S' → ∀ σ' H' B' ow', In c He B0 B' ow' m' ρ' σ' H' S' → Ex (Fz B H) (Fz B' H') → D.nx σ' H'
  rt : ∀ d S', r = .ret d S' → ∀ v H', Evo c.g.G He H' → GI c.X.K c.g B0 H' S' → ResOk c.X.K c.g x.fr B0 He H' S' v d → D.rt v H'
  bk : ∀ ρ' S', r = .brk ρ' S' → ∀ σ' H' B' ow', In c He B0 B' ow' x.mb ρ' σ' H' S' → Ex (Fz B H) (Fz B' H') → D.bk σ' H'
  ex : ∀ xc ρ' S', r = .exc xc ρ' S' → ∀ σ' H' B' ow' cls dd, MxOk c.X.K c.g B0 B' ow' x.mx ρ' σ' H' → GI c.X.K c.g B' H' S' → Evo c.g.G He H' → (∀ p ∈ B', p ∉ B0 → He p = none) → (∀ a ∈ B0, a ∈ B') → Ex (Fz B H) (Fz B' H') → XcRep c.X.K c.X.mg (Fz B' H') xc cls dd → c.W cls dd σ' H'
  nb : r ≠ .bad
def SV (c : Cc) (x : Fx) (m m' : List Md) (st : Stmt) (den : DS) : Prop := ∀ He B0 B ow ρ σ H S D, In c He B0 B ow m ρ σ H S → Wants c x He B0 B H m' (den ρ S) D → WS c.X st D σ H
def SVs (c : Cc) (x : Fx) (m m' : List Md) (st : List Stmt) (den : DS) : Prop := ∀ He B0 B ow ρ σ H S D, In c He B0 B ow m ρ σ H S → Wants c x He B0 B H m' (den ρ S) D → WSs c.X st D σ H
/-- the modes at a place bear those at an exception -/
def Wk (m m' : List Md) : Bool := decide (m.length = m'.length) && (List.range m.length).all fun i => decide (m'[i]? = some .un) || decide (m'[i]? = m[i]?)
def WkX (m : List Md) (mx : Option (List Md)) : Bool := match mx with | none => true | some m' => Wk m m'
theorem Frame.weak {K : PySem.W.Frag} {g : Gx} {B0 B : List Addr} {ow : Addr → Nat} {m m' : List Md} {ρ : Env} {σ : L2.St} {H : Hp} (f : Frame K g B0 B ow m ρ σ H) (h : Wk m m' = true) : Frame K g B0 B ow m' ρ σ H := by
  unfold Wk at h
  rw [Bool.and_eq_true] at h
  have hl := of_decide_eq_true h.1
  refine ⟨by rw [← hl]; exact f.lm, f.ls, f.sub, f.gsub, fun i md hi => ?_⟩
  have hlt : i < m.length := by rw [hl]; exact (List.getElem?_eq_some_iff.mp hi).1
  have q := List.all_eq_true.mp h.2 i (List.mem_range.mpr hlt)
  rw [Bool.or_eq_true, decide_eq_true_eq, decide_eq_true_eq] at q
  rcases q with q | q
  · rw [hi] at q
    cases q
    trivial
  · exact f.slot i md (by rw [← q]; exact hi)
theorem MxOk.of {K : PySem.W.Frag} {g : Gx} {B0 B : List Addr} {ow : Addr → Nat} {m : List Md} {mx : Option (List Md)} {ρ : Env} {σ : L2.St} {H : Hp} (f : Frame K g B0 B ow m ρ σ H) (h : WkX m mx = true) : MxOk K g B0 B ow mx ρ σ H := by
  cases mx with
  | none => trivial
  | some m' => exact f.weak h
section
variable {c : Cc} {x : Fx} {m m' m1 m2 : List Md} {He : Hp} {B0 B : List Addr} {ow : Addr → Nat} {ρ : Env} {σ : L2.St} {H : Hp} {S : Store} {D : Ends}
/-- an expression's exception in a statement -/
theorem xok {α : Type} {r : R α} {f : α → Store → RS} (i : In c He B0 B ow m ρ σ H S) (hx : WkX m x.mx = true) (w : Wants c x He B0 B H m' (r.st ρ f) D) (xc : Xc) (S' : Store) (e : r = .exc xc S') : XOk c B H σ xc S' := fun cls dd H' ev gi xr =>
  w.ex xc ρ S' (by rw [e]; rfl) σ H' B ow cls dd (MxOk.of (i.fr.evo ev) hx) gi (i.ev.trans ev) i.nw i.fr.sub (ev.fz i.gi.sub) xr
/-- what an expression asks within a statement -/
theorem goalS {α β : Type} {r : R α} {f : α → Store → RS} {Good : Store → Hp → β → α → Prop} {Q : β → Hp → Prop} (i : In c He B0 B ow m ρ σ H S) (hx : WkX m x.mx = true) (w : Wants c x He B0 B H m' (r.st ρ f) D)
    (k : ∀ d S' v H', r = .ok d S' → Evo c.g.G H H' → In c He B0 B ow m ρ σ H' S' → Wants c x He B0 B H' m' (f d S') D → Good S' H' v d → Q v H') : Goal c B H σ r Good Q := by
  refine ⟨fun d S' v H' e ev gi gd => k d S' v H' e ev ⟨i.fr.evo ev, gi, i.ev.trans ev, i.nw⟩ ?_ gd, fun xc S' e => xok i hx w xc S' e, fun e => w.nb (by rw [e]; rfl)⟩
  rw [e] at w
  exact ⟨fun ρ' S'' e' σ' H'' B' ow' i' ex => w.nx ρ' S'' e' σ' H'' B' ow' i' ((ev.fz gi.sub).trans ex), w.rt, fun ρ' S'' e' σ' H'' B' ow' i' ex => w.bk ρ' S'' e' σ' H'' B' ow' i' ((ev.fz gi.sub).trans ex), fun xc ρ' S'' e' σ' H'' B' ow' cls dd m1 g1 e1 n1 s1 ex xr => w.ex xc ρ' S'' e' σ' H'' B' ow' cls dd m1 g1 e1 n1 s1 ((ev.fz gi.sub).trans ex) xr, w.nb⟩
/-- the modes weaken -/
theorem Wants.from {B' : List Addr} {H' : Hp} {r : RS} (w : Wants c x He B0 B H m' r D) (e : Ex (Fz B H) (Fz B' H')) : Wants c x He B0 B' H' m' r D :=
  ⟨fun ρ' S'' e' σ' H'' B2 ow' i' ex => w.nx ρ' S'' e' σ' H'' B2 ow' i' (e.trans ex), w.rt, fun ρ' S'' e' σ' H'' B2 ow' i' ex => w.bk ρ' S'' e' σ' H'' B2 ow' i' (e.trans ex), fun xc ρ' S'' e' σ' H'' B2 ow' cls dd m1 g1 e1 n1 s1 ex xr => w.ex xc ρ' S'' e' σ' H'' B2 ow' cls dd m1 g1 e1 n1 s1 (e.trans ex) xr, w.nb⟩
def dNx : DS := fun ρ S => .nx ρ S
def dBrk : DS := fun ρ S => .brk ρ S
/-- one behind the other -/
def dSeq (a b : DS) : DS := fun ρ S => (a ρ S).bind b
theorem svs_nil : SVs c x m m [] dNx := fun He B0 B ow ρ σ H S D i w => WSs.of pss_nil (w.nx ρ S rfl σ H B ow i (Ex.refl _))
theorem svs_cons {st : Stmt} {rest : List Stmt} {d1 d2 : DS} (h1 : SV c x m m1 st d1) (h2 : SVs c x m1 m2 rest d2) : SVs c x m m2 (st :: rest) (dSeq d1 d2) := by
  intro He B0 B ow ρ σ H S D i w
  unfold dSeq at w
  refine WSs.of (pss_cons ws wss) ?_
  refine h1 He B0 B ow ρ σ H S _ i ⟨fun ρ' S' e σ' H' B' ow' i' ex => ?_, fun d S' e => w.rt d S' (by simp only [e]; rfl), fun ρ' S' e => w.bk ρ' S' (by simp only [e]; rfl), fun xc ρ' S' e => w.ex xc ρ' S' (by simp only [e]; rfl), fun e => w.nb (by simp only [e]; rfl)⟩
  simp only [e, RS.bind_nx] at w
  exact h2 He B0 B' ow' ρ' σ' H' S' D i' (w.from ex)
theorem svs_one {st : Stmt} {d1 : DS} (h1 : SV c x m m1 st d1) : SVs c x m m1 [st] d1 := fun He B0 B ow ρ σ H S D i w => WSs.of (pss_one ws) (h1 He B0 B ow ρ σ H S D i w)
/-- slots are forgotten ahead -/
theorem sv_weak {st : Stmt} {d : DS} (h : Wk m m1 = true) (h1 : SV c x m1 m2 st d) : SV c x m m2 st d := fun He B0 B ow ρ σ H S D i w => h1 He B0 B ow ρ σ H S D ⟨i.fr.weak h, i.gi, i.ev, i.nw⟩ w
theorem svs_weak {st : List Stmt} {d : DS} (h : Wk m m1 = true) (h1 : SVs c x m1 m2 st d) : SVs c x m m2 st d := fun He B0 B ow ρ σ H S D i w => h1 He B0 B ow ρ σ H S D ⟨i.fr.weak h, i.gi, i.ev, i.nw⟩ w
/-- .. behind -/
theorem svs_weakB {st : List Stmt} {d : DS} (h : Wk m1 m2 = true) (h1 : SVs c x m m1 st d) : SVs c x m m2 st d := fun He B0 B ow ρ σ H S D i w => h1 He B0 B ow ρ σ H S D i ⟨fun ρ' S' e σ' H' B' ow' i' ex => w.nx ρ' S' e σ' H' B' ow' ⟨i'.fr.weak h, i'.gi, i'.ev, i'.nw⟩ ex, w.rt, w.bk, w.ex, w.nb⟩
/-- a slot's own list, dict is frozen -/
theorem In.freeze (i : In c He B0 B ow m ρ σ H S) {j : Nat} (hj : m[j]? = some .own) : ∃ B', In c He B0 B' ow (m.set j .fz) ρ σ H S ∧ Ex (Fz B H) (Fz B' H) := by
  obtain ⟨d, p, e1, e2, ⟨hp, hp0, how⟩, t⟩ := i.fr.slot j _ hj
  have hjl : j < m.length := (List.getElem?_eq_some_iff.mp hj).1
  have sub : ∀ a ∈ B.filter (fun a => decide (a ≠ p)), a ∈ B := fun a ha => (List.mem_filter.mp ha).1
  have ex : Ex (Fz B H) (Fz (B.filter fun a => decide (a ≠ p)) H) := fz_anti sub
  have keep : ∀ a ∈ B, a ≠ p → a ∈ B.filter (fun a => decide (a ≠ p)) := fun a ha ne => List.mem_filter.mpr ⟨ha, decide_eq_true ne⟩
  have gsub : ∀ a ∈ c.g.G, a ∈ B.filter (fun a => decide (a ≠ p)) := fun a ha => keep a (i.fr.sub a (i.fr.gsub a ha)) fun e => hp0 (e ▸ i.fr.gsub a ha)
  refine ⟨B.filter fun a => decide (a ≠ p), ⟨⟨by rw [List.length_set]; exact i.fr.lm, i.fr.ls, fun a ha => keep a (i.fr.sub a ha) fun e => hp0 (e ▸ ha), i.fr.gsub, fun k md hk => ?_⟩, i.gi.less sub gsub, i.ev, fun q hq => i.nw q (sub q hq)⟩, ex⟩
  by_cases e : j = k
  · subst e
    rw [List.getElem?_set_self hjl] at hk
    cases hk
    intro d' hd'
    rw [e1] at hd'
    cases hd'
    exact ⟨_, e2, t.is ex fun o q => fz_some.mpr ⟨fun z => by have := of_decide_eq_true (List.mem_filter.mp z).2; exact this rfl, q⟩⟩
  · rw [List.getElem?_set_ne e] at hk
    exact (i.fr.slot k md hk).step ex (fun a ha => keep a ha.1 fun z => e (by rw [← how, ← ha.2.2, z])) fun a o _ q => q
theorem sv_freeze {st : Stmt} {d : DS} {j : Nat} (hj : m[j]? = some .own) (h1 : SV c x (m.set j .fz) m2 st d) : SV c x m m2 st d := fun He B0 B ow ρ σ H S D i w => by
  obtain ⟨B', i', ex⟩ := i.freeze hj
  exact h1 He B0 B' ow ρ σ H S D i' (w.from ex)
theorem svs_freeze {st : List Stmt} {d : DS} {j : Nat} (hj : m[j]? = some .own) (h1 : SVs c x (m.set j .fz) m2 st d) : SVs c x m m2 st d := fun He B0 B ow ρ σ H S D i w => by
  obtain ⟨B', i', ex⟩ := i.freeze hj
  exact h1 He B0 B' ow ρ σ H S D i' (w.from ex)
/-- .. behind -/
theorem svs_freezeB {st : List Stmt} {d : DS} {j : Nat} (hj : m1[j]? = some .own) (h1 : SVs c x m m1 st d) : SVs c x m (m1.set j .fz) st d := fun He B0 B ow ρ σ H S D i w => h1 He B0 B ow ρ σ H S D i
  ⟨fun ρ' S' e σ' H' B' ow' i' ex => by
    obtain ⟨B2, i2, ex2⟩ := i'.freeze hj
    exact w.nx ρ' S' e σ' H' B2 ow' i2 (ex.trans ex2), w.rt, w.bk, w.ex, w.nb⟩
/-! ### stores into names -/
def dSet (i : Nat) (a : DE) : DS := fun ρ S => (a ρ S).st ρ fun d S1 => .nx (ρ.set i (some d)) S1
theorem sv_set {i : Nat} {e : Expr} {a : DE} {y : Str} {pos pos' : Pos} (ha : EV c m e a) (hi : i < m.length) (hp : PS c.X (.Assign [.Name y pos'] e pos) (tAsg (PD.WE c.X e) (gName i))) (hx : WkX m x.mx = true := by rfl) : SV c x m (m.set i .fz) (.Assign [.Name y pos'] e pos) (dSet i a) := by
  intro He B0 B ow ρ σ H S D i1 w
  refine WS.of hp (ha σ H ρ S B0 B ow _ i1.fr i1.gi (goalS i1 hx w fun d S' v H' e ev i2 w2 gd => ?_))
  exact w2.nx _ _ rfl _ H' B ow ⟨i2.fr.put hi gd, i2.gi, i2.ev, i2.nw⟩ (Ex.refl _)
/-- a new list's, dict's holder -/
theorem In.own {H0 : Hp} {S0 : Store} (i : In c He B0 B ow m ρ σ H0 S0) (ev : Evo c.g.G H0 H) {j : Nat} (hj : j < m.length) {p : Addr} {d : PyData} (hp : H0 p = none) (ht : Top c.X.K (p :: B) H p d) (gi : GI c.X.K c.g (p :: B) H S) :
    In c He B0 (p :: B) (fun a => if a = p then j else ow a) (m.set j .own) (ρ.set j (some d)) (σ.set j (some (.ref p))) H S ∧ Ex (Fz B H0) (Fz (p :: B) H) := by
  have hn : p ∉ B := new_notin i.gi.kn hp
  have ex : Ex (Fz B H0) (Fz (p :: B) H) := fun a u q => by
    have q := fz_some.mp q
    have ne : a ≠ p := ne_of_none q.2 hp
    exact fz_some.mpr ⟨fun z => (List.mem_cons.mp z).elim ne q.1, ev a u (fun z => q.1 (i.gi.sub a z)) q.2⟩
  have hρ : j < ρ.length := by rw [← i.fr.lm]; exact hj
  have hσ : j < σ.length := by rw [i.fr.ls]; exact hρ
  refine ⟨⟨⟨by simp [i.fr.lm], by simp [i.fr.ls], fun a ha => List.mem_cons_of_mem _ (i.fr.sub a ha), i.fr.gsub, fun k md hk => ?_⟩, gi, i.ev.trans ev, fun q hq hq0 => ?_⟩, ex⟩
  · rw [getD_set hρ, getD_set hσ]
    by_cases e : j = k
    · subst e
      rw [List.getElem?_set_self hj] at hk
      cases hk
      rw [if_pos rfl, if_pos rfl]
      exact ⟨d, p, rfl, rfl, ⟨List.mem_cons_self .., fun z => hn (i.fr.sub p z), if_pos rfl⟩, ht⟩
    · rw [List.getElem?_set_ne e] at hk
      rw [if_neg e, if_neg e]
      have st := (i.fr.slot k md hk).step (B' := p :: B) (H' := H) ex (fun a ha => List.mem_cons_of_mem _ ha.1) fun a o ha q => ev a o (fun z => ha.2.1 (i.fr.gsub a z)) q
      have ne : ∀ a, Own B0 (p :: B) ow k a → a ≠ p ∨ True := fun _ _ => .inr trivial
      -- the owner's name at the other addresses is as it was
      have key : ∀ a ∈ B, (if a = p then j else ow a) = ow a := fun a ha => if_neg fun (z : a = p) => hn (z ▸ ha)
      have s0 := i.fr.slot k md hk
      have own' : ∀ a, Own B0 B ow k a → Own B0 (p :: B) (fun a => if a = p then j else ow a) k a := fun a h => ⟨List.mem_cons_of_mem _ h.1, h.2.1, by show (if a = p then j else ow a) = k; rw [key a h.1]; exact h.2.2⟩
      cases md with
      | un => trivial
      | fz => exact st
      | st q => exact st
      | ea => exact st
      | lm => exact st
      | cs => exact st
      | own =>
        obtain ⟨d', p', h1, h2, h3, h4⟩ := s0
        exact ⟨d', p', h1, h2, own' _ h3, h4.mono ex fun o q => ev p' o (fun z => h3.2.1 (i.fr.gsub p' z)) q⟩
      | own2 =>
        obtain ⟨ds', p', qs, h1, h2, h3, h4, h5, h6⟩ := s0
        refine ⟨ds', p', qs, h1, h2, fun q hq => own' _ (h3 q hq), h4, ev p' _ (fun z => (h3 p' (List.mem_cons_self ..)).2.1 (i.fr.gsub p' z)) h5, ?_⟩
        have h3' : ∀ q ∈ qs, Own B0 B ow k q := fun q hq => h3 q (List.mem_cons_of_mem _ hq)
        clear h1 h2 h3 h4 h5
        induction h6 with
        | nil => exact .nil
        | cons r t ih => exact .cons (r.mono ex fun o q => ev _ o (fun z => (h3' _ (List.mem_cons_self ..)).2.1 (i.fr.gsub _ z)) q) (ih fun q hq => h3' q (List.mem_cons_of_mem _ hq))
  · rcases List.mem_cons.mp hq with rfl | hq
    · exact free_back i.ev i.gi hp
    · exact i.nw q hq hq0
end
end PD
/-! PDk: more statements. -/
namespace PD
open PySem PySem.Spec PyProof.Rows L2
section
variable {c : Cc} {x : Fx} {m m' m1 m2 : List Md} {He : Hp} {B0 B : List Addr} {ow : Addr → Nat} {ρ : Env} {σ : L2.St} {H : Hp} {S : Store} {D : Ends}
/-- x = a new list, dict of its own -/
theorem sv_seto {i : Nat} {e : Expr} {a : DE} {y : Str} {pos pos' : Pos} (ha : EO c m e a) (hi : i < m.length) (hp : PS c.X (.Assign [.Name y pos'] e pos) (tAsg (PD.WE c.X e) (gName i))) (hx : WkX m x.mx = true := by rfl) : SV c x m (m.set i .own) (.Assign [.Name y pos'] e pos) (dSet i a) := by
  intro He B0 B ow ρ σ H S D i1 w
  refine WS.of hp (ha σ H ρ S B0 B ow _ i1.fr i1.gi (goalS i1 hx w fun d S' v H' e ev i2 w2 gd => ?_))
  obtain ⟨p, rfl, hp, t, gi⟩ := gd
  obtain ⟨i3, ex⟩ := i1.own ev hi hp t gi
  refine w.nx _ _ ?_ _ H' _ _ i3 ex
  show (a ρ S).st ρ _ = _
  rw [e]
  rfl
/-- a comprehension given to a local name -/
theorem sv_setLc {i : Nat} {e : Expr} {a : DE} {y : Str} {pos pos' : Pos} (ha : ∀ {He B0 B ow ρ σ H S} {D : Ends}, In c He B0 B ow m ρ σ H S → Wants c x He B0 B H (m.set i .own) (dSet i a ρ S) D → WS c.X (.Assign [.Name y pos'] e pos) D σ H) : SV c x m (m.set i .own) (.Assign [.Name y pos'] e pos) (dSet i a) := fun He B0 B ow ρ σ H S D i1 w => ha i1 w
/-- what a comprehension asks ahead of a store into a name -/
theorem store_own {i : Nat} {a : DE} (hi : i < m.length) (hx : WkX m x.mx = true) (i1 : In c He B0 B ow m ρ σ H S) (w : Wants c x He B0 B H (m.set i .own) (dSet i a ρ S) D) :
    Goal c B H σ (a ρ S) (fun S' H' v d => ∃ p, v = .ref p ∧ H p = none ∧ Top c.X.K (p :: B) H' p d ∧ GI c.X.K c.g (p :: B) H' S') (fun v H1 => gName i v σ H1 D.nx) :=
  goalS i1 hx w fun d S' v H' e ev i2 w2 gd => by
    obtain ⟨p, rfl, hp, t, gi⟩ := gd
    obtain ⟨i3, ex⟩ := i1.own ev hi hp t gi
    refine w.nx _ _ ?_ _ H' _ _ i3 ex
    show (a ρ S).st ρ _ = _
    rw [e]
    rfl
theorem sv_lc {i : Nat} {y : Str} {py pos spos : Pos} {elt tg iter : Expr} {scope : Scope} {own : List (Str × Nat)} {di : DI} {t : Tg} {de : DE} (hi' : i < m.length) (hy : c.X.N[i]? = some y) (hyl : c.X.env.scope.names.lookup y = some .local)
    (hsw : swapsWith (.ListComp elt [⟨tg, iter, [], 0⟩] scope pos) (some (.Name y py)) spos.line c.X.env = pure true)
    (hc : c.X.calm = true) (hN : c.X.N.Nodup) (hi : ICo c m tg iter di) (ok : BlkOk c.X.N c.X.env.scope scope own) (hsub : ∀ i ∈ t.slots, i ∈ own.map (·.2)) (hlen : ∀ i ∈ own.map (·.2), i < m.length)
    (hg : ∀ s H C cl fp, PG (c.in scope s H C cl fp).X tg (gT c.X.K t)) (he : ∀ s H C cl fp, EV (c.in scope s H C cl fp) (setMd (blkM m (own.map (·.2))) t.slots .fz) elt de)
    (hs : ∀ x, foldedSetIterable iter c.X.env x = pure x := by intro _; rfl) (hx : WkX m x.mx = true := by rfl) : SV c x m (m.set i .own) (.Assign [.Name y py] (.ListComp elt [⟨tg, iter, [], 0⟩] scope pos) spos) (dSet i (dComp di t dYes de)) := by
  intro He B0 B ow ρ σ H S D i1 w
  refine WS.of (ps_setLc (tt := tYes) (te := fun σ H Q => ∀ s H0 C cl fp, PD.WE (c.in scope s H0 C cl fp).X elt σ H Q) hc hN hy hyl hsw wi ok hg (fun _ _ _ _ _ => pts_nil) (fun s H0 C cl fp => ⟨fun pins s' σ H Q I h => (h s H0 C cl fp).go pins s' I⟩) hs) ?_
  refine comp_read hi hsub hlen (fun {σ H ρ S B0 B ow Q} fr gi h _ _ => h true S true H rfl (Evo.refl _ _) gi rfl) (fun {σ H ρ S B0 B ow Q} fr gi h h2 h3 s H0 C cl fp => ?_) i1.fr i1.gi (store_own hi' hx i1 w)
  exact he s H0 C cl fp σ H ρ S B0 B ow Q fr gi (goal_in rfl h h2 h3)
theorem sv_lcIf {i : Nat} {y : Str} {py pos spos : Pos} {elt tg iter q : Expr} {scope : Scope} {own : List (Str × Nat)} {di : DI} {t : Tg} {tt : DT} {de : DE} (hi' : i < m.length) (hy : c.X.N[i]? = some y) (hyl : c.X.env.scope.names.lookup y = some .local)
    (hsw : swapsWith (.ListComp elt [⟨tg, iter, [q], 0⟩] scope pos) (some (.Name y py)) spos.line c.X.env = pure true)
    (hc : c.X.calm = true) (hN : c.X.N.Nodup) (hi : ICo c m tg iter di) (ok : BlkOk c.X.N c.X.env.scope scope own) (hsub : ∀ i ∈ t.slots, i ∈ own.map (·.2)) (hlen : ∀ i ∈ own.map (·.2), i < m.length)
    (hg : ∀ s H C cl fp, PG (c.in scope s H C cl fp).X tg (gT c.X.K t)) (ht : ∀ s H C cl fp, ET (c.in scope s H C cl fp) (setMd (blkM m (own.map (·.2))) t.slots .fz) q tt) (he : ∀ s H C cl fp, EV (c.in scope s H C cl fp) (setMd (blkM m (own.map (·.2))) t.slots .fz) elt de)
    (hs : ∀ x, foldedSetIterable iter c.X.env x = pure x := by intro _; rfl) (hx : WkX m x.mx = true := by rfl) : SV c x m (m.set i .own) (.Assign [.Name y py] (.ListComp elt [⟨tg, iter, [q], 0⟩] scope pos) spos) (dSet i (dComp di t tt de)) := by
  intro He B0 B ow ρ σ H S D i1 w
  refine WS.of (ps_setLc (tt := fun σ H Q => ∀ s H0 C cl fp, WT (c.in scope s H0 C cl fp).X q σ H Q) (te := fun σ H Q => ∀ s H0 C cl fp, PD.WE (c.in scope s H0 C cl fp).X elt σ H Q) hc hN hy hyl hsw wi ok hg (fun s H0 C cl fp => pts_one ⟨fun pins s' σ H Q I h => (h s H0 C cl fp).go pins s' I⟩) (fun s H0 C cl fp => ⟨fun pins s' σ H Q I h => (h s H0 C cl fp).go pins s' I⟩) hs) ?_
  refine comp_read hi hsub hlen (fun {σ H ρ S B0 B ow Q} fr gi h h2 h3 s H0 C cl fp => ?_) (fun {σ H ρ S B0 B ow Q} fr gi h h2 h3 s H0 C cl fp => ?_) i1.fr i1.gi (store_own hi' hx i1 w)
  · exact ht s H0 C cl fp σ H ρ S B0 B ow Q fr gi (goal_in rfl h h2 h3)
  · exact he s H0 C cl fp σ H ρ S B0 B ow Q fr gi (goal_in rfl h h2 h3)
/-- (a, b) = a tuple -/
def dTupSet (is : List Nat) (a : DE) : DS := fun ρ S => (a ρ S).st ρ fun d S1 => match (Tg.tup is).bind d ρ with | some ρ1 => .nx ρ1 S1 | none => .bad
theorem setMd_get : True := trivial
theorem sv_tup {is : List Nat} {e : Expr} {a : DE} {tg : Expr} {pos : Pos} (ha : EV c m e a) (hi : ∀ i ∈ is, i < m.length) (hp : PS c.X (.Assign [tg] e pos) (tAsg (PD.WE c.X e) (gTup c.X.K is.length (is.foldr (fun i u => gCons (gName i) u) gNil)))) (hx : WkX m x.mx = true := by rfl) : SV c x m (setMd m is .fz) (.Assign [tg] e pos) (dTupSet is a) := by
  intro He B0 B ow ρ σ H S D i1 w
  refine WS.of hp (ha σ H ρ S B0 B ow _ i1.fr i1.gi (goalS i1 hx w fun d S' v H' e ev i2 w2 gd => ?_))
  cases eb : (Tg.tup is).bind d ρ with
  | none => rw [eb] at w2; exact absurd rfl w2.nb
  | some ρ1 =>
    rw [eb] at w2
    exact Tg.put (X := c.X) (t := .tup is) (tg := tg) rfl i2.fr hi gd eb fun σ' f' _ => w2.nx _ _ rfl σ' H' B ow ⟨f', i2.gi, i2.ev, i2.nw⟩ (Ex.refl _)
/-! ### control -/
def dIfS (t : DT) (a b : DS) : DS := fun ρ S => (t ρ S).st ρ fun q S1 => if q = true then a ρ S1 else b ρ S1
theorem sv_if {q : Expr} {a b : List Stmt} {tq : DT} {da db : DS} {pos : Pos} (hq : ET c m q tq) (ha : SVs c x m m1 a da) (hb : SVs c x m m1 b db) (hx : WkX m x.mx = true := by rfl) : SV c x m m1 (.If q a b pos) (dIfS tq da db) := by
  intro He B0 B ow ρ σ H S D i1 w
  refine WS.of (ps_if wt wss wss) (hq σ H ρ S B0 B ow _ i1.fr i1.gi (goalS i1 hx w fun d S' v H' e ev i2 w2 gd => ?_))
  cases gd
  cases d with
  | true => rw [if_pos rfl] at w2 ⊢; exact ha He B0 B ow ρ σ H' S' D i2 w2
  | false => rw [if_neg (by simp)] at w2 ⊢; exact hb He B0 B ow ρ σ H' S' D i2 w2
def dRet (a : DE) : DS := fun ρ S => (a ρ S).st ρ fun d S1 => .ret d S1
theorem sv_ret {e : Expr} {a : DE} {pos : Pos} (ha : EV c m e a) (hf : x.fr = false := by rfl) (hx : WkX m x.mx = true := by rfl) : SV c x m m1 (.Return (some e) pos) (dRet a) := by
  intro He B0 B ow ρ σ H S D i1 w
  refine WS.of (ps_ret we) (ha σ H ρ S B0 B ow _ i1.fr i1.gi (goalS i1 hx w fun d S' v H' e ev i2 w2 gd => ?_))
  refine w2.rt _ _ rfl v H' i2.ev (i2.gi.less i2.fr.sub i2.fr.gsub) ?_
  unfold ResOk
  rw [if_neg (by rw [hf]; simp)]
  exact gd.mono (fz_anti i2.fr.sub)
theorem sv_reto {e : Expr} {a : DE} {pos : Pos} (ha : EO c m e a) (hf : x.fr = true := by rfl) (hx : WkX m x.mx = true := by rfl) : SV c x m m1 (.Return (some e) pos) (dRet a) := by
  intro He B0 B ow ρ σ H S D i1 w
  refine WS.of (ps_ret we) (ha σ H ρ S B0 B ow _ i1.fr i1.gi (goalS i1 hx w fun d S' v H' e ev i2 w2 gd => ?_))
  obtain ⟨p, rfl, hp, t, gi⟩ := gd
  refine w2.rt _ _ rfl _ H' i2.ev (i2.gi.less i2.fr.sub i2.fr.gsub) ?_
  unfold ResOk
  rw [if_pos hf]
  have sub : ∀ a ∈ p :: B0, a ∈ p :: B := fun a ha => (List.mem_cons.mp ha).elim (fun e => e ▸ List.mem_cons_self ..) fun h => List.mem_cons_of_mem _ (i2.fr.sub a h)
  exact ⟨p, rfl, free_back i1.ev i1.gi hp, t.mono (fz_anti sub) fun _ q => q, gi.less sub fun a ha => List.mem_cons_of_mem _ (i2.fr.gsub a ha)⟩
/-- return x, x a list of the def's own -/
theorem sv_retOwn {i : Nat} {y : Str} {p1 pos : Pos} (hm : m[i]? = some .own) (hp : PE c.X (.Name y p1) (tVar i)) (hf : x.fr = true := by rfl) : SV c x m m1 (.Return (some (.Name y p1)) pos) (dRet (dVar i)) := by
  intro He B0 B ow ρ σ H S D i1 w
  refine WS.of (ps_ret hp) ?_
  obtain ⟨d, p, e, hv, hw, t⟩ := i1.fr.slot i _ hm
  have er : dRet (dVar i) ρ S = .ret d S := by
    show (ofO (ρ.getD i none) S).st ρ _ = _
    rw [e]
    rfl
  rw [er] at w
  refine ⟨.ref p, ?_, w.rt _ _ rfl _ H i1.ev (i1.gi.less i1.fr.sub i1.fr.gsub) ?_⟩
  · rw [List.getD_eq_getElem?_getD] at hv
    cases h2 : σ[i]? with
    | none => rw [h2] at hv; cases hv
    | some o => rw [h2] at hv; rw [show o = some _ from hv]
  · unfold ResOk
    rw [if_pos hf]
    have sub : ∀ a ∈ p :: B0, a ∈ B := fun a ha => (List.mem_cons.mp ha).elim (fun e => e ▸ hw.1) fun h => i1.fr.sub a h
    exact ⟨p, rfl, i1.nw p hw.1 hw.2.1, t.mono (fz_anti sub) fun _ q => q, i1.gi.less sub fun a ha => List.mem_cons_of_mem _ (i1.fr.gsub a ha)⟩
def dDrop (a : DE) : DS := fun ρ S => (a ρ S).st ρ fun _ S1 => .nx ρ S1
theorem sv_expr {e : Expr} {a : DE} {pos : Pos} (ha : EV c m e a) (hs : swapsWith e none pos.line c.X.env = pure false := by rfl) (hx : WkX m x.mx = true := by rfl) : SV c x m m (.Expr e pos) (dDrop a) := by
  intro He B0 B ow ρ σ H S D i1 w
  refine WS.of (ps_expr we hs) (ha σ H ρ S B0 B ow _ i1.fr i1.gi (goalS i1 hx w fun d S' v H' e ev i2 w2 gd => ?_))
  exact w2.nx _ _ rfl σ H' B ow i2 (Ex.refl _)
theorem sv_pass {pos : Pos} : SV c x m m (.Pass pos) dNx := fun He B0 B ow ρ σ H S D i w => WS.of ps_pass (w.nx ρ S rfl σ H B ow i (Ex.refl _))
theorem sv_break {pos : Pos} (h : Wk m x.mb = true) : SV c x m m1 (.Break pos) dBrk := fun He B0 B ow ρ σ H S D i w => WS.of ps_break (w.bk ρ S rfl σ H B ow ⟨i.fr.weak h, i.gi, i.ev, i.nw⟩ (Ex.refl _))
/-! for: the modes at each turn's start, at the end -/
def forL (t : Tg) (body : DS) : List PyData → Env → Store → RS
  | [], ρ, S => .nx ρ S
  | d :: ds, ρ, S => match t.bind d ρ with
    | none => .bad
    | some ρ1 => match body ρ1 S with
      | .nx ρ2 S2 => forL t body ds ρ2 S2
      | .brk ρ2 S2 => .nx ρ2 S2
      | r => r
def dFor (di : DI) (t : Tg) (body : DS) : DS := fun ρ S => (di ρ S).st ρ fun ds S1 => forL t body ds ρ S1
theorem forL_nil (t : Tg) (body : DS) (ρ : Env) (S : Store) : forL t body [] ρ S = .nx ρ S := rfl
theorem forL_cons (t : Tg) (body : DS) (d : PyData) (ds : List PyData) (ρ : Env) (S : Store) : forL t body (d :: ds) ρ S = match t.bind d ρ with
    | none => .bad
    | some ρ1 => match body ρ1 S with
      | .nx ρ2 S2 => forL t body ds ρ2 S2
      | .brk ρ2 S2 => .nx ρ2 S2
      | r => r := rfl
theorem sv_for {tg iter : Expr} {body : List Stmt} {di : DI} {t : Tg} {db : DS} {pos : Pos} (hpo : PassesOwn (model c.X.prog c.X.w) c.X.A c.X.env c.X.xe) (hc : c.X.calm = true) (hi : IFo c m tg iter di) (hsl : ∀ i ∈ t.slots, i < m.length) (hg : PG c.X tg (gT c.X.K t)) (hb : SVs c { x with mb := m } (setMd m t.slots .fz) m body db) (hs : ∀ x, foldedSetIterable iter c.X.env x = pure x := by intro _; rfl) (hx : WkX m x.mx = true := by rfl) :
    SV c x m m (.For tg iter body [] pos) (dFor di t db) := by
  intro He B0 B ow ρ σ H S D i1 w
  refine WS.of (ps_for hpo hc wi hg wss (hs := hs)) ?_
  refine hi σ H ρ S B0 B ow _ i1.fr i1.gi (goalS i1 hx w fun ds S1 J H1 e ev i2 w2 it => ?_)
  refine ⟨fun i k σ2 H2 => k = ds.length - i ∧ i ≤ ds.length ∧ ∃ ρ2 S2 B2 ow2, In c He B0 B2 ow2 m ρ2 σ2 H2 S2 ∧ Ex (Fz B H1) (Fz B2 H2) ∧ forL t db ds ρ S1 = forL t db (ds.drop i) ρ2 S2, ⟨ds.length, by simp, Nat.zero_le _, ρ, S1, B, ow, i2, Ex.refl _, rfl⟩, ?_⟩
  rintro i k σ2 H2 ⟨rfl, hile, ρ2, S2, B2, ow2, i3, ex, eq⟩
  obtain ⟨go, stop⟩ := it.2 B2 H2 ex i3.gi.kn
  by_cases hlt : i < ds.length
  · refine .inr ⟨(go i ds[i] (List.getElem?_eq_getElem hlt)).1, fun σ3 H3 => ∃ ρ3 S3 B3 ow3, In c He B0 B3 ow3 m ρ3 σ3 H3 S3 ∧ Ex (Fz B H1) (Fz B3 H3) ∧ forL t db ds ρ S1 = forL t db (ds.drop (i + 1)) ρ3 S3, fun σ3 H3 h3 => ⟨ds.length - (i + 1), by omega, rfl, hlt, h3⟩, fun y H3 hy => ?_⟩
    obtain ⟨ex3, iy⟩ := (go i ds[i] (List.getElem?_eq_getElem hlt)).2 y H3 hy
    rw [List.drop_eq_getElem_cons hlt, forL_cons] at eq
    cases eb : t.bind ds[i] ρ2 with
    | none => rw [eb] at eq; exact absurd eq w2.nb
    | some ρ3 =>
      rw [eb] at eq
      simp only at eq
      have i4 : In c He B0 B2 ow2 m ρ2 σ2 H3 S2 := ⟨i3.fr.evo ex3.evo, i3.gi.ex ex3, i3.ev.trans ex3.evo, i3.nw⟩
      refine Tg.put (X := c.X) (t := t) (tg := tg) rfl i4.fr hsl iy eb fun σ4 f4 _ => ?_
      refine hb He B0 B2 ow2 ρ3 σ4 H3 S2 _ ⟨f4, i4.gi, i4.ev, i4.nw⟩ ⟨fun ρ5 S5 e5 σ5 H5 B5 ow5 i5 ex5 => ?_, fun d S5 e5 => ?_, fun ρ5 S5 e5 σ5 H5 B5 ow5 i5 ex5 => ?_, fun xc ρ5 S5 e5 => ?_, fun e5 => ?_⟩
      · rw [e5] at eq
        exact ⟨ρ5, S5, B5, ow5, i5, (ex.trans ex3.fz).trans ex5, eq⟩
      · rw [e5] at eq
        exact w2.rt d S5 eq
      · rw [e5] at eq
        exact w2.nx ρ5 S5 eq σ5 H5 B5 ow5 i5 ((ex.trans ex3.fz).trans ex5)
      · rw [e5] at eq
        exact fun σ' H' B' ow' cls dd m1 g1 e1 n1 s1 exx xr => w2.ex xc ρ5 S5 eq σ' H' B' ow' cls dd m1 g1 e1 n1 s1 ((ex.trans ex3.fz).trans exx) xr
      · rw [e5] at eq
        exact w2.nb eq
  · have e : i = ds.length := by omega
    subst e
    rw [List.drop_length, forL_nil] at eq
    exact .inl ⟨stop _ (Nat.le_refl _), w2.nx _ _ eq σ2 H2 B2 ow2 i3 ex⟩
/-! while -/
def whL (t : DT) (body : DS) : Nat → Env → Store → RS
  | 0, _, _ => .bad
  | n + 1, ρ, S => (t ρ S).st ρ fun q S1 => if q = true then (match body ρ S1 with
      | .nx ρ2 S2 => whL t body n ρ2 S2
      | .brk ρ2 S2 => .nx ρ2 S2
      | r => r) else .nx ρ S1
theorem whL_succ (t : DT) (body : DS) (n : Nat) (ρ : Env) (S : Store) : whL t body (n + 1) ρ S = (t ρ S).st ρ fun q S1 => if q = true then (match body ρ S1 with
      | .nx ρ2 S2 => whL t body n ρ2 S2
      | .brk ρ2 S2 => .nx ρ2 S2
      | r => r) else .nx ρ S1 := rfl
def dWhile (n : Nat) (t : DT) (body : DS) : DS := fun ρ S => whL t body n ρ S
theorem sv_while {n : Nat} {q : Expr} {body : List Stmt} {tq : DT} {db : DS} {pos : Pos} (hpo : PassesOwn (model c.X.prog c.X.w) c.X.A c.X.env c.X.xe) (hq : ET c m q tq) (hb : SVs c { x with mb := m } m m body db) (hx : WkX m x.mx = true := by rfl) : SV c x m m (.While q body [] pos) (dWhile n tq db) := by
  intro He B0 B ow ρ σ H S D i1 w
  refine WS.of (ps_while hpo wt wss) ?_
  refine ⟨fun k σ2 H2 => ∃ ρ2 S2 B2 ow2, In c He B0 B2 ow2 m ρ2 σ2 H2 S2 ∧ Ex (Fz B H) (Fz B2 H2) ∧ whL tq db n ρ S = whL tq db k ρ2 S2, ⟨n, ρ, S, B, ow, i1, Ex.refl _, rfl⟩, ?_⟩
  rintro k σ2 H2 ⟨ρ2, S2, B2, ow2, i2, ex, eq⟩
  cases k with
  | zero => exact absurd eq w.nb
  | succ k =>
    rw [whL_succ] at eq
    have w2 : Wants c x He B0 B2 H2 m (whL tq db n ρ S) D := Wants.from (show Wants c x He B0 B H m (whL tq db n ρ S) D from w) ex
    rw [eq] at w2
    refine hq σ2 H2 ρ2 S2 B0 B2 ow2 _ i2.fr i2.gi (goalS i2 hx w2 fun d S3 v H3 e ev i3 w3 gd => ?_)
    cases gd
    cases d with
    | true =>
      rw [if_pos rfl] at w3 ⊢
      rw [e] at eq
      simp only [R.st_ok, if_true] at eq
      refine ⟨fun σ' H' => ∃ ρ5 S5 B5 ow5, In c He B0 B5 ow5 m ρ5 σ' H' S5 ∧ Ex (Fz B H) (Fz B5 H') ∧ whL tq db n ρ S = whL tq db k ρ5 S5, fun σ' H' h => ⟨k, Nat.lt_succ_self k, h⟩, ?_⟩
      refine hb He B0 B2 ow2 ρ2 σ2 H3 S3 _ i3 ⟨fun ρ5 S5 e5 σ5 H5 B5 ow5 i5 ex5 => ?_, fun d S5 e5 => ?_, fun ρ5 S5 e5 σ5 H5 B5 ow5 i5 ex5 => ?_, fun xc ρ5 S5 e5 => ?_, fun e5 => ?_⟩
      · rw [e5] at eq
        exact ⟨ρ5, S5, B5, ow5, i5, (ex.trans (ev.fz i2.gi.sub)).trans ex5, eq⟩
      · rw [e5] at w3
        exact w3.rt d S5 rfl
      · rw [e5] at w3
        exact w3.nx ρ5 S5 rfl σ5 H5 B5 ow5 i5 ex5
      · rw [e5] at w3
        exact w3.ex xc ρ5 S5 rfl
      · rw [e5] at w3
        exact w3.nb rfl
    | false =>
      rw [if_neg (by simp)] at w3 ⊢
      exact w3.nx _ _ rfl σ2 H3 B2 ow2 i3 (Ex.refl _)
end
end PD
/-! PDl: lists changed in place, several targets, raise, a def by its body. -/
namespace PD
open PySem PySem.Spec PyProof.Rows L2
section
variable {c : Cc} {x : Fx} {m m' m1 m2 : List Md} {He : Hp} {B0 B : List Addr} {ow : Addr → Nat} {ρ : Env} {σ : L2.St} {H : Hp} {S : Store} {D : Ends}
/-- the slot's own list, dict is changed -/
theorem In.write (i : In c He B0 B ow m ρ σ H S) {j : Nat} (hj : m[j]? = some .own) {p : Addr} (hv : σ.getD j none = some (.ref p)) (hw : Own B0 B ow j p) {o : HO} {d : PyData} (hc : ∀ q, H p ≠ some (LamX.CodeO p q)) (ht : Top c.X.K B (upd H p o) p d) :
    In c He B0 B ow m (ρ.set j (some d)) σ (upd H p o) S ∧ Ex (Fz B H) (Fz B (upd H p o)) := by
  have hjl : j < m.length := (List.getElem?_eq_some_iff.mp hj).1
  have hρ : j < ρ.length := by rw [← i.fr.lm]; exact hjl
  have pG : p ∉ c.g.G := fun z => hw.2.1 (i.fr.gsub p z)
  have efz : Fz B (upd H p o) = Fz B H := fz_upd hw.1
  have ex : Ex (Fz B H) (Fz B (upd H p o)) := by rw [efz]; exact Ex.refl _
  refine ⟨⟨⟨by simp [i.fr.lm], by simp [i.fr.ls], i.fr.sub, i.fr.gsub, fun k md hk => ?_⟩, i.gi.grow hw.1 pG hc, fun a u n q => ?_, i.nw⟩, ex⟩
  · rw [getD_set hρ]
    by_cases e : j = k
    · subst e
      rw [hj] at hk
      cases hk
      rw [if_pos rfl]
      exact ⟨d, p, rfl, hv, hw, ht⟩
    · rw [if_neg e]
      exact (i.fr.slot k md hk).step ex (fun a ha => ha.1) fun a u ha q => by
        rw [upd_ne fun z => e (by rw [← hw.2.2, ← ha.2.2, z])]
        exact q
  · rw [upd_ne fun z => by rw [z, i.nw p hw.1 hw.2.1] at q; cases q]
    exact i.ev a u n q
/-- the slot's list, then the rest, then the list changed -/
def onLst (ρ : Env) (i : Nat) (k : List PyData → RS) : RS := match ρ.getD i none with | some (.list xs) => k xs | _ => .bad
def putO (ρ : Env) (i : Nat) (o : Option PyData) (S : Store) : RS := match o with | some d => .nx (ρ.set i (some d)) S | none => .bad
def fApp (xs : List PyData) (d : PyData) : Option PyData := if decide (xs.length < sizeLine) then some (.list (xs ++ [d])) else none
def dApp (i : Nat) (a : DE) : DS := fun ρ S => onLst ρ i fun xs => (a ρ S).st ρ fun d S1 => putO ρ i (fApp xs d) S1
/-- reading the slot's own list -/
theorem own_read (i1 : In c He B0 B ow m ρ σ H S) {i : Nat} (hm : m[i]? = some .own) : ∃ d p, ρ.getD i none = some d ∧ σ[i]? = some (some (.ref p)) ∧ σ.getD i none = some (.ref p) ∧ Own B0 B ow i p ∧ Top c.X.K B H p d := by
  obtain ⟨d, p, e, hv, hw, t⟩ := i1.fr.slot i _ hm
  refine ⟨d, p, e, ?_, hv, hw, t⟩
  rw [List.getD_eq_getElem?_getD] at hv
  cases h2 : σ[i]? with
  | none => rw [h2] at hv; cases hv
  | some o => rw [h2] at hv; rw [show o = some _ from hv]
theorem top_lst {K : PySem.W.Frag} {B : List Addr} {H : Hp} {p : Addr} {xs : List PyData} (t : Top K B H p (.list xs)) : ∃ vs, H p = some (.lst vs) ∧ vs.length ≤ sizeLine ∧ IsAll K (Fz B H) vs xs := by
  rcases t with ⟨ds, vs, e, a, z, b⟩ | ⟨ds, kvs, e, _⟩ | ⟨ds, kvs, e, _⟩ <;> cases e
  exact ⟨vs, a, z, b⟩
/-- the slot holds a list, for the way to go on -/
theorem on_lst {i : Nat} {d0 : PyData} {k : List PyData → RS} (e0 : ρ.getD i none = some d0) (w : Wants c x He B0 B H m' (onLst ρ i k) D) : ∃ xs, d0 = .list xs ∧ Wants c x He B0 B H m' (k xs) D := by
  unfold onLst at w
  rw [e0] at w
  cases d0 with
  | list xs => exact ⟨xs, rfl, w⟩
  | _ => exact absurd rfl w.nb
theorem top_upd {K : PySem.W.Frag} {p : Addr} {vs : List V} {xs : List PyData} (hp : p ∈ B) (hz : vs.length ≤ sizeLine) (h : IsAll K (Fz B H) vs xs) : Top K B (upd H p (.lst vs)) p (.list xs) :=
  .inl ⟨xs, vs, rfl, upd_same, hz, by rw [fz_upd hp]; exact h⟩
theorem sv_append {i : Nat} {e : Expr} {a : DE} {y : Str} {p1 p2 pos pos' : Pos} (hm : m[i]? = some .own) (ha : EV c m e a) (hp : PE c.X (.Name y p1) (tVar i))
    (hs : Pl e := by intro _ _; rfl) (hw : swapsWith (.Call (.Attribute (.Name y p1) "append" p2) [e] [] pos') none pos.line c.X.env = pure false := by rfl) (hbase : attributeBase (.Name y p1) "append" c.X.env (eval (.Name y p1) c.X.env) = eval (.Name y p1) c.X.env := by rfl)
    (hfew : ((backTo pos' (starEach [e] c.X.env)).all (fun x => !x.1) && (backToKw pos' (keywordEach [] c.X.env)).all (fun x => x.1.isSome) && decide ([e].length + ([] : List Keyword).length + (if ([] : List Keyword).isEmpty then 0 else 1) < 30)) = true := by rfl)
    (hline : (p2.endLine == pos'.line) = true := by rfl) (hx : WkX m x.mx = true := by rfl) :
    SV c x m m (.Expr (.Call (.Attribute (.Name y p1) "append" p2) [e] [] pos') pos) (dApp i a) := by
  intro He B0 B ow ρ σ H S D i1 w
  refine WS.of (ps_expr (pe_bm PySem.F.plainAttrs_list PySem.F.slot_list_append PySem.F.type_list_append mt_append hp (pa_cons we pa_nil (hs _ _)) hbase hfew hline (hs _ _) (by rw [show starEach [] c.X.env = [] from rfl]; rfl)) hw) ?_
  obtain ⟨d0, p, e0, hv, hv', hw', t⟩ := own_read i1 hm
  obtain ⟨xs, rfl, w⟩ := on_lst e0 w
  obtain ⟨vs, h1, hz, r⟩ := top_lst t
  refine ⟨.ref p, hv, .inl ⟨rfl, vs, .inl (.inl h1)⟩, ?_⟩
  refine ha σ H ρ S B0 B ow _ i1.fr i1.gi (goalS i1 hx w fun d S' v H' e ev i2 w2 gd => ?_)
  have pG : p ∉ c.g.G := fun z => hw'.2.1 (i1.fr.gsub p z)
  have h2 : H' p = some (.lst vs) := ev p _ pG h1
  unfold putO fApp at w2
  by_cases hlt : xs.length < sizeLine
  · rw [if_pos (decide_eq_true hlt)] at w2
    refine ⟨p, vs, v, rfl, rfl, h2, by rw [r.length]; exact hlt, ?_⟩
    obtain ⟨i3, ex⟩ := i2.write hm hv' hw' (lst_code h2) (top_upd (vs := vs ++ [v]) (xs := xs ++ [d]) hw'.1 (by rw [List.length_append, r.length]; show _ + 1 ≤ _; omega) ((r.mono (ev.fz i1.gi.sub)).append (.cons gd .nil)))
    exact w2.nx _ _ rfl σ _ B ow i3 ex
  · rw [if_neg (by simpa using hlt)] at w2
    exact absurd rfl w2.nb
def fExt (xs : List PyData) : PyData → Option PyData | .list ys => if sz (xs.length + ys.length) then some (.list (xs ++ ys)) else none | _ => none
def dExt (i : Nat) (a : DE) : DS := fun ρ S => onLst ρ i fun xs => (a ρ S).st ρ fun d S1 => putO ρ i (fExt xs d) S1
theorem sv_extend {i : Nat} {e : Expr} {a : DE} {y : Str} {p1 p2 pos pos' : Pos} (hm : m[i]? = some .own) (ha : EB c m e a) (hp : PE c.X (.Name y p1) (tVar i))
    (hs : Pl e := by intro _ _; rfl) (hw : swapsWith (.Call (.Attribute (.Name y p1) "extend" p2) [e] [] pos') none pos.line c.X.env = pure false := by rfl) (hbase : attributeBase (.Name y p1) "extend" c.X.env (eval (.Name y p1) c.X.env) = eval (.Name y p1) c.X.env := by rfl)
    (hfew : ((backTo pos' (starEach [e] c.X.env)).all (fun x => !x.1) && (backToKw pos' (keywordEach [] c.X.env)).all (fun x => x.1.isSome) && decide ([e].length + ([] : List Keyword).length + (if ([] : List Keyword).isEmpty then 0 else 1) < 30)) = true := by rfl)
    (hline : (p2.endLine == pos'.line) = true := by rfl) (hx : WkX m x.mx = true := by rfl) :
    SV c x m m (.Expr (.Call (.Attribute (.Name y p1) "extend" p2) [e] [] pos') pos) (dExt i a) := by
  intro He B0 B ow ρ σ H S D i1 w
  refine WS.of (ps_expr (pe_bm PySem.F.plainAttrs_list PySem.F.slot_list_extend PySem.F.type_list_extend mt_extend hp (pa_cons we pa_nil (hs _ _)) hbase hfew hline (hs _ _) (by rw [show starEach [] c.X.env = [] from rfl]; rfl)) hw) ?_
  obtain ⟨d0, p, e0, hv, hv', hw', t⟩ := own_read i1 hm
  obtain ⟨xs, rfl, w⟩ := on_lst e0 w
  obtain ⟨vs, h1, hz, r⟩ := top_lst t
  refine ⟨.ref p, hv, .inl ⟨rfl, vs, .inl (.inl h1)⟩, ?_⟩
  refine ha σ H ρ S B0 B ow _ i1.fr i1.gi (goalS i1 hx w fun d S' v H' e ev i2 w2 gd => ?_)
  have pG : p ∉ c.g.G := fun z => hw'.2.1 (i1.fr.gsub p z)
  have h2 : H' p = some (.lst vs) := ev p _ pG h1
  unfold putO fExt at w2
  cases d with
  | list ys =>
    simp only at w2
    obtain ⟨b, ws, rfl, rb, sb, zb⟩ := Rb.lst gd i2.gi.sub
    by_cases hlt : xs.length + ys.length ≤ sizeLine
    · rw [if_pos (show sz _ = true from decide_eq_true hlt)] at w2
      refine ⟨p, b, vs, ws, rfl, rfl, h2, sb H' (Evo.refl _ _), by rw [r.length, rb.length]; exact hlt, ?_⟩
      obtain ⟨i3, ex⟩ := i2.write hm hv' hw' (lst_code h2) (top_upd (vs := vs ++ ws) (xs := xs ++ ys) hw'.1 (by rw [List.length_append, r.length, rb.length]; exact hlt) ((r.mono (ev.fz i1.gi.sub)).append rb))
      exact w2.nx _ _ rfl σ _ B ow i3 ex
    · rw [if_neg (by simpa [sz] using hlt)] at w2
      exact absurd rfl w2.nb
  | _ => exact absurd rfl w2.nb
/-- target = x.pop() -/
def dPop (t : Tg) (i : Nat) : DS := fun ρ S => onLst ρ i fun xs => match xs.getLast? with
  | none => .bad
  | some d => match t.bind d (ρ.set i (some (.list xs.dropLast))) with | some ρ1 => .nx ρ1 S | none => .bad
theorem sv_pop {i : Nat} {t : Tg} {tg : Expr} {y : Str} {p1 p2 pos pos' : Pos} (hm : m[i]? = some .own) (hp : PE c.X (.Name y p1) (tVar i)) (hsl : ∀ j ∈ t.slots, j < m.length)
    (hq : ∀ te, PE c.X (.Call (.Attribute (.Name y p1) "pop" p2) [] [] pos') te → PS c.X (.Assign [tg] (.Call (.Attribute (.Name y p1) "pop" p2) [] [] pos') pos) (tAsg te (gT c.X.K t)))
    (hbase : attributeBase (.Name y p1) "pop" c.X.env (eval (.Name y p1) c.X.env) = eval (.Name y p1) c.X.env := by rfl) (hline : (p2.endLine == pos'.line) = true := by rfl) :
    SV c x m (setMd m t.slots .fz) (.Assign [tg] (.Call (.Attribute (.Name y p1) "pop" p2) [] [] pos') pos) (dPop t i) := by
  intro He B0 B ow ρ σ H S D i1 w
  refine WS.of (hq _ (pe_bm0 PySem.F.plainAttrs_list PySem.F.slot_list_pop PySem.F.type_list_pop mt_pop hp hbase hline)) ?_
  obtain ⟨d0, p, e0, hv, hv', hw', tp⟩ := own_read i1 hm
  obtain ⟨xs, rfl, w⟩ := on_lst e0 w
  obtain ⟨vs, h1, hz, r⟩ := top_lst tp
  refine ⟨.ref p, hv, .inl ⟨rfl, vs, .inl (.inl h1)⟩, ?_⟩
  cases el : xs.getLast? with
  | none => simp only [el] at w; exact absurd rfl w.nb
  | some d =>
    simp only [el] at w
    rw [List.getLast?_eq_getElem?] at el
    obtain ⟨v, hv2, iv⟩ := r.get el
    refine ⟨p, vs, v, rfl, rfl, h1, by rw [r.length]; exact hv2, ?_⟩
    obtain ⟨i3, ex⟩ := i1.write hm hv' hw' (lst_code h1) (top_upd (vs := vs.dropLast) (xs := xs.dropLast) hw'.1 (by rw [List.length_dropLast]; omega) r.dropLast)
    cases eb : t.bind d (ρ.set i (some (.list xs.dropLast))) with
    | none => rw [eb] at w; exact absurd rfl w.nb
    | some ρ1 =>
      rw [eb] at w
      exact Tg.put (X := c.X) (t := t) (tg := tg) rfl i3.fr hsl (iv.mono ex) eb fun σ' f' _ => w.nx _ _ rfl σ' _ B ow ⟨f', i3.gi, i3.ev, i3.nw⟩ ex
/-- a plain subscript as a target -/
def PlainSub (X : Cx) (o i : Expr) (pos : Pos) : Prop := ∀ v, assign (.Subscript o i pos) X.env v = (do
      let ov ← holding [v] (eval o X.env)
      let iv ← holding [v, ov] (eval i X.env)
      standAt pos
      holding [v, ov, iv] (setItem ov iv v)
      release [v, ov, iv] [])
/-- x[k] = e, x a list of the slot's own -/
def fSetI (xs : List PyData) (k d : PyData) : Option PyData := match k with | .int k => (ixN xs.length k).map fun j => .list (xs.set j d) | _ => none
def dSetI (i : Nat) (k a : DE) : DS := fun ρ S => onLst ρ i fun xs => (a ρ S).st ρ fun d S1 => (k ρ S1).st ρ fun j S2 => putO ρ i (fSetI xs j d) S2
theorem sv_setI {i : Nat} {e k : Expr} {a dk : DE} {y : Str} {p1 p2 pos : Pos} (hm : m[i]? = some .own) (ha : EV c m e a) (hk : EV c m k dk) (hp : PE c.X (.Name y p1) (tVar i))
    (hq : ∀ te g, PE c.X e te → PG c.X (.Subscript (.Name y p1) k p2) g → PS c.X (.Assign [.Subscript (.Name y p1) k p2] e pos) (tAsg te g)) (hps : PlainSub c.X (.Name y p1) k p2 := by intro _; rfl) (hx : WkX m x.mx = true := by rfl) :
    SV c x m m (.Assign [.Subscript (.Name y p1) k p2] e pos) (dSetI i dk a) := by
  intro He B0 B ow ρ σ H S D i1 w
  refine WS.of (hq _ _ we (pg_sub hp we set_list hps)) ?_
  obtain ⟨d0, p, e0, hv, hv', hw', t⟩ := own_read i1 hm
  obtain ⟨xs, rfl, w⟩ := on_lst e0 w
  obtain ⟨vs, h1, hz, r⟩ := top_lst t
  have pG : p ∉ c.g.G := fun z => hw'.2.1 (i1.fr.gsub p z)
  refine ha σ H ρ S B0 B ow _ i1.fr i1.gi (goalS i1 hx w fun d S1 v H1 e ev i2 w2 gd => ?_)
  refine ⟨.ref p, hv, ?_⟩
  refine hk σ H1 ρ S1 B0 B ow _ i2.fr i2.gi (goalS i2 hx w2 fun d2 S2 v2 H2 e2 ev2 i3 w3 gd2 => ?_)
  have h2 : H2 p = some (.lst vs) := ev2 p _ pG (ev p _ pG h1)
  unfold putO fSetI at w3
  cases gd2 with
  | int k =>
    simp only at w3
    cases q : ixN xs.length k with
    | none => rw [q] at w3; exact absurd rfl w3.nb
    | some j =>
      rw [q] at w3
      refine ⟨p, vs, k, j, rfl, rfl, h2, by rw [r.length]; exact q, ?_⟩
      obtain ⟨i4, ex⟩ := i3.write hm hv' hw' (lst_code h2) (top_upd (vs := vs.set j v) (xs := xs.set j d) hw'.1 (by rw [List.length_set]; exact hz) (((r.mono (ev.fz i1.gi.sub)).mono (ev2.fz i2.gi.sub)).set j (gd.mono (ev2.fz i2.gi.sub))))
      exact w3.nx _ _ rfl σ _ B ow i4 ex
  | _ => exact absurd rfl w3.nb
/-! the lists that all share -/
theorem paired_get {α β : Type} {F : α → β → Prop} : ∀ {l₁ : List α} {l₂ : List β} {k : Nat} {a : α}, Paired F l₁ l₂ → l₁[k]? = some a → ∃ b, l₂[k]? = some b ∧ F a b
  | _, _, _, _, .nil, h => by simp at h
  | _, _, 0, a, .cons r _, h => by simp at h; subst h; exact ⟨_, rfl, r⟩
  | _, _, k + 1, a, .cons _ t, h => by
    obtain ⟨b, h1, h2⟩ := paired_get (k := k) (a := a) t (by simpa using h)
    exact ⟨b, by simpa using h1, h2⟩
theorem paired_set {α β : Type} {F G : α → β → Prop} : ∀ {l₁ : List α} {l₂ : List β} {k : Nat} {a : α} {b : β}, Paired F l₁ l₂ → l₁.Nodup → l₁[k]? = some a → G a b → (∀ a' b', a' ≠ a → a' ∈ l₁ → F a' b' → G a' b') → Paired G l₁ (l₂.set k b)
  | _, _, _, _, _, .nil, _, h, _, _ => by simp at h
  | a0 :: l₁, _, 0, a, b, .cons r t, nd, h, hg, f => by
    simp at h
    subst h
    have nd' := List.nodup_cons.mp nd
    refine .cons hg ?_
    have aux : ∀ {l1 : List α} {l2 : List β}, (∀ y ∈ l1, y ≠ a0 ∧ y ∈ a0 :: l₁) → Paired F l1 l2 → Paired G l1 l2 := by
      intro l1 l2 hm hh
      induction hh with
      | nil => exact .nil
      | cons r t ih => exact .cons (f _ _ (hm _ (List.mem_cons_self ..)).1 (hm _ (List.mem_cons_self ..)).2 r) (ih fun y hy => hm y (List.mem_cons_of_mem _ hy))
    exact aux (fun y hy => ⟨fun e => nd'.1 (e ▸ hy), List.mem_cons_of_mem _ hy⟩) t
  | a0 :: l₁, _, k + 1, a, b, .cons r t, nd, h, hg, f => by
    have nd' := List.nodup_cons.mp nd
    have hk : l₁[k]? = some a := by simpa using h
    have ha : a ∈ l₁ := List.mem_of_getElem? hk
    exact .cons (f _ _ (fun e => nd'.1 (e ▸ ha)) (List.mem_cons_self ..) r) (paired_set t nd'.2 hk hg fun a' b' n hm => f a' b' n (List.mem_cons_of_mem _ hm))
/-- a shared list is changed -/
theorem GI.put {K : PySem.W.Frag} {g : Gx} {k : Nat} {p : Addr} (i : GI K g B H S) (hk : g.SA[k]? = some p) {vs : List V} {xs : List PyData} (hz : vs.length ≤ sizeLine) (h : IsAll K (Fz B H) vs xs) (hl : ∃ ws, H p = some (.lst ws)) : GI K g B (upd H p (.lst vs)) (S.set k xs) := by
  have hpS : p ∈ g.SA := List.mem_of_getElem? hk
  have hpB : p ∈ B := i.sub p (List.mem_append_left _ hpS)
  have nd := List.nodup_append.mp i.nd
  refine ⟨paired_set i.st nd.1 hk ⟨vs, upd_same, hz, by rw [fz_upd hpB]; exact h⟩ fun a' b' n _ ⟨ws, e1, e2, e3⟩ => ⟨ws, by rw [upd_ne n]; exact e1, e2, by rw [fz_upd hpB]; exact e3⟩, ?_, i.sub, fun a ha => ?_, i.nd, fun l hl' => ⟨by
    obtain ⟨ws, hw⟩ := hl
    rw [upd_ne fun e => absurd (e ▸ (i.cd l hl').1) (lst_code hw _)]
    exact (i.cd l hl').1, by rw [fz_upd hpB]; exact (i.cd l hl').2⟩⟩
  · intro q hq
    have ne : q.1 ≠ p := fun e => nd.2.2 p hpS q.1 (List.mem_map.mpr ⟨q, hq, rfl⟩) e.symm
    obtain ⟨ps, h1, h2, h3⟩ := i.tabs q hq
    refine ⟨ps, by rw [upd_ne ne]; exact h1, h2, fun pos cv hc => ?_⟩
    obtain ⟨cc, e1, e2⟩ := h3 pos cv hc
    refine ⟨cc, e1, ?_⟩
    obtain ⟨ws, hw⟩ := hl
    rw [upd_ne fun e => absurd (e ▸ e2) (lst_code hw _)]
    exact e2
  · by_cases e : a = p
    · subst e; rw [upd_same]; intro z; cases z
    · rw [upd_ne e]; exact i.kn a ha
theorem In.putS (i : In c He B0 B ow m ρ σ H S) {k : Nat} {p : Addr} (hk : c.g.SA[k]? = some p) {vs : List V} {xs : List PyData} (hz : vs.length ≤ sizeLine) (h : IsAll c.X.K (Fz B H) vs xs) (hl : ∃ ws, H p = some (.lst ws)) :
    In c He B0 B ow m ρ σ (upd H p (.lst vs)) (S.set k xs) ∧ Ex (Fz B H) (Fz B (upd H p (.lst vs))) := by
  have hpG : p ∈ c.g.G := List.mem_append_left _ (List.mem_of_getElem? hk)
  have ev : Evo c.g.G H (upd H p (.lst vs)) := fun a o n q => by rw [upd_ne fun (e : a = p) => n (e ▸ hpG)]; exact q
  exact ⟨⟨i.fr.evo ev, i.gi.put hk hz h hl, i.ev.trans ev, i.nw⟩, ev.fz i.gi.sub⟩
/-- x[j], x the list at place k -/
def dStIx (k : Nat) (j : DE) : DE := fun ρ S => (j ρ S).bind fun y S1 => match S1[k]? with | some xs => ofO (fIx (.list xs) y) S1 | none => .bad
theorem ev_stIx {i k : Nat} {e : Expr} {a : DE} {y : Str} {p1 pos : Pos} (hm : m[i]? = some (.st k)) (hp : PE c.X (.Name y p1) (tVar i)) (ha : EV c m e a) (hs : PlainIx e) : EV c m (.Subscript (.Name y p1) e pos) (dStIx k a) := by
  intro σ H ρ S B0 B ow Q fr gi g
  refine PD.WE.of (pe_ix ix_list hp we hs) ?_
  obtain ⟨p, hk, hv⟩ := fr.slot i _ hm
  refine ⟨.ref p, ?_, ?_⟩
  · rw [List.getD_eq_getElem?_getD] at hv
    cases h2 : σ[i]? with
    | none => rw [h2] at hv; cases hv
    | some o => rw [h2] at hv; rw [show o = some _ from hv]
  · refine ha σ H ρ S B0 B ow _ fr gi (g.bind fun d S1 v H1 _ ev1 gi1 gd1 g1 => ?_)
    obtain ⟨xs, hx, vs, h1, hz, r⟩ := paired_get gi1.st hk
    rw [hx] at g1
    simp only at g1
    cases gd1 with
    | int j =>
      cases q : fIx (.list xs) (.int j) with
      | none => rw [q] at g1; exact absurd rfl g1.not_bad
      | some z =>
        rw [q] at g1
        obtain ⟨w, hw, iw⟩ := r.atI (i := j) (d := z) q
        exact ⟨p, vs, j, w, rfl, rfl, .inl (.inl h1), hw, g1.ok0 gi1 iw⟩
    | _ => exact absurd rfl g1.not_bad
/-- x[j] = e, x the list at place k -/
def dStSet (k : Nat) (j a : DE) : DS := fun ρ S => (a ρ S).st ρ fun d S1 => (j ρ S1).st ρ fun y S2 => match S2[k]? with
  | some xs => (match fSetI xs y d with | some (.list ys) => .nx ρ (S2.set k ys) | _ => .bad)
  | none => .bad
theorem sv_stSet {i k : Nat} {e j : Expr} {a dj : DE} {y : Str} {p1 p2 pos : Pos} (hm : m[i]? = some (.st k)) (hp : PE c.X (.Name y p1) (tVar i)) (ha : EV c m e a) (hj : EV c m j dj)
    (hq : ∀ te g, PE c.X e te → PG c.X (.Subscript (.Name y p1) j p2) g → PS c.X (.Assign [.Subscript (.Name y p1) j p2] e pos) (tAsg te g)) (hps : PlainSub c.X (.Name y p1) j p2 := by intro _; rfl) (hx : WkX m x.mx = true := by rfl) :
    SV c x m m (.Assign [.Subscript (.Name y p1) j p2] e pos) (dStSet k dj a) := by
  intro He B0 B ow ρ σ H S D i1 w
  refine WS.of (hq _ _ we (pg_sub hp we set_list hps)) ?_
  refine ha σ H ρ S B0 B ow _ i1.fr i1.gi (goalS i1 hx w fun d S1 v H1 e ev i2 w2 gd => ?_)
  obtain ⟨p, hk, hv⟩ := i2.fr.slot i _ hm
  refine ⟨.ref p, ?_, ?_⟩
  · rw [List.getD_eq_getElem?_getD] at hv
    cases h2 : σ[i]? with
    | none => rw [h2] at hv; cases hv
    | some o => rw [h2] at hv; rw [show o = some _ from hv]
  · refine hj σ H1 ρ S1 B0 B ow _ i2.fr i2.gi (goalS i2 hx w2 fun d2 S2 v2 H2 e2 ev2 i3 w3 gd2 => ?_)
    obtain ⟨xs, hx2, vs, h1, hz, r⟩ := paired_get i3.gi.st hk
    rw [hx2] at w3
    simp only at w3
    cases gd2 with
    | int q =>
      unfold fSetI at w3
      simp only at w3
      cases q2 : ixN xs.length q with
      | none => rw [q2] at w3; exact absurd rfl w3.nb
      | some n =>
        rw [q2] at w3
        refine ⟨p, vs, q, n, rfl, rfl, h1, by rw [r.length]; exact q2, ?_⟩
        obtain ⟨i4, ex⟩ := i3.putS hk (vs := vs.set n v) (xs := xs.set n d) (by rw [List.length_set]; exact hz) (r.set n (gd.mono (ev2.fz i2.gi.sub))) ⟨vs, h1⟩
        exact w3.nx _ _ rfl σ _ B ow i4 ex
    | _ => exact absurd rfl w3.nb
end
end PD
/-! PDm: raise, try, an exception in hand. -/
namespace PD
open PySem PySem.Spec PyProof.Rows L2
/-- C() -/
theorem pmk_own0 {X : Cx} {C : Addr} {bmB : List Value} {B newId initId : String} {x : Str} {p pos : Pos} (F : ExcBaseFacts B newId initId bmB) (q : PySem.W.excIn X.K C bmB newId = true) (gC : X.mg x = some (.ref C)) (kC : PySem.W.keepIn X.K (.ref C) = true) (r : Raises X (.ref C)) (hg : Gl X x)
    (hdb : (x == ("__debug__" : Str)) = false := by decide) : PMk X (.Call (.Name x p) [] [] pos) (fun _ H Q => Q (.ref C) none H) := by
  intro pins s σ H Q I h
  refine wpAny_Call_Name_kw (ld_glob I hg gC ?_ hdb)
  refine PySem.W.callWith_K0 I.kIn kC ?_
  show wpAny _ _ (call (.ref C) []) _ _ _
  obtain ⟨bm, N, nm, qn, bs, hdct, sn, sub, ab, col, dd, k0, k1, k2, k3, k5, mN, hC, hN, hni, T⟩ := exc_obj I.kIn q
  refine wpAny_call_exc_subT F T hC hN hni (fun h' e hm => ?_) (Nat.zero_le _)
  exact mk_of I hm r h (I.hok.gone hm.new)
/-- a class of errors without fields -/
structure Ex0 (K : PySem.W.Frag) (mg : Str → Option Value) (x : Str) (C : Addr) : Prop where
  q : PySem.W.excIn K C [.type "ValueError", .type "Exception", .type "BaseException", .type "object"] "ValueError.__new__" = true
  g : mg x = some (.ref C)
  k : PySem.W.keepIn K (.ref C) = true
  b : PySem.W.subIn K (.ref C) (.type "BaseException") = some true
  t : PySem.W.typeIn K (.ref C) = some (.type "type")
section
variable {c : Cc} {x : Fx} {m m' m1 m2 : List Md} {He : Hp} {B0 B : List Addr} {ow : Addr → Nat} {ρ : Env} {σ : L2.St} {H : Hp} {S : Store} {D : Ends}
def dRaise0 (n : Str) : DS := fun ρ S => .exc ⟨n, []⟩ ρ S
theorem sv_raise0 {n : Str} {C : Addr} {p pos pos2 : Pos} (T : Ex0 c.X.K c.X.mg n C) (hc : c.X.calm = true) (tk : Takes c.X c.W) (hg : Gl c.X n) (hdb : (n == ("__debug__" : Str)) = false := by decide) (hx : WkX m x.mx = true := by rfl) :
    SV c x m m1 (.Raise (some (.Call (.Name n p) [] [] pos)) none pos2) (dRaise0 n) := by
  intro He B0 B ow ρ σ H S D i w
  refine WS.of (ps_raise hc tk (pmk_own0 PySem.F.excBase_ValueError T.q T.g T.k (raises_own T.b T.t) hg hdb)) ?_
  exact w.ex _ _ _ rfl σ H B ow _ _ (MxOk.of i.fr hx) i.gi i.ev i.nw i.fr.sub (Ex.refl _) ⟨C, T.g, rfl, .inl ⟨rfl, rfl⟩⟩
/-! errors with one field -/
/-- __init__'s promise: self.f = the argument -/
def spInit (K : PySem.W.Frag) (C : Addr) (f : Str) : Sp := fun vs H Q _ => ∃ (a : Addr) (v : V), vs = [.ref a, v] ∧ OexC K C ∧ PySem.W.findIn K (.ref C) f = some none ∧ H a = some (exo a C none) ∧
  ∀ dx, H dx = none → dx ≠ a → Q .non (upd (upd H dx (exd dx [(f, v)])) a (exo a C (some dx)))
/-- a class of errors with the field f -/
structure Ex1 (X : Cx) (k : Nat) (n : Str) (C fI : Addr) (fd : FuncData) (f : Str) (ps : List Str) : Prop where
  T : OexC X.K C
  g : X.mg n = some (.ref C)
  i : PySem.W.findIn X.K (.ref C) "__init__" = some (some (.ref fI))
  ti : PySem.W.typeIn X.K (.ref fI) = some (.type "function")
  no : PySem.W.findIn X.K (.ref C) f = some none
  F : FnOk X.prog X.w X.K X.mg X.base CX0 k fI fd ps (spInit X.K C f)
  b : Binds X.K fd ps []
def dRaise1 (n f : Str) (a : DE) : DS := fun ρ S => (a ρ S).st ρ fun d S1 => .exc ⟨n, [(f, d)]⟩ ρ S1
theorem sv_raise1 {n f : Str} {C fI : Addr} {fd : FuncData} {ps : List Str} {k : Nat} {e : Expr} {a : DE} {p pos pos2 : Pos} (T : Ex1 c.X k n C fI fd f ps) (hr : Room (k + 1) c.X.A) (hc : c.X.calm = true) (tk : Takes c.X c.W) (hg : Gl c.X n) (ha : EV c m e a) (hs : Pl e := by intro _ _; rfl) (hdb : (n == ("__debug__" : Str)) = false := by decide) (hx : WkX m x.mx = true := by rfl) :
    SV c x m m1 (.Raise (some (.Call (.Name n p) [e] [] pos)) none pos2) (dRaise1 n f a) := by
  intro He B0 B ow ρ σ H S D i w
  refine WS.of (ps_raise hc tk (pmk_oex T.T T.i T.ti T.F hr T.b .nil (fun _ _ _ _ _ _ _ h => h.elim) hg T.g (pa_cons we pa_nil (hs _ _)) hdb (hs _ _) (by rw [show starEach [] c.X.env = [] from rfl]; rfl))) ?_
  refine ha σ H ρ S B0 B ow _ i.fr i.gi (goalS i hx w fun d S' v H' e ev i2 w2 gd => ?_)
  refine ⟨(by show 1 ≤ 1000; decide), fun q hq => ⟨q, v, rfl, T.T, T.no, upd_same, fun dx hdx ne => ⟨rfl, dx, [(f, v)], upd_same, by rw [upd_ne ne, upd_same], ?_, ?_⟩⟩⟩
  · rw [upd_ne ne] at hdx
    exact hdx
  · rw [upd_ne ne] at hdx
    -- the heap behind it: H', and the exception's own dict
    have eH : upd (del (upd (upd (upd H' q (exo q C none)) dx (exd dx [(f, v)])) q (exo q C (some dx))) q) dx (.xd [(f, v)]) = upd H' dx (.xd [(f, v)]) := by
      funext b
      by_cases e1 : b = dx
      · subst e1; rw [upd_same, upd_same]
      · rw [upd_ne e1, upd_ne e1]
        by_cases e2 : b = q
        · subst e2; rw [del_same, hq]
        · rw [del_ne e2, upd_ne e2, upd_ne e1, upd_ne e2]
    rw [eH]
    have ex := Ex.new (o := HO.xd [(f, v)]) hdx
    refine w2.ex _ _ _ rfl σ _ B ow _ _ (MxOk.of (i2.fr.evo ex.evo) hx) (i2.gi.ex ex) (i2.ev.trans ex.evo) i2.nw i2.fr.sub ex.fz ⟨C, T.g, rfl, .inr ⟨dx, [(f, v)], rfl, fz_new i2.gi.kn hdx, rfl, .cons (gd.mono ex.fz) .nil⟩⟩
/-- __init__(self, f): self.f = f -/
theorem init_ok {P : Program} {w : World} {K : PySem.W.Frag} {mg : Str → Option Value} {base : Heap} {C fI : Addr} {fd : FuncData} {qual f a1 a2 : Str} {st : Stmt} {p1 p2 p3 p4 pos : Pos} (F : Fun K "__init__" qual st fI fd) (S : FnScope [a1, a2] [a1, a2] (defScope st))
    (hb : defBody st = [.Assign [.Attribute (.Name a1 p1) f p2] (.Name a2 p3) p4]) (h1 : Vis (defScope st) a1) (h2 : Vis (defScope st) a2) (d1 : (a1 == ("__debug__" : Str)) = false) (d2 : (a2 == ("__debug__" : Str)) = false) (e1 : (a1 == ("__classdict__" : Str)) = false) (e2 : (a2 == ("__classdict__" : Str)) = false) :
    FnOk P w K mg base CX0 1 fI fd [a1, a2] (spInit K C f) := by
  refine F.ok S (fun vs H Q E h => ?_) (fun cdv A outer s H vs Q E hr h => ?_)
  · obtain ⟨a, v, rfl, _⟩ := h
    rfl
  · obtain ⟨a, v, rfl, T, no, ha, q⟩ := h
    rw [hb]
    refine ⟨_, pss_one (ps_ost (pe_var (i := 0) rfl h1 d1 e1) (pe_var (i := 1) rfl h2 d2 e2)), ?_⟩
    exact ⟨v, rfl, .ref a, rfl, a, C, rfl, T, no, .inl ⟨ha, fun dx n ne => q dx n ne⟩⟩
/-! ### try .. except C as n -/
/-- exceptions are not let out -/
def RS.calm (r : RS) : RS := match r with | .exc _ _ _ => .bad | .brk _ _ => .bad | r => r
/-- what a clause takes: the names known, which of them it takes -/
def dTry (cs : List Str) (sub : Str → Bool) (db : DS) (dh : Xc → DS) : DS := fun ρ S => match db ρ S with
  | .exc xc ρ' S' => if cs.contains xc.cls then (if sub xc.cls = true then (dh xc ρ' S').calm else .exc xc ρ' S') else .bad
  | r => r
def noEa (m : List Md) : Bool := m.all fun k => decide (k ≠ .ea)
theorem Frame.setE {K : PySem.W.Frag} {g g' : Gx} (hS : g'.SA = g.SA) (hG : g'.G = g.G) (hL : g'.L = g.L) (f : Frame K g B0 B ow m ρ σ H) (h : noEa m = true) : Frame K g' B0 B ow m ρ σ H := by
  refine ⟨f.lm, f.ls, f.sub, by rw [hG]; exact f.gsub, fun i md hi => ?_⟩
  have q := f.slot i md hi
  have ne := of_decide_eq_true (List.all_eq_true.mp h md (List.mem_of_getElem? hi))
  cases md with
  | ea => exact absurd rfl ne
  | st k => obtain ⟨p, h1, h2⟩ := q; exact ⟨p, by rw [hS]; exact h1, h2⟩
  | lm => obtain ⟨l, h1, h2⟩ := q; exact ⟨l, by rw [hL]; exact h1, h2⟩
  | _ => exact q
theorem GI.setE {K : PySem.W.Frag} {g g' : Gx} (hS : g'.SA = g.SA) (hT : g'.T = g.T) (hL : g'.L = g.L) (i : GI K g B H S) : GI K g' B H S := by
  have hG : g'.G = g.G := by unfold Gx.G; rw [hS, hT]
  exact ⟨by rw [hS]; exact i.st, by rw [hT]; exact i.tabs, by rw [hG]; exact i.sub, i.kn, by rw [hG]; exact i.nd, by rw [hL]; exact i.cd⟩
abbrev Gx.withE (g : Gx) (a : Addr) (xc : Xc) (d : Option Addr) : Gx := ⟨g.SA, g.T, some (a, xc, d), g.L⟩
/-- the context of an except suite -/
abbrev Cc.suite (c : Cc) (a : Addr) (oe : Obj) (d : Option Addr) (pn : List (Addr × Obj)) (xc : Xc) : Cc := ⟨c.g.withE a xc d, c.X.suite a ((a, oe) :: pn), fun _ _ _ _ => False⟩
theorem sv_tryAs {n : Str} {en : Str} {CA : Addr} {i : Nat} {cs : List Str} {sub : Str → Bool} {body suite : List Stmt} {b₀ : Stmt} {np pos pos' : Pos} {db : DS} {dh : Xc → DS} {mh : List Md}
    (hst : c.X.stack = c.X.env :: c.X.outer) (hf : c.X.env.frame = some c.X.env.locals) (hN : c.X.N.Nodup) (hi : c.X.N[i]? = some n) (hln : c.X.env.kindOf n = some .local) (hc : Names c.X en (.ref CA)) (tk : Takes c.X c.W) (hil : i < mh.length)
    (hsub : ∀ y ∈ cs, ∀ E, c.X.mg y = some (.ref E) → PySem.W.exmOne c.X.K (.ref E) (.ref CA) = some (sub y)) (hno : noEa mh = true)
    (hb : ∀ W pn xe, Takes (c.X.tr pn xe) W → PassesOwn (model c.X.prog c.X.w) c.X.A c.X.env xe → SVs ⟨c.g, c.X.tr pn xe, W⟩ { x with mx := some mh } m m' body db)
    (hd : ∀ a oe d pn xc E, Zc (.ref E) d oe → (∃ vs, oe.data = .fields vs) → c.X.mg xc.cls = some (.ref E) → xc.cls ∈ cs → SVs (c.suite a oe d pn xc) { x with mx := none } (mh.set i .ea) m2 (b₀ :: suite) (dh xc))
    (hm2 : Wk (m2.set i .un) m' = true) (hno2 : noEa (m2.set i .un) = true) (hi2 : i < m2.length) (hx : WkX mh x.mx = true) :
    SV c x m m' (.Try body [.ExceptHandler (some (.Name en np)) (some n) (b₀ :: suite) pos'] [] [] pos) (dTry cs sub db dh) := by
  intro He B0 B ow ρ σ H S D i1 w
  refine WS.of (ps_try_as (tb := fun W D σ H => ∀ pn xe, Takes (c.X.tr pn xe) W → PassesOwn (model c.X.prog c.X.w) c.X.A c.X.env xe → WSs (c.X.tr pn xe) body D σ H)
    (ts := fun a cls d D σ H => ∀ oe pn, Zc cls d oe → (∃ vs, oe.data = .fields vs) → WSs (c.X.suite a ((a, oe) :: pn)) (b₀ :: suite) D σ H) hst hf hN hi hln hc tk
    (fun W pn xe t po => ⟨fun pins s σ H D I h => (h pn xe t po).go pins s I⟩) (fun a oe cls d pn hz hv => ⟨fun pins s σ H D I h => (h oe pn hz hv).go pins s I⟩)) ?_
  intro pn xe t po
  refine hb _ pn xe t po He B0 B ow ρ σ H S _ ⟨i1.fr, i1.gi, i1.ev, i1.nw⟩ ⟨fun ρ' S' e σ' H' B' ow' i2 ex => ?_, fun d S' e => ?_, fun ρ' S' e σ' H' B' ow' i2 ex => ?_, fun xc ρ' S' e σ' H' B' ow' cls dd mxo gi ev nw sb exx xr => ?_, fun e => ?_⟩
  · exact w.nx ρ' S' (by simp only [dTry, e]) σ' H' B' ow' ⟨i2.fr, i2.gi, i2.ev, i2.nw⟩ ex
  · exact w.rt d S' (by simp only [dTry, e])
  · exact w.bk ρ' S' (by simp only [dTry, e]) σ' H' B' ow' ⟨i2.fr, i2.gi, i2.ev, i2.nw⟩ ex
  · -- the exception has come
    obtain ⟨E, g1, rfl, fsr⟩ := xr
    have nb := w.nb
    by_cases hcs : xc.cls ∈ cs
    · refine ⟨sub xc.cls, hsub _ hcs E g1, fun hs a ha oe pn2 hz hv => ?_, fun hs => ?_⟩
      · have er : dTry cs sub db dh ρ S = (dh xc ρ' S').calm := by
          simp only [dTry, e]
          rw [if_pos (List.contains_iff_mem.mpr hcs), if_pos hs]
        rw [er] at w
        have fr' : Frame c.X.K (c.g.withE a xc dd) B0 B' ow' mh ρ' σ' H' := Frame.setE (g := c.g) rfl rfl rfl mxo hno
        have gi' : GI c.X.K (c.g.withE a xc dd) B' H' S' := GI.setE (g := c.g) rfl rfl rfl gi
        have hρ : i < ρ'.length := by rw [← mxo.lm]; exact hil
        have hσ : i < σ'.length := by rw [mxo.ls]; exact hρ
        have fr2 : Frame c.X.K (c.g.withE a xc dd) B0 B' ow' (mh.set i .ea) ρ' (σ'.set i (some (.ref a))) H' := by
          refine ⟨by rw [List.length_set]; exact fr'.lm, by rw [List.length_set]; exact fr'.ls, fr'.sub, fr'.gsub, fun j md hj => ?_⟩
          rw [getD_set hσ]
          by_cases ej : i = j
          · subst ej
            rw [List.getElem?_set_self hil] at hj
            cases hj
            rw [if_pos rfl]
            exact ⟨a, xc, dd, rfl, rfl, fsr⟩
          · rw [List.getElem?_set_ne ej] at hj
            rw [if_neg ej]
            exact fr'.slot j md hj
        refine hd a oe dd pn2 xc E hz hv g1 hcs He B0 B' ow' ρ' _ H' S' _ ⟨fr2, gi', ev, nw⟩ ⟨fun ρ3 S3 e3 σ3 H3 B3 ow3 i3 ex3 => ?_, fun d S3 e3 v H3 ev3 gi3 rs => ?_, fun ρ3 S3 e3 σ3 H3 B3 ow3 i3 ex3 => ?_, fun xc3 ρ3 S3 e3 => ?_, fun e3 => ?_⟩
        · refine w.nx ρ3 S3 (by rw [e3]; rfl) _ H3 B3 ow3 ⟨(Frame.setE (g := c.g.withE a xc dd) (g' := c.g) rfl rfl rfl (i3.fr.unk hi2) hno2).weak hm2, GI.setE (g := c.g.withE a xc dd) (g' := c.g) rfl rfl rfl i3.gi, i3.ev, i3.nw⟩ (exx.trans ex3)
        · refine w.rt d S3 (by rw [e3]; rfl) v H3 ev3 (GI.setE (g := c.g.withE a xc dd) (g' := c.g) rfl rfl rfl gi3) ?_
          unfold ResOk at rs ⊢
          split at rs
          · rename_i q
            rw [if_pos q]
            obtain ⟨p, r1, r2, r3, r4⟩ := rs
            exact ⟨p, r1, r2, r3, GI.setE (g := c.g.withE a xc dd) (g' := c.g) rfl rfl rfl r4⟩
          · rename_i q
            rw [if_neg q]
            exact rs
        · exact absurd (by rw [e3]; rfl) w.nb
        · exact absurd (by rw [e3]; rfl) w.nb
        · exact absurd (by rw [e3]; rfl) w.nb
      · have er : dTry cs sub db dh ρ S = .exc xc ρ' S' := by
          simp only [dTry, e]
          rw [if_pos (List.contains_iff_mem.mpr hcs), if_neg (by rw [hs]; simp)]
        exact w.ex xc ρ' S' er σ' H' B' ow' _ dd (MxOk.of mxo hx) gi ev nw sb exx ⟨E, g1, rfl, fsr⟩
    · exact absurd (by simp only [dTry, e]; rw [if_neg (fun z => hcs (List.contains_iff_mem.mp z))]) nb
  · exact w.nb (by simp only [dTry, e])
/-! ### an exception in hand -/
theorem call_isX {X : Cx} {a D : Addr} {oe : Obj} {d : Option Addr} {pn : List (Addr × Obj)} (C : ExcC X.K D) (hz : Zc (.ref D) d oe) (hf : ∃ vs, oe.data = .fields vs) :
    CallR (X.suite a ((a, oe) :: pn)) (.builtin "isinstance") (fun xs H Q => (∀ dd, d = some dd → ∃ fs, H dd = some (.xd fs)) ∧ rIsE X.K D a xs H Q) := by
  intro pins s σ H xs us Q I r h
  obtain ⟨hdd, c, cv, b, rfl, hcv, e, q⟩ := h
  cases r with
  | cons rx rr =>
    cases rr with
    | cons rt rr =>
      cases rr
      cases rx
      have ec := hcv _ rt
      subst ec
      obtain ⟨hget, _⟩ := I.pin (a, oe) (List.mem_append.mpr (.inl List.mem_cons_self))
      obtain ⟨vs, hv⟩ := hf
      have J : ∃ od, PySem.W.InstAt s.heap a oe D od := by
        cases d with
        | none =>
          refine ⟨none, hget, hz.1, by unfold PySem.W.notCls; rw [hv] <;> rfl, ?_⟩
          rw [hz.2]
          trivial
        | some dd =>
          obtain ⟨fs, hfs⟩ := hdd dd rfl
          have hx : ObjOk X.prog X.w H s.heap dd (.xd fs) := I.hok dd _ hfs
          obtain ⟨mA, hns, hr⟩ := hx
          obtain ⟨od, ho, hl⟩ := lookIn_ns hns
          refine ⟨some od, hget, hz.1, by unfold PySem.W.notCls; rw [hv] <;> rfl, ?_⟩
          rw [hz.2]
          exact ho
      obtain ⟨od, J⟩ := J
      have hcl : (PySem.W.clsIn X.K D).isSome = true := by
        obtain ⟨cd, hc, _⟩ := PySem.W.any_some C.hd
        rw [hc]; rfl
      exact PySem.W.kia_one (PySem.W.kitx_exc hcl C.hg C.hk C.hs C.ha C.hn C.ht C.hm) I.kIn J e (fun z => nomatch z) fun tk => ⟨.bl b, H, I.kept (t' := tk) fun _ _ z => z, rfl, q⟩
/-- the slot that holds the exception -/
theorem ea_read {K : PySem.W.Frag} {g : Gx} {a : Addr} {xc : Xc} {d : Option Addr} (fr : Frame K (g.withE a xc d) B0 B ow m ρ σ H) {i : Nat} (hm : m[i]? = some .ea) : σ[i]? = some (some (.ref a)) ∧ FsRep K (Fz B H) xc d := by
  obtain ⟨a', x', d', e, hv, f⟩ := fr.slot i _ hm
  cases e
  refine ⟨?_, f⟩
  rw [List.getD_eq_getElem?_getD] at hv
  cases h2 : σ[i]? with
  | none => rw [h2] at hv; cases hv
  | some o => rw [h2] at hv; rw [show o = some _ from hv]
def dXc (v : Option PyData) : DE := fun _ S => ofO v S
/-- isinstance(e, C) -/
theorem ev_isX {a D : Addr} {oe : Obj} {d : Option Addr} {pn : List (Addr × Obj)} {xc : Xc} {i : Nat} {y C : Str} {v : V} {cv : Value} {b : Bool} {p1 p2 p pos : Pos} (T : ExcC c.X.K D) (hz : Zc (.ref D) d oe) (hf : ∃ vs, oe.data = .fields vs)
    (hm : m[i]? = some .ea) (hp : PE (c.suite a oe d pn xc).X (.Name y p1) (tVar i)) (hC : PE (c.suite a oe d pn xc).X (.Name C p2) (tC v)) (hr : ∀ u, RelV v u → u = cv) (hk : PySem.W.kitOne c.X.K (.ref D) cv = some b)
    (hg : Gl (c.suite a oe d pn xc).X "isinstance") (hmg : c.X.mg "isinstance" = none) : EV (c.suite a oe d pn xc) m (.Call (.Name "isinstance" p) [.Name y p1, .Name C p2] [] pos) (dXc (some (.bool b))) := by
  intro σ H ρ S B0 B ow Q fr gi g
  refine PD.WE.of (pe_callB (call_isX T hz hf) hg hmg PyProof.Rows.boot_isinstance (pa_cons hp (pa_cons hC pa_nil))) ?_
  obtain ⟨h1, h2⟩ := ea_read fr hm
  refine ⟨.ref a, h1, ?_⟩
  refine ⟨fun dd e => ?_, v, cv, b, rfl, hr, hk, g.ok0 gi (.bl b)⟩
  rcases h2 with ⟨_, e2⟩ | ⟨d', fs, e2, e3, _⟩
  · rw [e2] at e; cases e
  · rw [e2] at e; cases e
    exact ⟨fs, fz_le _ _ e3⟩
theorem lookup_is {K : PySem.W.Frag} {f : Str} : ∀ {fs : List (Str × V)} {gs : List (Str × PyData)} {d : PyData}, fs.map (·.1) = gs.map (·.1) → IsAll K H (fs.map (·.2)) (gs.map (·.2)) → gs.lookup f = some d → ∃ v, fs.lookup f = some v ∧ Is K H v d
  | [], [], d, _, _, h => by cases h
  | [], _ :: _, d, e, _, _ => by cases e
  | _ :: _, [], d, e, _, _ => by cases e
  | (n, v) :: fs, (n', d') :: gs, d, e, h, l => by
    simp only [List.map_cons, List.cons.injEq] at e h
    obtain ⟨rfl, e⟩ := e
    cases h with
    | cons h1 h2 =>
      rw [List.lookup_cons] at l ⊢
      cases q : (f == n) with
      | true => rw [q] at l; cases l; exact ⟨v, rfl, h1⟩
      | false => rw [q] at l; exact lookup_is e h2 l
/-- e.f -/
theorem ev_fld {a D : Addr} {oe : Obj} {d : Option Addr} {pn : List (Addr × Obj)} {xc : Xc} {i : Nat} {y f : Str} {p1 pos : Pos} (T : XfC c.X.K D) (hno : PySem.W.findIn c.X.K (.ref D) f = some none) (hz : Zc (.ref D) d oe) (hf : ∃ vs, oe.data = .fields vs)
    (hm : m[i]? = some .ea) (hp : PE (c.suite a oe d pn xc).X (.Name y p1) (tVar i)) (hb : attributeBase (.Name y p1) f c.X.env (eval (.Name y p1) c.X.env) = eval (.Name y p1) c.X.env := by rfl) : EV (c.suite a oe d pn xc) m (.Attribute (.Name y p1) f pos) (dXc (xc.fs.lookup f)) := by
  intro σ H ρ S B0 B ow Q fr gi g
  refine PD.WE.of (pe_xf T hno hz hf hp hb) ?_
  obtain ⟨h1, h2⟩ := ea_read fr hm
  refine ⟨.ref a, h1, rfl, rfl, ?_⟩
  unfold dXc at g
  cases l : xc.fs.lookup f with
  | none => rw [l] at g; exact absurd rfl g.not_bad
  | some z =>
    rw [l] at g
    rcases h2 with ⟨e1, _⟩ | ⟨dd, fs, e2, e3, e4, e5⟩
    · rw [e1] at l; cases l
    · obtain ⟨v, l2, iv⟩ := lookup_is e4 e5 l
      exact ⟨dd, fs, v, e2, fz_le _ _ e3, l2, g.ok0 gi iv⟩
end
end PD
/-! PDn: defs; lambdas handed in. -/
namespace PD
open PySem PySem.Spec PyProof.Rows L2
def RS.fin (fr : Bool) : RS → R PyData
  | .ret d S => .ok d S
  | .nx _ S => if fr = true then .bad else .ok .none S
  | .brk _ _ => .bad
  | .exc x _ S => .exc x S
  | .bad => .bad
def env0 (n : Nat) (ds : List PyData) : Env := ds.map some ++ List.replicate (n - ds.length) none
def mds0 (n : Nat) (ks : List Md) : List Md := ks ++ List.replicate (n - ks.length) .fz
theorem env0_out {n i : Nat} {ds : List PyData} (h : ds.length ≤ i) : (env0 n ds).getD i none = none := by
  unfold env0
  rw [List.getD_eq_getElem?_getD, List.getElem?_append_right (by simpa using h), List.getElem?_replicate]
  split <;> rfl
def dFn (fr : Bool) (n : Nat) (body : DS) : List PyData → Store → R PyData := fun ds S => (body (env0 n ds) S).fin fr
/-- modes that an argument may have -/
def argMd : Md → Bool | .fz => true | .st _ => true | .cs => true | _ => false
theorem ArgsOk.lenD {K : PySem.W.Frag} {g : Gx} {B : List Addr} {H : Hp} : ∀ {ks : List Md} {vs : List V} {ds : List PyData}, ArgsOk K g B H ks vs ds → ds.length = ks.length
  | _, _, _, .nil => rfl
  | _, _, _, .cons _ r => by simp [ArgsOk.lenD r]
theorem ArgsOk.slot {K : PySem.W.Frag} {g : Gx} {B0 B : List Addr} {ow : Addr → Nat} {H : Hp} : ∀ {ks : List Md} {vs : List V} {ds : List PyData} {i j : Nat} {md : Md}, ArgsOk K g B H ks vs ds → ks.all argMd = true → ks[i]? = some md → SlotOk K g B0 B ow H j md ((ds.map some)[i]?.getD none) ((vs.map some)[i]?.getD none)
  | _, _, _, i, j, md, .nil, _, h => by simp at h
  | _, _, _, 0, j, md, .cons h r, ha, e => by
    simp only [List.getElem?_cons_zero, Option.some.injEq] at e
    subst e
    rename_i k ks v vs d ds
    rw [List.all_cons, Bool.and_eq_true] at ha
    cases k with
    | fz => intro d' e'; cases e'; exact ⟨v, rfl, h⟩
    | st k => obtain ⟨rfl, p, h1, h2⟩ := h; exact ⟨p, h1, by rw [h2]; rfl⟩
    | cs => obtain ⟨a, vs', ds', rfl, rfl, h1, h2, h3⟩ := h; exact ⟨a, vs', ds', rfl, rfl, h1, h2, h3⟩
    | _ => exact absurd ha.1 (by simp [argMd])
  | _, _, _, i + 1, j, md, .cons h r, ha, e => by
    rw [List.all_cons, Bool.and_eq_true] at ha
    simpa using ArgsOk.slot (i := i) (j := j) r ha.2 (by simpa using e)
theorem frame0 {K : PySem.W.Frag} {g : Gx} {B : List Addr} {H : Hp} {S : Store} {ks : List Md} {vs : List V} {ds : List PyData} {N : List Str} (gi : GI K g B H S) (a : ArgsOk K g B H ks vs ds) (ha : ks.all argMd = true) (hn : ks.length ≤ N.length) :
    Frame K g B B (fun _ => 0) (mds0 N.length ks) (env0 N.length ds) (L2.start N vs) H := by
  have l1 := a.length
  have l2 := a.lenD
  refine ⟨?_, ?_, fun _ h => h, gi.sub, fun i md hi => ?_⟩
  · unfold mds0 env0; simp [l2]
  · unfold env0 L2.start; simp [l1, l2]
  · by_cases h : i < ks.length
    · have e1 : ks[i]? = some md := by
        unfold mds0 at hi
        rwa [List.getElem?_append_left h] at hi
      have := a.slot (B0 := B) (ow := fun _ => 0) (j := i) ha e1
      unfold env0 L2.start
      rw [List.getD_eq_getElem?_getD, List.getD_eq_getElem?_getD, List.getElem?_append_left (by simp [l2]; exact h), List.getElem?_append_left (by simp [l1]; exact h)]
      exact this
    · have : md = .fz := by
        unfold mds0 at hi
        rw [List.getElem?_append_right (by omega), List.getElem?_replicate] at hi
        split at hi
        · cases hi; rfl
        · cases hi
      subst this
      intro d e
      rw [env0_out (by omega)] at e
      cases e
/-- the context of a def's body -/
abbrev fnC (g : Gx) (P : Program) (w : World) (K : PySem.W.Frag) (mg : Str → Option Value) (base : Heap) (N : List Str) (qual : Str) (st : Stmt) (f : Addr) (cdv : Value) (A : Around) (outer : List PySem.Env) (s : Shared) (H : Hp) (E : XK) : Cc :=
  ⟨g, cxOf (L2.CX P w) P w K mg base N qual (defScope st) f cdv A outer s H E, fun cls d _ H' => E cls d H'⟩
/-- as Fun, the code object told -/
structure FunC (K : PySem.W.Frag) (x qual : Str) (st : Stmt) (f : Addr) (fd : FuncData) (cA : Addr) : Prop where
  ex : ∃ (oc : Value) (od : Option Addr) (kV doc pm : Value) (an : Option Addr) (ct : Value) (osl : Array (Option Value)),
    fd = PySem.W.fnOf x qual (defArgs st) (defBody st) (defScope st) .none kV doc pm an (.ref cA) ct ∧ K.lookup f = some ⟨oc, od, .func fd, osl⟩ ∧ PySem.W.codeIn K (.ref cA) qual = true
  kp : PySem.W.keepIn K (.ref f) = true
theorem FunC.fn {K : PySem.W.Frag} {x qual : Str} {st : Stmt} {f : Addr} {fd : FuncData} {cA : Addr} (F : FunC K x qual st f fd cA) : Fun K x qual st f fd := by
  obtain ⟨⟨oc, od, kV, doc, pm, an, ct, osl, e, lk, hc⟩, kp⟩ := F
  exact ⟨⟨oc, od, kV, doc, pm, an, _, ct, osl, e, lk, hc⟩, kp⟩
theorem func_mk {K : PySem.W.Frag} {x qual : Str} {st : Stmt} {f cA : Addr} {oc : Value} {od an : Option Addr} {osl : Array (Option Value)} {kV doc pm ct : Value} (l : K.lookup f = some ⟨oc, od, .func (PySem.W.fnOf x qual (defArgs st) (defBody st) (defScope st) .none kV doc pm an (.ref cA) ct), osl⟩)
    (c : PySem.W.codeIn K (.ref cA) qual = true) (k : PySem.W.keepIn K (.ref f) = true) : FunC K x qual st f (PySem.W.fnOf x qual (defArgs st) (defBody st) (defScope st) .none kV doc pm an (.ref cA) ct) cA := ⟨⟨oc, od, kV, doc, pm, an, ct, osl, rfl, l, c⟩, k⟩
theorem FunC.okX {P : Program} {w : World} {K : PySem.W.Frag} {mg : Str → Option Value} {base : Heap} {x qual : Str} {st : Stmt} {f cA : Addr} {fd : FuncData} {N ps : List Str} {k : Nat} {sp : Sp} (F : FunC K x qual st f fd cA) (S : FnScope N ps (defScope st)) (len : ∀ vs H Q E, sp vs H Q E → vs.length = ps.length)
    (hbody : ∀ (A : Around) (outer : List PySem.Env) (s : Shared) (H : Hp) (vs : List V) (Q : VK) (E : XK), Room k (A.deeper (envOfC qual (defScope st) s.heap.objs.size f (.ref cA))) → sp vs H Q E →
      ∃ t, PSs (cxOf (L2.CX P w) P w K mg base N qual (defScope st) f (.ref cA) A outer s H E) (defBody st) t ∧ t { nx := fun _ H' => Q .non H', rt := Q } (L2.start N vs) H) : FnOk P w K mg base (L2.CX P w) (k + 1) f fd ps sp := by
  obtain ⟨oc, od, kV, doc, pm, an, ct, osl, rfl, lk, hcd⟩ := F.ex
  exact fn_of lk hcd S len fun A outer s H vs Q E hr hsp => hbody A outer s H vs Q E hr hsp
theorem fn_den {P : Program} {w : World} {K : PySem.W.Frag} {mg : Str → Option Value} {base : Heap} {g : Gx} {x qual : Str} {st : Stmt} {f : Addr} {fd : FuncData} {N ps : List Str} {k : Nat} {ks : List Md} {fr : Bool} {m1 : List Md} {db : DS}
    (F : Fun K x qual st f fd) (S : FnScope N ps (defScope st)) (hks : ks.length = ps.length) (ha : ks.all argMd = true) (hn : ks.length ≤ N.length)
    (hbody : ∀ (cdv : Value) (A : Around) (outer : List PySem.Env) (s : Shared) (H : Hp) (E : XK), Room k (A.deeper (envOfC qual (defScope st) s.heap.objs.size f cdv)) →
      SVs (fnC g P w K mg base N qual st f cdv A outer s H E) ⟨fr, [], none⟩ (mds0 N.length ks) m1 (defBody st) db) :
    FnOk P w K mg base (L2.CX P w) (k + 1) f fd ps (spD K mg g ks fr (dFn fr N.length db)) := by
  refine F.okX S (fun vs H Q E h => ?_) (fun cdv A outer s H vs Q E hr h => ⟨_, wss, ?_⟩)
  · obtain ⟨ds, S0, B, a, _⟩ := h
    rw [a.length, hks]
  · obtain ⟨ds, S0, B, a, gi, h1, h2, h3⟩ := h
    refine hbody cdv A outer s H E hr H B B (fun _ => 0) _ _ H S0 _ ⟨frame0 gi a ha hn, gi, Evo.refl _ _, fun p h n => absurd h n⟩ ⟨fun ρ' S' e σ' H' B' ow' i ex => ?_, fun d S' e v H' ev gi' rs => ?_, fun ρ' S' e => ?_, fun xc ρ' S' e σ' H' B' ow' cls dd mx gi' ev nw sb ex xr => ?_, fun e => ?_⟩
    · cases fr with
      | true => exact absurd (by unfold dFn; rw [e]; rfl) h3
      | false =>
        refine h1 .none S' .non H' (by unfold dFn; rw [e]; rfl) i.ev (i.gi.less i.fr.sub i.fr.gsub) ?_
        exact Is.non
    · exact h1 d S' v H' (by unfold dFn; rw [e]; rfl) ev gi' rs
    · exact absurd (by unfold dFn; rw [e]; rfl) h3
    · refine h2 xc S' cls dd H' (by unfold dFn; rw [e]; rfl) ev (gi'.less sb gi.sub) (xr.mono (fz_anti sb))
    · exact absurd (by unfold dFn; rw [e]; rfl) h3
end PD
/-! PDo: lambdas without parameters handed to a def. -/
namespace PD
open PySem PySem.Spec PyProof.Rows L2 LamX
section
variable {X : Cx} {pins : List (Addr × Obj)} {σ : L2.St} {H HZ : Hp} {s s1 : Shared}
/-- the lambda is made; all but the table at P stays -/
theorem lam_make3 {T : List (Addr × Str)} {c P : Addr} {params : Arguments} {body : Expr} {scope : Scope} {pos : Pos} {E : Value → Shared → Prop} {Q : Value → Shared → Prop} (I : Inv X pins σ H s) (TB : TabB X.base X.mg c P) (hcode : X.env.code = .ref c)
    (hm : (P, X.env.qual ++ "<lambda>") ∈ T) (hu : ∀ p ∈ T, p.1 = P → p.2 = X.env.qual ++ "<lambda>") (hT : Tabs T H) (hdef : defaultsOf params X.env = ([], [])) (hfree : ∀ y ∈ scope.names, y.2 = .free → ∃ c, X.env.cells.lookup y.1 = some c)
    (h : ∀ (f c' : Addr) (pm ctv : Value) (H1 : Hp) (s' : Shared), Inv X pins σ H1 s' → Evo [P] H H1 → Tabs T H1 →
      s'.heap.get? f = some (PySem.W.kla_obj "<lambda>" (X.env.qual ++ "<lambda>") params body scope (cloFrom X.env.cells scope.names []) pm c' ctv) → H1 f = none → f ∉ frs X.stack → H1 c' = some (CodeO c' (X.env.qual ++ "<lambda>")) → Q (.ref f) s') :
    wpAny (model X.prog X.w) X.A (eval (.Lambda params body scope pos) X.env) Q E s := by
  obtain ⟨ps, hP, ht, ha⟩ := hT _ hm
  refine PySem.W.kla_eval hdef ?_
  have bP : s.heap.BuiltinsAt X.mg P := TB.bm.keeps I.bk
  have hP' : s.heap.get? P = some { cls := .none, data := .fields ps } := I.hok P _ hP
  have nofr : ∀ f, s.heap.objs.size ≤ f → f ∉ frs X.stack := fun f hf z => by
    rcases List.mem_cons.mp (I.stkSub _ z) with e | e
    · have h1 := I.lt
      rw [← e] at h1
      exact Nat.lt_irrefl _ (Nat.lt_of_lt_of_le h1 hf)
    · exact I.nofs hf e
  cases hc : codeAmong pos ps.toList with
  | none =>
    refine PySem.W.kla_makeFunction (mg := X.mg) (c := c) (P := P) (ps := ps) (closure_ok hfree) I.ok.glob (I.mod.glob.keeps I.bk) hcode (TB.code.keeps I.bk) hP' ht hc TB.gP bP fun c' ctv h' tk hx hge hlt hrec htb => ?_
    obtain ⟨c2, oc, vs, t, e2, hoc, hd, hv⟩ := hrec
    cases e2
    have hsz : s.heap.objs.size ≤ h'.objs.size := Nat.le_trans hge (Nat.le_of_lt hlt)
    have nC : H c' = none := I.hok.fresh hge
    have I1 := inv_table (t' := tk) (more := #[rawInt pos.line, rawInt pos.col, .ref c']) (h' := h'.push (PySem.W.kla_obj "<lambda>" (X.env.qual ++ "<lambda>") params body scope (cloFrom X.env.cells scope.names []) ((X.mg "__name__").getD .none) c' ctv)) I hP
      (fun b o hb e => Heap.get?_push_of_some _ (hx b o hb e)) (Heap.get?_push_of_some _ htb) hge ⟨oc, vs, t, Heap.get?_push_of_some _ hoc, hd, hv⟩
    have hE : Evo [P] H (upd (upd H P (.tbl (ps ++ #[rawInt pos.line, rawInt pos.col, .ref c']))) c' (CodeO c' (X.env.qual ++ "<lambda>"))) := fun b o n e => by
      rw [upd_ne (ne_of_none e nC), upd_ne (fun z => n (by rw [z]; exact List.mem_cons_self ..))]
      exact e
    have eL : (ps ++ #[rawInt pos.line, rawInt pos.col, .ref c']).toList = ps.toList ++ [rawInt pos.line, rawInt pos.col, .ref c'] := by simp
    have codeK : ∀ {c0 : Addr} {q : Str}, H c0 = some (CodeO c0 q) → upd (upd H P (.tbl (ps ++ #[rawInt pos.line, rawInt pos.col, .ref c']))) c' (CodeO c' (X.env.qual ++ "<lambda>")) c0 = some (CodeO c0 q) := fun {c0 q} e2 => hE _ _ (fun z => by
      obtain rfl := List.mem_singleton.mp z
      rw [hP] at e2
      exact codeO_ne _ (Option.some.inj e2).symm) e2
    refine h h'.objs.size c' ((X.mg "__name__").getD .none) ctv _ _ I1 hE (fun p hp => ?_) (Heap.get?_push_size _ rfl) ?_ (nofr _ hsz) upd_same
    · by_cases hb : p.1 = P
      · rw [hu p hp hb, hb]
        refine ⟨_, by rw [upd_ne (ne_of_none hP nC), upd_same], by rw [eL]; exact PySem.TriplesOk_snoc _ _ _ _ ht, fun p' cv hcv => ?_⟩
        rw [eL] at hcv
        rcases among_app _ ht hcv with z | z
        · obtain ⟨c0, e1, e2⟩ := ha p' cv z
          exact ⟨c0, e1, codeK e2⟩
        · exact ⟨c', z, upd_same⟩
      · obtain ⟨ps', a1, a2, a3⟩ := hT p hp
        refine ⟨ps', by rw [upd_ne (ne_of_none a1 nC), upd_ne hb]; exact a1, a2, fun p' cv hcv => ?_⟩
        obtain ⟨c0, e1, e2⟩ := a3 p' cv hcv
        exact ⟨c0, e1, codeK e2⟩
    · have n1 : h'.objs.size ≠ c' := Nat.ne_of_gt hlt
      have n2 : h'.objs.size ≠ P := Nat.ne_of_gt (Nat.lt_of_lt_of_le (Heap.lt_size hP') hsz)
      rw [upd_ne n1, upd_ne n2]
      exact I.hok.fresh hsz
  | some cv =>
    obtain ⟨c', e, hco⟩ := ha pos cv hc
    subst e
    refine PySem.W.kla_makeFunctionHit (mg := X.mg) (c := c) (P := P) (ps := ps) (closure_ok hfree) I.ok.glob (I.mod.glob.keeps I.bk) hcode (TB.code.keeps I.bk) hP' ht hc bP fun ctv h' tk hx hsz => ?_
    have I1 : Inv X pins σ H { s with heap := h'.push (PySem.W.kla_obj "<lambda>" (X.env.qual ++ "<lambda>") params body scope (cloFrom X.env.cells scope.names []) ((X.mg "__name__").getD .none) c' ctv), toks := tk } := I.kept fun b o e => Heap.get?_push_of_some _ (hx b o e)
    exact h h'.objs.size c' ((X.mg "__name__").getD .none) ctv H _ I1 (Evo.refl _ H) hT (Heap.get?_push_size _ rfl) (I.hok.fresh hsz) (nofr _ hsz) hco
/-- x(), in the def that got the lambda: what it lets out is asked at the very slots -/
theorem pe_act3 {CXg : CXT} {Eg : XK} {Ng : List Str} {qg : Str} {sg : Scope} {g f c' : Addr} {cdg pm ctv : Value} {params : Arguments} {body : Expr} {scope : Scope} {k i : Nat} {a : Str} {pn : List (Addr × Obj)} {xe : Value → Shared → Prop} {W : WX} {t : XK → TE} {p1 p2 : Pos}
    (I : Inv X pins σ H s) (L : LamS X.env.scope scope) (hf : s.heap.get? f = some (PySem.W.kla_obj "<lambda>" (X.env.qual ++ "<lambda>") params body scope (cloFrom X.env.cells scope.names []) pm c' ctv)) (hfn : H f = none) (hfr : f ∉ frs X.stack)
    (hbind : bindArgs (PySem.W.kla_fn "<lambda>" (X.env.qual ++ "<lambda>") params body scope (cloFrom X.env.cells scope.names []) pm (.ref c') ctv) ⟨[], []⟩ = pure [])
    (tk : Takes ((cxOf CXg X.prog X.w X.K X.mg X.base Ng qg sg g cdg X.A X.stack s H Eg).tr pn xe) W) (hr : Room (k + 1) (X.A.deeper (envOfC qg sg s.heap.objs.size g cdg)))
    (hbody : ∀ (A : Around) (outer : List PySem.Env) (s : Shared) (H : Hp) (E : XK), Room k (A.deeper (lamEnv X scope s.heap.objs.size f c')) → PE (lamCx X A outer s H E scope f c') body (t E))
    (hN : Ng[i]? = some a) (hv : Vis sg a) (hd : (a == ("__debug__" : Str)) = false := by decide) (hcd : (a == ("__classdict__" : Str)) = false := by decide) :
    PE ((cxOf CXg X.prog X.w X.K X.mg X.base Ng qg sg g cdg X.A X.stack s H Eg).tr pn xe) (.Call (.Name a p1) [] [] p2)
      (fun σZ HZ Q => σZ[i]? = some (some (.ref f)) ∧ HZ c' = some (CodeO c' (X.env.qual ++ "<lambda>")) ∧ t (fun cls d H' => W cls d σZ H') σ HZ Q) := by
  refine ⟨fun pinsZ sZ σZ HZ Q IZ h => ?_⟩
  obtain ⟨hs, hc, ht⟩ := h
  refine wpAny_Call_Name_kw (thn ((pe_var (pos := p1) (i := i) hN hv hd hcd).run pinsZ sZ σZ HZ (fun v H1 => v = .ref f ∧ H1 = HZ) IZ ⟨.ref f, hs, rfl, rfl⟩) fun u s1 ⟨v, H1, I1, r1, q1⟩ => ?_)
  obtain ⟨ev, eH⟩ := q1
  subst ev
  rw [eH] at I1
  obtain rfl : u = Value.ref f := r1
  have of1 : s1.heap.get? f = some (PySem.W.kla_obj "<lambda>" (X.env.qual ++ "<lambda>") params body scope (cloFrom X.env.cells scope.names []) pm c' ctv) := I1.base.keep f _ hf hfn hfr (fun z => nomatch (show f ∈ ([] : List Addr) from z))
  refine PySem.W.callWith_F0 ⟨_, _, _, _, of1⟩ ?_
  have un : Un (frs X.stack) [] H HZ s.heap s1.heap := I1.base
  obtain ⟨⟨oc, vs, t', hoc, hdc, hvc⟩, _, _⟩ := I1.hok c' _ hc
  have rc : codeAny (model X.prog X.w) (X.A.deeper (envOfC qg sg s.heap.objs.size g cdg)) (.call (.ref f) ⟨[], []⟩) (CR (L2.CX X.prog X.w) (envOfC qg sg s.heap.objs.size g cdg :: X.stack) X.prog X.w HZ s1 Q (fun cls d H' => W cls d σZ H')) s1 := by
    refine PySem.W.kla_callFunE hr.depth of1 rfl L.co L.gen rfl ⟨c', oc, vs, t', rfl, hoc, hdc, hvc⟩ ?_
    rw [hbind]
    refine wpAny_pure (wpAny_newFunctionEnv (fun y hy => (L.own y hy).2) (fun y hy => absurd hy (by simp)) (fun h₁ hns hsb => ⟨I1.nolimit.fresh _ hsb, ?_⟩) L.kind)
    show codeAny _ _ (.expr body (lamEnv X scope s1.heap.objs.size f c')) _ _
    have kp : ∀ b o, s1.heap.get? b = some o → h₁.get? b = some o := fun b o e => hsb.extBut b o (Nat.ne_of_lt (Heap.lt_size e)) (Heap.get?_push_of_some _ e)
    have J : Inv (lamCx X (X.A.deeper (envOfC qg sg s.heap.objs.size g cdg)) (envOfC qg sg s.heap.objs.size g cdg :: X.stack) s1 HZ (fun cls d H' => W cls d σZ H') scope f c') [] σ HZ { s1 with heap := h₁, toks := s1.toks + ([] : List (Str × Value)).length } :=
      lam_start2 I L I1.env0 hr.hd un hns kp
    refine PySem.W.kla_codeExpr (wpAny_mono ((hbody _ _ s1 HZ (fun cls d H' => W cls d σZ H') (hr.deeper _)).run [] _ _ HZ Q J ht) (fun v s' hq => ?_) fun e s' hq => hq)
    obtain ⟨w', H', J', rv, q⟩ := hq
    exact ⟨w', H', J'.os, J'.bare, J'.base, J'.hok, rv, q⟩
  have hx := passAt tk σZ
  refine wpAny_call (codeAny_mono rc fun r s' hq => ?_)
  cases r with
  | error e => exact hx pinsZ HZ s1 e s' I1 hq
  | ok fl =>
    cases fl with
    | ret u => exact I1.after hq
    | next => exact False.elim hq
    | brk => exact False.elim hq
    | cont => exact False.elim hq
end
/-- what the def makes of the lambda -/
def Gives3 (X : Cx) (Ng : List Str) (x : Str) (sg : Scope) (g : Addr) (cdg : Value) (bg : List Stmt) (a : Str) (q : Str) (TT : (XK → Hp → VK → Prop) → Hp → VK → Prop) : Prop :=
  ∀ (f c' : Addr) (s : Shared) (H : Hp) (Q : VK) (tl : XK → Hp → VK → Prop),
    (∀ (W : WX) (pn : List (Addr × Obj)) (xe : Value → Shared → Prop) (p1 p2 : Pos), Takes ((cxOf C8.CX0 X.prog X.w X.K X.mg X.base Ng x sg g cdg X.A X.stack s H C8.E0).tr pn xe) W →
      PE ((cxOf C8.CX0 X.prog X.w X.K X.mg X.base Ng x sg g cdg X.A X.stack s H C8.E0).tr pn xe) (.Call (.Name a p1) [] [] p2) (fun σZ HZ Q => σZ[0]? = some (some (.ref f)) ∧ HZ c' = some (CodeO c' q) ∧ tl (fun cls d H' => W cls d σZ H') HZ Q)) →
    H c' = some (CodeO c' q) → Room 1 (X.A.deeper (envOfC x sg s.heap.objs.size g cdg)) → TT tl H Q →
    ∃ t, PSs (cxOf C8.CX0 X.prog X.w X.K X.mg X.base Ng x sg g cdg X.A X.stack s H C8.E0).nox bg t ∧ t { nx := fun _ H' => Q .non H', rt := Q } (L2.start Ng [.ref f]) H
def tLam3 (T : List (Addr × Str)) (P : Addr) (TT : (XK → Hp → VK → Prop) → Hp → VK → Prop) (t : XK → TE) : TE := fun σ H Q => Tabs T H ∧ ∀ H1, Evo [P] H H1 → Tabs T H1 → TT (fun E H' Q' => t E σ H' Q') H1 Q
section
variable {X : Cx}
theorem pe_lamcall3 {T : List (Addr × Str)} {TT : (XK → Hp → VK → Prop) → Hp → VK → Prop} {x a : Str} {g c P : Addr} {k : Nat} {pg : Arguments} {bg : List Stmt} {sg : Scope} {dV kV doc pm cdv ct oc : Value} {an od : Option Addr} {osl : Array (Option Value)} {Ng : List Str}
    {params : Arguments} {body : Expr} {scope : Scope} {t : XK → TE} {p lpos pos : Pos} (hg : Gl X x) (hm : X.mg x = some (.ref g)) (hk : PySem.W.keepIn X.K (.ref g) = true)
    (lk : X.K.lookup g = some ⟨oc, od, .func (PySem.W.fnOf x x pg bg sg dV kV doc pm an cdv ct), osl⟩) (hcg : PySem.W.codeIn X.K cdv x = true) (hb : L2.Binds X.K (PySem.W.fnOf x x pg bg sg dV kV doc pm an cdv ct) [a] []) (Sg : FnScope Ng [a] sg) (hNg : Ng[0]? = some a) (hva : Vis sg a)
    (hG : Gives3 X Ng x sg g cdv bg a (X.env.qual ++ "<lambda>") TT)
    (TB : TabB X.base X.mg c P) (hcode : X.env.code = .ref c) (hmT : (P, X.env.qual ++ "<lambda>") ∈ T) (hu : ∀ p ∈ T, p.1 = P → p.2 = X.env.qual ++ "<lambda>") (hr : Room (k + 2) X.A) (L : LamS X.env.scope scope) (hdef : defaultsOf params X.env = ([], []))
    (hbind : ∀ (q : Str) (cl : List (Str × Addr)) (pm cv ctv : Value), bindArgs (PySem.W.kla_fn "<lambda>" q params body scope cl pm cv ctv) ⟨[], []⟩ = pure [])
    (hbody : ∀ (A : Around) (outer : List PySem.Env) (s : Shared) (H : Hp) (E : XK) (f c' : Addr), Room k (A.deeper (lamEnv X scope s.heap.objs.size f c')) → PE (lamCx X A outer s H E scope f c') body (t E))
    (hdb : (x == ("__debug__" : Str)) = false := by decide) (hd : (a == ("__debug__" : Str)) = false := by decide) (hcd : (a == ("__classdict__" : Str)) = false := by decide) :
    PE X (.Call (.Name x p) [.Lambda params body scope lpos] [] pos) (tLam3 T P TT t) := by
  refine ⟨fun pins s σ H Q I h => ?_⟩
  obtain ⟨hT, h⟩ := h
  refine wpAny_Call_Name_kw (ld_glob I hg hm ?_ hdb)
  refine PySem.W.callWith_K (h₀ := X.base) I.ok.mod.kin hk ?_ (by rfl) (by rfl)
  show wpAny _ _ (spliced ((false, eval (.Lambda params body scope lpos) X.env) :: backTo pos (starEach [] X.env))) _ _ s
  refine Calls.spliced_cons (lam_make3 I TB hcode hmT hu hT hdef (L.has I.ok) fun f c' pm' ctv H1 s' I1 eN T1 hf hfn hfr hco => ?_)
  refine Calls.spliced_nil ⟨I1.kIn, ?_⟩
  have rc : codeAny (model X.prog X.w) X.A (.call (.ref g) ⟨[.ref f], []⟩) (CR C8.CX0 X.stack X.prog X.w H1 s' Q C8.E0) s' := by
    refine run_ofS (N := Ng) (ps := [a]) (us := [.ref f]) (vs := [.ref f]) lk hcg Sg hr I1.env0 (hb s' [.ref f] I1.kIn rfl) (.cons rfl .nil) rfl fun hr' => ?_
    obtain ⟨t', ht', hq'⟩ := hG f c' s' H1 Q (fun E H' Q' => t E σ H' Q') (fun W pn xe p1 p2 tk => pe_act3 (i := 0) I1 L hf hfn hfr (hbind _ _ _ _ _) tk hr' (fun A outer s H E hr2 => hbody A outer s H E f c' hr2) hNg hva hd hcd) hco (hr'.mono (by omega)) (h H1 eN T1)
    exact ⟨t', ht'.nox, hq'⟩
  refine wpAny_call (codeAny_mono rc fun r s2 hq => ?_)
  cases r with
  | error e => exact (show False from hq).elim
  | ok fl =>
    cases fl with
    | ret u => exact I1.after hq
    | next => exact False.elim hq
    | brk => exact False.elim hq
    | cont => exact False.elim hq
end
/-! ### by denotation -/
abbrev Gx.withL (g : Gx) (l : Lm) : Gx := ⟨g.SA, g.T, g.E, some l⟩
/-- the context in which a def without exceptions of its own runs -/
abbrev nxCx (P : Program) (w : World) (K : PySem.W.Frag) (mg : Str → Option Value) (base : Heap) (Ng : List Str) (x : Str) (sg : Scope) (gA : Addr) (cdg : Value) (A : Around) (stack : List PySem.Env) (s : Shared) (H : Hp) : Cx :=
  cxOf C8.CX0 P w K mg base Ng x sg gA cdg A stack s H C8.E0
/-- the def that gets a lambda and calls it: its body by denotation, dl0 the lambda's -/
def LamFn (P : Program) (w : World) (K : PySem.W.Frag) (mg : Str → Option Value) (base : Heap) (g : Gx) (x a : Str) (Ng : List Str) (sg : Scope) (gA : Addr) (cdg : Value) (bg : List Stmt) (db : (Store → R PyData) → DS) : Prop :=
  ∀ (A : Around) (stack : List PySem.Env) (s : Shared) (H : Hp) (l : Lm) (dl0 : Store → R PyData), Room 1 (A.deeper (envOfC x sg s.heap.objs.size gA cdg)) →
    (∀ W pn xe p1 p2 m, Takes ((nxCx P w K mg base Ng x sg gA cdg A stack s H).tr pn xe) W → m[0]? = some .lm → EV ⟨g.withL l, (nxCx P w K mg base Ng x sg gA cdg A stack s H).tr pn xe, W⟩ m (.Call (.Name a p1) [] [] p2) (fun _ S => dl0 S)) →
    ∃ m1, SVs ⟨g.withL l, (nxCx P w K mg base Ng x sg gA cdg A stack s H).nox, fun _ _ _ _ => False⟩ ⟨false, [], none⟩ (mds0 Ng.length [.lm]) m1 bg (db dl0)
/-- the def's reading of the lambda's -/
def TTD (K : PySem.W.Frag) (mg : Str → Option Value) (g : Gx) (n : Nat) (db : (Store → R PyData) → DS) : (XK → Hp → VK → Prop) → Hp → VK → Prop := fun tl H Q =>
  ∃ B S dl0, GI K g B H S ∧
    (∀ B' S' HZ E Q', Ex (Fz B H) (Fz B' HZ) → GI K g B' HZ S' → (∀ d S2 v H2, dl0 S' = .ok d S2 → Evo g.G HZ H2 → GI K g B' H2 S2 → Is K (Fz B' H2) v d → Q' v H2) →
      (∀ x S2 cls dd H2, dl0 S' = .exc x S2 → Evo g.G HZ H2 → GI K g B' H2 S2 → XcRep K mg (Fz B' H2) x cls dd → E cls dd H2) → dl0 S' ≠ .bad → tl E HZ Q') ∧
    (∀ d S' v H', (db dl0 (env0 n [.none]) S).fin false = .ok d S' → Evo g.G H H' → GI K g B H' S' → Is K (Fz B H') v d → Q v H') ∧ ((db dl0 (env0 n [.none]) S).fin false).calm ≠ .bad
theorem GI.withL {K : PySem.W.Frag} {g : Gx} {B : List Addr} {H : Hp} {S : Store} {l : Lm} (i : GI K g B H S) (h1 : H l.cc = some (CodeO l.cc l.q)) (h2 : Ex (Fz l.B l.H) (Fz B H)) : GI K (g.withL l) B H S :=
  ⟨i.st, i.tabs, i.sub, i.kn, i.nd, fun l' e => by cases e; exact ⟨h1, h2⟩⟩
theorem GI.noL {K : PySem.W.Frag} {g : Gx} {B : List Addr} {H : Hp} {S : Store} {l : Lm} (hL : g.L = none) (i : GI K (g.withL l) B H S) : GI K g B H S :=
  ⟨i.st, i.tabs, i.sub, i.kn, i.nd, fun l' e => by rw [hL] at e; cases e⟩
theorem lam_gives {X : Cx} {g : Gx} {x a : Str} {Ng : List Str} {sg : Scope} {gA : Addr} {cdg : Value} {bg : List Stmt} {db : (Store → R PyData) → DS} (hL : g.L = none) (hn : 1 ≤ Ng.length) (h : LamFn X.prog X.w X.K X.mg X.base g x a Ng sg gA cdg bg db) (q : Str) :
    Gives3 X Ng x sg gA cdg bg a q (TTD X.K X.mg g Ng.length db) := by
  intro f c' s H Q tl act hc hroom ⟨B, S, dl0, gi, htl, hq, hb⟩
  have key := h X.A X.stack s H ⟨f, c', q, B, H⟩ dl0 hroom
  have act2 : ∀ W pn xe p1 p2 m, Takes ((nxCx X.prog X.w X.K X.mg X.base Ng x sg gA cdg X.A X.stack s H).tr pn xe) W → m[0]? = some .lm → EV ⟨g.withL ⟨f, c', q, B, H⟩, (nxCx X.prog X.w X.K X.mg X.base Ng x sg gA cdg X.A X.stack s H).tr pn xe, W⟩ m (.Call (.Name a p1) [] [] p2) (fun _ S => dl0 S) := ?act
  · obtain ⟨m1, hs⟩ := key act2
    refine ⟨_, wss, ?_⟩
    refine hs H B B (fun _ => 0) (env0 Ng.length [.none]) _ H S _ ⟨⟨?_, ?_, fun _ h => h, gi.sub, fun i md hi => ?_⟩, gi.withL hc (Ex.refl _), Evo.refl _ _, fun p h n => absurd h n⟩ ⟨fun ρ' S' e σ' H' B' ow' i ex => ?_, fun d S' e v H' ev gi' rs => ?_, fun ρ' S' e => ?_, fun xc ρ' S' e => ?_, fun e => ?_⟩
    · unfold mds0 env0; simp
    · unfold env0 L2.start; simp
    · by_cases h0 : i < 1
      · obtain rfl : i = 0 := by omega
        unfold mds0 at hi
        simp at hi
        subst hi
        exact ⟨_, rfl, rfl⟩
      · have : md = .fz := by
          unfold mds0 at hi
          rw [List.getElem?_append_right (by simp; omega), List.getElem?_replicate] at hi
          split at hi
          · cases hi; rfl
          · cases hi
        subst this
        intro d e
        rw [env0_out (by simp; omega)] at e
        cases e
    · exact hq .none S' .non H' (by rw [e]; rfl) i.ev ((i.gi.noL hL).less i.fr.sub gi.sub) .non
    · exact hq d S' v H' (by rw [e]; rfl) ev (gi'.noL hL) rs
    · exact absurd (by rw [e]; rfl) hb
    · exact absurd (by rw [e]; rfl) hb
    · exact absurd (by rw [e]; rfl) hb
  · intro W pn xe p1 p2 m tk hm σZ HZ ρ SZ B0 B' ow Q' fr gi' go
    refine PD.WE.of (act W pn xe p1 p2 tk) ?_
    obtain ⟨l, e1, hv⟩ := fr.slot 0 _ hm
    cases e1
    refine ⟨?_, (gi'.cd _ rfl).1, htl B' SZ HZ _ _ (gi'.cd _ rfl).2 (gi'.noL hL) (fun d S2 v H2 e ev gi2 iv => go.1 d S2 v H2 e ev ?_ iv) (fun x S2 cls dd H2 e ev gi2 xr => go.2.1 x S2 e cls dd H2 ev ?_ xr) go.2.2⟩
    · rw [List.getD_eq_getElem?_getD] at hv
      cases h2 : σZ[0]? with
      | none => rw [h2] at hv; cases hv
      | some o => rw [h2] at hv; rw [show o = some _ from hv]
    all_goals
      have ncc : c' ∉ g.G := fun z => by
        have z' := gi'.cd _ rfl
        have z1 : HZ c' = some (CodeO c' q) := z'.1
        rcases List.mem_append.mp z with z | z
        · have : ∀ {l₁ : List Addr} {l₂ : Store}, Paired (fun (p : Addr) (xs : List PyData) => ∃ vs, HZ p = some (.lst vs) ∧ vs.length ≤ sizeLine ∧ IsAll X.K (Fz B' HZ) vs xs) l₁ l₂ → c' ∉ l₁ := by
            intro l₁ l₂ hp
            induction hp with
            | nil => simp
            | cons r t ih =>
              intro hm
              rcases List.mem_cons.mp hm with rfl | hm
              · obtain ⟨vs, e, _⟩ := r
                exact lst_code e _ z1
              · exact ih hm
          exact this gi'.st z
        · obtain ⟨p, hp, e⟩ := List.mem_map.mp z
          obtain ⟨ps, e2, _⟩ := gi'.tabs p hp
          rw [e, z1] at e2
          exact codeO_ne _ (Option.some.inj e2)
      exact gi2.withL (ev _ _ ncc (gi'.cd _ rfl).1) ((gi'.cd _ rfl).2.trans (ev.fz (gi'.noL hL).sub))
/-- no slot with a list of its own -/
def noOwn (m : List Md) : Bool := m.all fun k => decide (k ≠ .own) && decide (k ≠ .own2)
theorem Frame.far {K : PySem.W.Frag} {g : Gx} {B0 B B' : List Addr} {ow : Addr → Nat} {m : List Md} {ρ : Env} {σ : L2.St} {H H' : Hp} (f : Frame K g B0 B ow m ρ σ H) (hn : noOwn m = true) (e : Ex (Fz B H) (Fz B' H')) (hs : ∀ a ∈ g.G, a ∈ B') : Frame K g g.G B' ow m ρ σ H' := by
  refine ⟨f.lm, f.ls, hs, fun _ h => h, fun i md hi => ?_⟩
  have q := f.slot i md hi
  have ne := List.all_eq_true.mp hn md (List.mem_of_getElem? hi)
  rw [Bool.and_eq_true] at ne
  have n1 := of_decide_eq_true ne.1
  have n2 := of_decide_eq_true ne.2
  cases md with
  | un => trivial
  | fz => exact fun d hd => let ⟨v, a, b⟩ := q d hd; ⟨v, a, b.mono e⟩
  | own => exact absurd rfl n1
  | own2 => exact absurd rfl n2
  | st k => exact q
  | lm => exact q
  | cs => exact let ⟨a, vs, ds, h1, h2, h3, h4, h5⟩ := q; ⟨a, vs, ds, h1, h2, e.l h3, h4, h5.mono e⟩
  | ea => exact let ⟨a, x, d, h1, h2, h3⟩ := q; ⟨a, x, d, h1, h2, h3.mono e⟩
/-- a table grows -/
theorem GI.table {K : PySem.W.Frag} {g : Gx} {B : List Addr} {H H1 : Hp} {S : Store} {P : Addr} {q : Str} (i : GI K g B H S) (hL : g.L = none) (hP : (P, q) ∈ g.T) (ev : Evo [P] H H1) (ht : Tabs g.T H1) : GI K g B H1 S ∧ Evo g.G H H1 := by
  have hPG : P ∈ g.G := List.mem_append_right _ (List.mem_map.mpr ⟨_, hP, rfl⟩)
  have evG : Evo g.G H H1 := fun a o n e => ev a o (fun z => n (by rw [List.mem_singleton.mp z]; exact hPG)) e
  have nd := List.nodup_append.mp i.nd
  refine ⟨⟨?_, ht, i.sub, fun a ha z => ?_, i.nd, fun l e => by rw [hL] at e; cases e⟩, evG⟩
  · have aux : ∀ {l₁ : List Addr} {l₂ : Store}, (∀ p ∈ l₁, p ≠ P) → Paired (fun (p : Addr) (xs : List PyData) => ∃ vs, H p = some (.lst vs) ∧ vs.length ≤ sizeLine ∧ IsAll K (Fz B H) vs xs) l₁ l₂ →
        Paired (fun (p : Addr) (xs : List PyData) => ∃ vs, H1 p = some (.lst vs) ∧ vs.length ≤ sizeLine ∧ IsAll K (Fz B H1) vs xs) l₁ l₂ := by
      intro l₁ l₂ hm h
      induction h with
      | nil => exact .nil
      | cons r t ih =>
        obtain ⟨vs, a, z, b⟩ := r
        exact .cons ⟨vs, ev _ _ (fun z => hm _ (List.mem_cons_self ..) (List.mem_singleton.mp z)) a, z, b.mono (evG.fz i.sub)⟩ (ih fun p hp => hm p (List.mem_cons_of_mem _ hp))
    exact aux (fun p hp e => nd.2.2 p hp P (List.mem_map.mpr ⟨_, hP, rfl⟩) e) i.st
  · by_cases e : a = P
    · subst e
      obtain ⟨ps, h1, _⟩ := ht _ hP
      rw [h1] at z
      cases z
    · cases q' : H a with
      | none => exact i.kn a ha q'
      | some o => rw [ev a o (fun z => e (List.mem_singleton.mp z)) q'] at z; cases z
def dLam (n : Nat) (db : (Store → R PyData) → DS) (dl : DE) : DE := fun ρ S => ((db (fun S' => dl ρ S') (env0 n [.none]) S).fin false).calm
/-- x(lambda: body) -/
theorem ev_lam {c : Cc} {m m' : List Md} {x a : Str} {gA cA P : Addr} {k : Nat} {pg : Arguments} {bg : List Stmt} {sg : Scope} {dV kV doc pm cdv ct oc : Value} {an od : Option Addr} {osl : Array (Option Value)} {Ng : List Str}
    {params : Arguments} {body : Expr} {scope : Scope} {db : (Store → R PyData) → DS} {dl : DE} {p lpos pos : Pos} (hL : c.g.L = none) (hw : Wk m m' = true) (hno : noOwn m' = true) (hg : Gl c.X x) (hm : c.X.mg x = some (.ref gA)) (hk : PySem.W.keepIn c.X.K (.ref gA) = true)
    (lk : c.X.K.lookup gA = some ⟨oc, od, .func (PySem.W.fnOf x x pg bg sg dV kV doc pm an cdv ct), osl⟩) (hcg : PySem.W.codeIn c.X.K cdv x = true) (hb : L2.Binds c.X.K (PySem.W.fnOf x x pg bg sg dV kV doc pm an cdv ct) [a] []) (Sg : FnScope Ng [a] sg) (hNg : Ng[0]? = some a) (hva : Vis sg a)
    (hG : LamFn c.X.prog c.X.w c.X.K c.X.mg c.X.base c.g x a Ng sg gA cdv bg db)
    (TB : TabB c.X.base c.X.mg cA P) (hcode : c.X.env.code = .ref cA) (hmT : (P, c.X.env.qual ++ "<lambda>") ∈ c.g.T) (hu : ∀ p ∈ c.g.T, p.1 = P → p.2 = c.X.env.qual ++ "<lambda>") (hr : Room (k + 2) c.X.A) (L : LamS c.X.env.scope scope) (hdef : defaultsOf params c.X.env = ([], []))
    (hbind : ∀ (q : Str) (cl : List (Str × Addr)) (pm cv ctv : Value), bindArgs (PySem.W.kla_fn "<lambda>" q params body scope cl pm cv ctv) ⟨[], []⟩ = pure [])
    (hbody : ∀ (A : Around) (outer : List PySem.Env) (s : Shared) (H : Hp) (E : XK) (f c' : Addr), Room k (A.deeper (lamEnv c.X scope s.heap.objs.size f c')) → EV ⟨c.g, lamCx c.X A outer s H E scope f c', fun cls d _ H' => E cls d H'⟩ m' body dl)
    (hdb : (x == ("__debug__" : Str)) = false := by decide) (hd : (a == ("__debug__" : Str)) = false := by decide) (hcd : (a == ("__classdict__" : Str)) = false := by decide) :
    EV c m (.Call (.Name x p) [.Lambda params body scope lpos] [] pos) (dLam Ng.length db dl) := by
  intro σ H ρ S B0 B ow Q fr gi go
  have hn1 : 1 ≤ Ng.length := by
    have := (List.getElem?_eq_some_iff.mp hNg).1
    omega
  refine PD.WE.of (pe_lamcall3 (t := fun E σ H Q => ∀ A outer s H0 f c', Room k (A.deeper (lamEnv c.X scope s.heap.objs.size f c')) → PD.WE (lamCx c.X A outer s H0 E scope f c') body σ H Q) hg hm hk lk hcg hb Sg hNg hva
    (lam_gives hL hn1 hG _) TB hcode hmT hu hr L hdef hbind (fun A outer s H0 E f c' hr2 => ⟨fun pins s' σ H Q I h => (h A outer s H0 f c' hr2).go pins s' I⟩) hdb hd hcd) ?_
  refine ⟨gi.tabs, fun H1 ev1 ht1 => ?_⟩
  obtain ⟨gi1, evG1⟩ := gi.table hL hmT ev1 ht1
  have fr1 := (fr.weak hw).evo evG1
  refine ⟨B, S, fun S' => dl ρ S', gi1, fun B' S' HZ E Q' ex gi' h1 h2 h3 A outer s H0 f c' hr2 => ?_, fun d S' v H' e ev gi' iv => go.1 d S' v H' ?_ (evG1.trans ev) gi' iv, fun e => go.2.2 e⟩
  · exact hbody A outer s H0 E f c' hr2 σ HZ ρ S' c.g.G B' ow Q' (fr1.far hno ex gi'.sub) gi' ⟨fun d S2 v H2 e ev gi2 iv => h1 d S2 v H2 e ev gi2 iv, fun xx S2 e cls dd H2 ev gi2 xr => h2 xx S2 cls dd H2 e ev gi2 xr, h3⟩
  · show R.calm _ = _
    rw [e]
    rfl
end PD
/-! PDp: the script, the tape, a law's end. -/
namespace PD
open PySem PySem.Spec PyProof.Rows L2 LamX
theorem getD_of {α : Type} {l : List (Option α)} {i : Nat} {x : α} (h : l.getD i none = some x) : l[i]? = some (some x) := by
  rw [List.getD_eq_getElem?_getD] at h
  cases h2 : l[i]? with
  | none => rw [h2] at h; cases h
  | some o => rw [h2] at h; rw [show o = some _ from h]
section
variable {c : Cc} {m : List Md} {ks : List Md} {es : List Expr} {r : DA} {i : Nat} {x : Str} {pos p p2 : Pos}
theorem em_cs (hm : m[i]? = some .cs) (hp : PE c.X (.Name x pos) (tVar i)) (hr : EM c m ks es r) : EM c m (.cs :: ks) (.Name x pos :: es) (dCons (dVar i) r) := by
  intro σ H ρ S B0 B ow Q fr gi g
  refine WA.of (pa_cons hp wa rfl) ?_
  obtain ⟨a, vs, ds, hd, hv, h3, h4, h5⟩ := fr.slot i _ hm
  refine ⟨.ref a, getD_of hv, ?_⟩
  have e : dVar i ρ S = .ok (.list ds) S := by unfold dVar; rw [hd]; rfl
  refine hr σ H ρ S B0 B ow _ fr gi (Goal.bind (r := r ρ S) (k := fun xs S2 => R.ok (PyData.list ds :: xs) S2) (by unfold dCons at g; rw [e] at g; exact g) fun es S2 ws H2 _ ev2 gi2 gd2 g2 => ?_)
  have ex := ev2.fz gi2.sub
  exact g2.ok0 gi2 (.cons ⟨a, vs, ds, rfl, rfl, ex.l h3, h4, h5.mono ex⟩ gd2)
/-- the script's piece -/
theorem eo_csSl {lo hi : Option Expr} {dl dh : DP} (hm : m[i]? = some .cs) (hp : PE c.X (.Name x p) (tVar i)) (hl : EP_ c m lo dl) (hh : EP_ c m hi dh) : EO c m (.Subscript (.Name x p) (.Slice lo hi none p2) pos) (dSl fSlL (dVar i) dl dh) := by
  intro σ H ρ S B0 B ow Q fr gi g
  refine PD.WE.of (pe_slice sl_list hp wo wo) ?_
  obtain ⟨a, vs, ds, hd, hv, h3, h4, h5⟩ := fr.slot i _ hm
  have e : dVar i ρ S = .ok (.list ds) S := by unfold dVar; rw [hd]; rfl
  refine ⟨.ref a, getD_of hv, ?_⟩
  have g : Goal c B H σ ((dl ρ S).bind fun l S2 => (dh ρ S2).bind fun h S3 => ofO (fSlL (.list ds) l h) S3) (fun S' H' v d => ∃ p, v = V.ref p ∧ H p = none ∧ Top c.X.K (p :: B) H' p d ∧ GI c.X.K c.g (p :: B) H' S') Q := by
    unfold dSl at g
    rw [e] at g
    exact g
  refine hl σ H ρ S B0 B ow _ fr gi (g.bind fun l S2 l' H2 _ ev2 gi2 gd2 g2 => ?_)
  cases gd2
  refine hh σ H2 ρ S2 B0 B ow _ (fr.evo ev2) gi2 (g2.bind fun h S3 h' H3 _ ev3 gi3 gd3 g3 => ?_)
  cases gd3
  have ex := (ev2.fz gi2.sub).trans (ev3.fz gi3.sub)
  have s3 := fz_le.l (ex.l h3)
  unfold fSlL at g3
  exact ⟨a, vs, rfl, s3, fun q hq => g3.ok (Ex.new hq).evo (gi3.ex (Ex.new hq)) ⟨q, rfl, free_back ev2 gi2 (free_back ev3 gi3 hq), top_newL hq (Nat.le_trans (cutV_length _ _ _) h4) ((h5.mono ex).cut l h), gi3.fresh (Ex.new hq) hq (by rw [upd_same]; intro z; cases z)⟩⟩
end
/-! ### a new list that all may change from now on -/
def adL (i : Nat) (rest : DS) (ρ : Env) (d : PyData) : RS := match d with | .list xs => rest (ρ.set i (some .none)) [xs] | _ => .bad
def dAdopt (i : Nat) (a : DE) (rest : DS) : DS := fun ρ S => (a ρ S).st ρ fun d _ => adL i rest ρ d
abbrev gTape (g : Gx) (p : Addr) : Gx := ⟨[p], g.T, g.E, g.L⟩
/-- what a law is asked at: the script, the tables of code objects, empty -/
def spLaw (K : PySem.W.Frag) (g : Gx) (n : Nat) : Sp := fun vs H Q _ => ∃ (a : Addr) (ns : List Int), vs = [.ref a] ∧ ns.length ≤ n ∧ (∀ z ∈ ns, Builtin.Int.intBits z ≤ 1048576) ∧ SqL K H a (ns.map V.int) ∧ (∀ p ∈ g.T, H p.1 = some (.tbl #[])) ∧ ∀ H', Q (.bl true) H'
theorem law_ok {P : Program} {w : World} {K : PySem.W.Frag} {mg : Str → Option Value} {base : Heap} {g : Gx} {st : Stmt} {f cA : Addr} {fd : FuncData} {N : List Str} {k n i : Nat} {m2 : List Md} {e : Expr} {y : Str} {pos pos' : Pos} {rest : List Stmt} {a : DE} {dr : DS}
    (hS : g.SA = []) (hL : g.L = none) (hT : (g.T.map (·.1)).Nodup) (hz : n ≤ sizeLine) (F : FunC K "law" "law" st f fd cA) (S : FnScope N ["script"] (defScope st)) (hN : 1 ≤ N.length) (hi : i < N.length)
    (hb : defBody st = .Assign [.Name y pos'] e pos :: rest)
    (hbody : ∀ (A : Around) (outer : List PySem.Env) (s : Shared) (H : Hp) (E : XK), Room k (A.deeper (envOfC "law" (defScope st) s.heap.objs.size f (.ref cA))) →
      EO (fnC g P w K mg base N "law" st f (.ref cA) A outer s H E) (mds0 N.length [.cs]) e a ∧ PS (fnC g P w K mg base N "law" st f (.ref cA) A outer s H E).X (.Assign [.Name y pos'] e pos) (tAsg (PD.WE (fnC g P w K mg base N "law" st f (.ref cA) A outer s H E).X e) (gName i)) ∧
      ∀ p, SVs (fnC (gTape g p) P w K mg base N "law" st f (.ref cA) A outer s H E) ⟨false, [], none⟩ ((mds0 N.length [.cs]).set i (.st 0)) m2 rest dr)
    (pure : ∀ ns : List Int, ns.length ≤ n → (∀ z ∈ ns, Builtin.Int.intBits z ≤ 1048576) → ∃ S', (dAdopt i a dr (env0 N.length [.list (ns.map .int)]) []).fin false = .ok (.bool true) S') :
    FnOk P w K mg base (L2.CX P w) (k + 1) f fd ["script"] (spLaw K g n) := by
  refine F.okX S (fun vs H Q E h => ?_) (fun A outer s H vs Q E hr h => ⟨_, wss, ?_⟩)
  · obtain ⟨a, ns, rfl, _⟩ := h
    rfl
  obtain ⟨p0, ns, rfl, hlen, hbits, hs, htb, hq⟩ := h
  obtain ⟨S', hpure⟩ := pure ns hlen hbits
  obtain ⟨ha, hp, hrest⟩ := hbody A outer s H E hr
  rw [hb]
  have eG : g.G = g.T.map (·.1) := by unfold Gx.G; rw [hS]; rfl
  have hkn : ∀ b ∈ g.G, H b ≠ none := fun b hb z => by
    rw [eG] at hb
    obtain ⟨p, hp, e⟩ := List.mem_map.mp hb
    rw [← e, htb p hp] at z
    cases z
  have gi : GI K g g.G H [] := ⟨by rw [hS]; exact .nil, fun p hp => TabS.nil (htb p hp), fun _ h => h, hkn, by rw [eG]; exact hT, fun l e => by rw [hL] at e; cases e⟩
  have nT : ∀ o : HO, (∀ ps, o ≠ .tbl ps) → H p0 = some o → p0 ∉ g.G := fun o ho e z => by
    have z : p0 ∈ g.T.map (·.1) := eG ▸ z
    obtain ⟨p, hp, e2⟩ := List.mem_map.mp z
    rw [← e2, htb p hp] at e
    exact ho _ (Option.some.inj e).symm
  have hs' : SqL K (Fz g.G H) p0 (ns.map V.int) := by
    rcases hs with (h | ⟨o, h⟩) | h
    · exact .inl (.inl (fz_some.mpr ⟨nT _ (fun _ z => by cases z) h, h⟩))
    · exact .inl (.inr ⟨o, fz_some.mpr ⟨nT _ (fun _ z => by cases z) h, h⟩⟩)
    · exact .inr h
  have fr : Frame K g g.G g.G (fun _ => 0) (mds0 N.length [.cs]) (env0 N.length [.list (ns.map .int)]) (L2.start N [.ref p0]) H :=
    frame0 gi (.cons ⟨p0, _, _, rfl, rfl, hs', by rw [List.length_map]; omega, IsAll.of_ints⟩ .nil) rfl hN
  refine WSs.of (pss_cons hp wss) ?_
  have ne : dAdopt i a dr (env0 N.length [.list (ns.map .int)]) [] ≠ .bad := fun z => by rw [z] at hpure; cases hpure
  cases ea : a (env0 N.length [.list (ns.map .int)]) [] with
  | bad => exact absurd (by unfold dAdopt; rw [ea]; rfl) ne
  | exc x S1 => rw [show dAdopt i a dr (env0 N.length [.list (ns.map .int)]) [] = .exc x _ S1 from by unfold dAdopt; rw [ea]; rfl] at hpure; cases hpure
  | ok d S1 =>
    have ead : dAdopt i a dr (env0 N.length [.list (ns.map .int)]) [] = adL i dr (env0 N.length [.list (ns.map .int)]) d := by unfold dAdopt; rw [ea]; rfl
    rw [ead] at hpure ne
    refine ha _ H _ [] g.G g.G _ _ fr gi ⟨fun d' S2 v H1 e1 ev gi1 gd => ?_, fun x S2 e1 => (by rw [ea] at e1; cases e1), fun z => (by rw [ea] at z; cases z)⟩
    rw [ea] at e1
    cases e1
    obtain ⟨p, rfl, hpn, ht, gi2⟩ := gd
    cases d with
    | list xs =>
      have hpure : (dr ((env0 N.length [.list (ns.map .int)]).set i (some .none)) [xs]).fin false = .ok (.bool true) S' := hpure
      have ne : dr ((env0 N.length [.list (ns.map .int)]).set i (some .none)) [xs] ≠ .bad := ne
      obtain ⟨vs, hpv, hvz, hvi⟩ := top_lst ht
      have npG : p ∉ g.G := fun z => gi.kn p z hpn
      have eT : (gTape g p).G = p :: g.G := by unfold Gx.G; rw [hS]; rfl
      have hlt : i < (mds0 N.length [.cs]).length := by unfold mds0; simp; omega
      have gi3 : GI K (gTape g p) (p :: g.G) H1 [xs] := ⟨.cons ⟨vs, hpv, hvz, hvi⟩ .nil, gi2.tabs, by rw [eT]; exact fun _ h => h, gi2.kn, by rw [eT]; exact List.nodup_cons.mpr ⟨npG, by rw [eG]; exact hT⟩, fun l e => by rw [show (gTape g p).L = g.L from rfl, hL] at e; cases e⟩
      have ex : Ex (Fz g.G H) (Fz (p :: g.G) H1) := fun b o q => by
        have q := fz_some.mp q
        exact fz_some.mpr ⟨fun z => (List.mem_cons.mp z).elim (ne_of_none q.2 hpn) q.1, ev b o q.1 q.2⟩
      have hρ : i < (env0 N.length [.list (ns.map .int)]).length := by rw [← fr.lm]; exact hlt
      have hσ : i < (L2.start N [.ref p0]).length := by rw [fr.ls]; exact hρ
      have fr3 : Frame K (gTape g p) (p :: g.G) (p :: g.G) (fun _ => 0) ((mds0 N.length [.cs]).set i (.st 0)) ((env0 N.length [.list (ns.map .int)]).set i (some .none)) ((L2.start N [.ref p0]).set i (some (.ref p))) H1 := by
        refine ⟨by rw [List.length_set, List.length_set]; exact fr.lm, by rw [List.length_set, List.length_set]; exact fr.ls, fun _ h => h, by rw [eT]; exact fun _ h => h, fun j md hj => ?_⟩
        rw [getD_set hρ, getD_set hσ]
        by_cases ej : i = j
        · subst ej
          rw [List.getElem?_set_self hlt] at hj
          cases hj
          rw [if_pos rfl, if_pos rfl]
          exact ⟨p, rfl, rfl⟩
        · rw [List.getElem?_set_ne ej] at hj
          rw [if_neg ej, if_neg ej]
          have q := fr.slot j md hj
          have hj2 : md = .cs ∨ (md = .fz ∧ 1 ≤ j) := by
            unfold mds0 at hj
            rcases j with _ | j
            · cases hj; exact .inl rfl
            · rw [show ([Md.cs] ++ List.replicate (N.length - [Md.cs].length) Md.fz)[j + 1]? = (List.replicate (N.length - [Md.cs].length) Md.fz)[j]? from rfl, List.getElem?_replicate] at hj
              split at hj
              · cases hj; exact .inr ⟨rfl, by omega⟩
              · cases hj
          rcases hj2 with rfl | ⟨rfl, h1⟩
          · exact let ⟨a, vs, ds, h1, h2, h3, h4, h5⟩ := q; ⟨a, vs, ds, h1, h2, ex.l h3, h4, h5.mono ex⟩
          · intro d e
            rw [env0_out (by simpa using h1)] at e
            cases e
      refine hrest p H1 (p :: g.G) (p :: g.G) _ _ _ H1 [xs] _ ⟨fr3, gi3, Evo.refl _ _, fun a h n => absurd h n⟩ ⟨fun ρ' S' e => ?_, fun d S' e v H' ev gi' rs => ?_, fun ρ' S' e => ?_, fun xc ρ' S' e => ?_, fun e => ne e⟩
      · rw [e] at hpure; cases hpure
      · rw [e] at hpure
        cases hpure
        have rs : Is K (Fz _ H') v (.bool true) := rs
        cases rs
        exact hq H'
      · rw [e] at hpure; cases hpure
      · rw [e] at hpure; cases hpure
    | _ => exact absurd rfl ne
end PD
/-! PDq: several names given at once. -/
namespace PD
open PySem PySem.Spec PyProof.Rows L2
section
variable {K : PySem.W.Frag} {g : Gx} {B0 B B' : List Addr} {ow ow' : Addr → Nat} {m : List Md} {ρ : Env} {σ : L2.St} {H H' : Hp} {i : Nat}
theorem SlotOk.relabel {md : Md} {od : Option PyData} {ov : Option V} (h : SlotOk K g B0 B ow H i md od ov) (e : Ex (Fz B H) (Fz B' H')) (hB : ∀ a ∈ B, a ∈ B') (hO : ∀ a, Own B0 B ow i a → ow' a = i) (ho : ∀ a o, Own B0 B ow i a → H a = some o → H' a = some o) : SlotOk K g B0 B' ow' H' i md od ov := by
  have k : ∀ {a}, Own B0 B ow i a → Own B0 B' ow' i a := fun {a} q => ⟨hB a q.1, q.2.1, hO a q⟩
  cases md with
  | un => trivial
  | fz => exact fun d hd => let ⟨v, a, b⟩ := h d hd; ⟨v, a, b.mono e⟩
  | own =>
    obtain ⟨d, p, h1, h2, h3, h4⟩ := h
    exact ⟨d, p, h1, h2, k h3, h4.mono e fun o q => ho p o h3 q⟩
  | own2 =>
    obtain ⟨ds, p, qs, h1, h2, h3, h4, h5, h6⟩ := h
    refine ⟨ds, p, qs, h1, h2, fun q hq => k (h3 q hq), h4, ho p _ (h3 p (List.mem_cons_self ..)) h5, ?_⟩
    have h3' : ∀ q ∈ qs, Own B0 B ow i q := fun q hq => h3 q (List.mem_cons_of_mem _ hq)
    clear h1 h2 h3 h4 h5
    induction h6 with
    | nil => exact .nil
    | cons r t ih => exact .cons (r.mono e fun o q => ho _ o (h3' _ (List.mem_cons_self ..)) q) (ih fun q hq => h3' q (List.mem_cons_of_mem _ hq))
  | st k => exact h
  | ea => exact let ⟨a, x, d, h1, h2, h3⟩ := h; ⟨a, x, d, h1, h2, h3.mono e⟩
  | lm => exact h
  | cs => exact let ⟨a, vs, ds, h1, h2, h3, h4, h5⟩ := h; ⟨a, vs, ds, h1, h2, e.l h3, h4, h5.mono e⟩
theorem under_ex {p : Addr} (ev : Evo g.G H H') (hp : H p = none) (hs : ∀ a ∈ g.G, a ∈ B) : Ex (Fz B H) (Fz (p :: B) H') := fun a u q => by
  have q := fz_some.mp q
  have ne : a ≠ p := ne_of_none q.2 hp
  exact fz_some.mpr ⟨fun z => (List.mem_cons.mp z).elim ne q.1, ev a u (fun z => q.1 (hs a z)) q.2⟩
/-- a new address, no slot's yet -/
theorem Frame.hold (f : Frame K g B0 B ow m ρ σ H) {p : Addr} (ev : Evo g.G H H') (hs : ∀ a ∈ g.G, a ∈ B) (hp : H p = none) (hn : p ∉ B) : Frame K g B0 (p :: B) (fun a => if a = p then m.length else ow a) m ρ σ H' :=
  ⟨f.lm, f.ls, fun a h => List.mem_cons_of_mem _ (f.sub a h), f.gsub, fun i md h => (f.slot i md h).relabel (under_ex ev hp hs) (fun a h => List.mem_cons_of_mem _ h)
    (fun a h => by
      show (if a = p then m.length else ow a) = i
      rw [if_neg fun (z : a = p) => hn (z ▸ h.1)]
      exact h.2.2) fun a o h q => ev a o (fun z => h.2.1 (f.gsub a z)) q⟩
/-- a slot takes a held list -/
theorem Frame.take (f : Frame K g B0 B ow m ρ σ H) {j : Nat} {p : Addr} {d : PyData} (hj : j < m.length) (hp : p ∈ B ∧ p ∉ B0 ∧ ow p = m.length) (ht : Top K B H p d) : Frame K g B0 B (fun a => if a = p then j else ow a) (m.set j .own) (ρ.set j (some d)) (σ.set j (some (.ref p))) H := by
  have hρ : j < ρ.length := by rw [← f.lm]; exact hj
  have hσ : j < σ.length := by rw [f.ls]; exact hρ
  refine ⟨by simp [f.lm], by simp [f.ls], f.sub, f.gsub, fun k md hk => ?_⟩
  rw [getD_set hρ, getD_set hσ]
  by_cases e : j = k
  · subst e
    rw [List.getElem?_set_self hj] at hk
    cases hk
    rw [if_pos rfl, if_pos rfl]
    exact ⟨d, p, rfl, rfl, ⟨hp.1, hp.2.1, if_pos rfl⟩, ht⟩
  · rw [List.getElem?_set_ne e] at hk
    rw [if_neg e, if_neg e]
    have hkl : k < m.length := (List.getElem?_eq_some_iff.mp hk).1
    refine (f.slot k md hk).relabel (Ex.refl _) (fun _ h => h) (fun a h => ?_) fun a o _ q => q
    show (if a = p then j else ow a) = k
    rw [if_neg fun (z : a = p) => by rw [z] at h; have := h.2.2; omega]
    exact h.2.2
/-- what several expressions gave: frozen values, new lists (at ps) -/
inductive Its (K : PySem.W.Frag) (B : List Addr) (H : Hp) : List Bool → List V → List PyData → List Addr → Prop
  | nil : Its K B H [] [] [] []
  | fz {ks : List Bool} {v : V} {vs : List V} {d : PyData} {ds : List PyData} {ps : List Addr} : Is K (Fz B H) v d → Its K B H ks vs ds ps → Its K B H (false :: ks) (v :: vs) (d :: ds) ps
  | own {ks : List Bool} {p : Addr} {vs : List V} {d : PyData} {ds : List PyData} {ps : List Addr} : Top K B H p d → p ∉ ps → Its K B H ks vs ds ps → Its K B H (true :: ks) (.ref p :: vs) (d :: ds) (p :: ps)
theorem Its.mono (e : Ex (Fz B H) (Fz B H')) (hx : Ex H H') {ks : List Bool} {vs : List V} {ds : List PyData} {ps : List Addr} (h : Its K B H ks vs ds ps) : Its K B H' ks vs ds ps := by
  induction h with
  | nil => exact .nil
  | fz h _ ih => exact .fz (h.mono e) ih
  | own h n _ ih => exact .own (h.mono e fun o q => hx _ o q) n ih
theorem Its.len {ks : List Bool} {vs : List V} {ds : List PyData} {ps : List Addr} (h : Its K B H ks vs ds ps) : vs.length = ks.length := by
  induction h with
  | nil => rfl
  | fz _ _ ih => simp [ih]
  | own _ _ _ ih => simp [ih]
def setMds (m : List Md) : List Nat → List Bool → List Md
  | i :: is, k :: ks => setMds (m.set i (if k = true then .own else .fz)) is ks
  | _, _ => m
theorem Frame.puts : ∀ {is : List Nat} {ks : List Bool} {vs : List V} {ds : List PyData} {ps : List Addr} {ow : Addr → Nat} {m : List Md} {ρ ρ' : Env} {σ : L2.St}, Its K B H ks vs ds ps → Frame K g B0 B ow m ρ σ H → (∀ i ∈ is, i < m.length) → (∀ p ∈ ps, p ∈ B ∧ p ∉ B0 ∧ ow p = m.length) → setAll ρ is ds = some ρ' →
    ∃ ow', Frame K g B0 B ow' (setMds m is ks) ρ' ((is.zip vs).foldl (fun s p => s.set p.1 (some p.2)) σ) H
  | [], ks, vs, ds, ps, ow, m, ρ, ρ', σ, h, f, hi, hp, e => by
    cases h with
    | nil => cases e; exact ⟨ow, f⟩
    | fz _ _ => cases e
    | own _ _ _ => cases e
  | i :: is, ks, vs, ds, ps, ow, m, ρ, ρ', σ, h, f, hi, hp, e => by
    cases h with
    | nil => cases e
    | fz h1 h2 =>
      obtain ⟨ow', q⟩ := Frame.puts (is := is) h2 (f.put (hi i (List.mem_cons_self ..)) h1) (fun j hj => by rw [List.length_set]; exact hi j (List.mem_cons_of_mem _ hj)) (fun p hq => by rw [List.length_set]; exact hp p hq) e
      exact ⟨ow', q⟩
    | own h1 h2 h3 =>
      obtain ⟨ow', qq⟩ := Frame.puts (is := is) h3 (f.take (hi i (List.mem_cons_self ..)) (hp _ (List.mem_cons_self ..)) h1) (fun j hj => by rw [List.length_set]; exact hi j (List.mem_cons_of_mem _ hj)) (fun q hq => by
        rw [List.length_set]
        obtain ⟨q1, q2, q3⟩ := hp q (List.mem_cons_of_mem _ hq)
        exact ⟨q1, q2, (if_neg (by intro z; subst z; exact h2 hq)).trans q3⟩) e
      exact ⟨ow', qq⟩
theorem gfold : ∀ {is : List Nat} {vs : List V} {σ : L2.St} {Q : L2.St → Hp → Prop}, vs.length = is.length → Q ((is.zip vs).foldl (fun s p => s.set p.1 (some p.2)) σ) H → (is.foldr (fun i u => gCons (gName i) u) gNil) vs σ H Q
  | [], [], σ, Q, _, q => ⟨rfl, q⟩
  | [], _ :: _, σ, Q, h, q => by cases h
  | _ :: _, [], σ, Q, h, q => by cases h
  | i :: is, v :: vs, σ, Q, h, q => ⟨v, vs, rfl, gfold (is := is) (by simpa using h) q⟩
end
/-- several expressions, one behind the other -/
def EQ (c : Cc) (m : List Md) (ks : List Bool) (es : List Expr) (den : DA) : Prop := ∀ σ H ρ S B0 B ow (Q : List V → Hp → Prop), Frame c.X.K c.g B0 B ow m ρ σ H → GI c.X.K c.g B H S →
  (∀ ds S' vs H' B' ow' ps, den ρ S = .ok ds S' → Evo c.g.G H H' → GI c.X.K c.g B' H' S' → Frame c.X.K c.g B0 B' ow' m ρ σ H' → Its c.X.K B' H' ks vs ds ps → (∀ p ∈ ps, p ∈ B' ∧ H p = none ∧ ow' p = m.length) → Ex (Fz B H) (Fz B' H') → (∀ a ∈ B, a ∈ B' ∧ ow' a = ow a) → (∀ a ∈ B', a ∉ B → H a = none) → Q vs H') →
  (∀ x S', den ρ S = .exc x S' → XOk c B H σ x S') → den ρ S ≠ .bad → WA c.X es σ H Q
section
variable {c : Cc} {x : Fx} {m m' m1 m2 : List Md} {He : Hp} {B0 B : List Addr} {ow : Addr → Nat} {ρ : Env} {σ : L2.St} {H : Hp} {S : Store} {D : Ends} {ks : List Bool} {e : Expr} {es : List Expr} {a : DE} {r : DA}
theorem eq_nil : EQ c m [] [] dNil := fun σ H ρ S B0 B ow Q fr gi k _ _ => WA.of pa_nil (k [] S [] H B ow [] rfl (Evo.refl _ _) gi fr .nil (fun _ h => by cases h) (Ex.refl _) (fun a h => ⟨h, rfl⟩) (fun a h n => absurd h n))
theorem eq_val (ha : EV c m e a) (hr : EQ c m ks es r) (hs : Pl e := by intro _ _; rfl) : EQ c m (false :: ks) (e :: es) (dCons a r) := by
  intro σ H ρ S B0 B ow Q fr gi k kx kb
  refine WA.of (pa_cons we wa (hs _ _)) (ha σ H ρ S B0 B ow _ fr gi ⟨fun d S1 v H1 e1 ev gi1 gd => ?_, fun x S' e1 => kx x S' (by unfold dCons; rw [e1]; rfl), fun e1 => kb (by unfold dCons; rw [e1]; rfl)⟩)
  refine hr σ H1 ρ S1 B0 B ow _ (fr.evo ev) gi1 (fun ds S' vs H' B' ow' ps e2 ev2 gi2 fr2 it hp ex hB hn => ?_) (fun x S' e2 cls dd H' ev2 gi2 xr => ?_) (fun e2 => kb (by unfold dCons; rw [e1]; simp only [R.bind_ok]; rw [e2]; rfl))
  · exact k (d :: ds) S' (v :: vs) H' B' ow' ps (by unfold dCons; rw [e1]; simp only [R.bind_ok]; rw [e2]; rfl) (ev.trans ev2) gi2 fr2 (.fz (gd.mono ex) it) (fun p hq => ⟨(hp p hq).1, free_back ev gi1 (hp p hq).2.1, (hp p hq).2.2⟩) ((ev.fz gi.sub).trans ex) hB (fun a ha n => free_back ev gi1 (hn a ha n))
  · exact kx x S' (by unfold dCons; rw [e1]; simp only [R.bind_ok]; rw [e2]; rfl) cls dd H' (ev.trans ev2) gi2 xr
theorem eq_own (ha : EO c m e a) (hr : EQ c m ks es r) (hs : Pl e := by intro _ _; rfl) : EQ c m (true :: ks) (e :: es) (dCons a r) := by
  intro σ H ρ S B0 B ow Q fr gi k kx kb
  refine WA.of (pa_cons we wa (hs _ _)) (ha σ H ρ S B0 B ow _ fr gi ⟨fun d S1 v H1 e1 ev gi1 gd => ?_, fun x S' e1 => kx x S' (by unfold dCons; rw [e1]; rfl), fun e1 => kb (by unfold dCons; rw [e1]; rfl)⟩)
  obtain ⟨p, rfl, hp0, ht, gi1'⟩ := gd
  have hn0 : p ∉ B := new_notin gi.kn hp0
  have exP := under_ex ev hp0 gi.sub
  have hpG : p ∉ c.g.G := fun z => hn0 (gi.sub p z)
  refine hr σ H1 ρ S1 B0 (p :: B) _ _ (fr.hold ev gi.sub hp0 hn0) gi1' (fun ds S' vs H' B' ow' ps e2 ev2 gi2 fr2 it hp ex hB hn => ?_) (fun x S' e2 cls dd H' ev2 gi2 xr => ?_) (fun e2 => kb (by unfold dCons; rw [e1]; simp only [R.bind_ok]; rw [e2]; rfl))
  · have hBp := hB p (List.mem_cons_self ..)
    have nps : p ∉ ps := fun z => ht.some (hp p z).2.1
    refine k (d :: ds) S' (.ref p :: vs) H' B' ow' (p :: ps) (by unfold dCons; rw [e1]; simp only [R.bind_ok]; rw [e2]; rfl) (ev.trans ev2) gi2 fr2 (.own (ht.mono ex fun o q => ev2 p o hpG q) nps it) (fun q hq => ?_) (exP.trans ex) (fun a ha => ?_) (fun a ha n => ?_)
    · rcases List.mem_cons.mp hq with rfl | hq
      · exact ⟨hBp.1, hp0, hBp.2.trans (if_pos rfl)⟩
      · exact ⟨(hp q hq).1, free_back ev gi1 (hp q hq).2.1, (hp q hq).2.2⟩
    · have q := hB a (List.mem_cons_of_mem _ ha)
      exact ⟨q.1, q.2.trans (if_neg fun (z : a = p) => hn0 (z ▸ ha))⟩
    · by_cases z : a = p
      · rw [z]; exact hp0
      · exact free_back ev gi1 (hn a ha fun q => (List.mem_cons.mp q).elim z n)
  · exact kx x S' (by unfold dCons; rw [e1]; simp only [R.bind_ok]; rw [e2]; rfl) cls dd H' (ev.trans ev2) (gi2.less (fun a h => List.mem_cons_of_mem _ h) gi.sub) (xr.mono (fz_anti fun a h => List.mem_cons_of_mem _ h))
def dPar (is : List Nat) (as : DA) : DS := fun ρ S => (as ρ S).st ρ fun ds S1 => match setAll ρ is ds with | some ρ1 => .nx ρ1 S1 | none => .bad
theorem sv_parG {is : List Nat} {as : DA} {st : Stmt} {F : Ends → L2.St → List V → Hp → Prop} (ha : EQ c m ks es as) (hi : ∀ i ∈ is, i < m.length) (hl : is.length = ks.length)
    (hp : ∀ ta, PA c.X es ta → PS c.X st (fun D σ H => ta σ H (F D σ)))
    (hF : ∀ D σ vs H1, vs.length = is.length → (∀ Hx, (∀ a o, H1 a = some o → Hx a = some o) → D.nx ((is.zip vs).foldl (fun s p => s.set p.1 (some p.2)) σ) Hx) → F D σ vs H1)
    (hx : WkX m x.mx = true := by rfl) : SV c x m (setMds m is ks) st (dPar is as) := by
  intro He B0 B ow ρ σ H S D i1 w
  refine WS.of (hp _ wa) ?_
  refine ha σ H ρ S B0 B ow _ i1.fr i1.gi (fun ds S' vs H' B' ow' ps e ev gi' fr' it hps ex hB hn => hF _ _ _ _ (by rw [it.len, hl]) fun Hx hxx => ?_) (fun xc S' e => xok i1 hx w xc S' e) (fun e => w.nb (by unfold dPar; rw [e]; rfl))
  cases es' : setAll ρ is ds with
  | none => exact absurd (by unfold dPar; rw [e]; simp only [R.st_ok, es']) w.nb
  | some ρ1 =>
    have exx : Ex H' Hx := hxx
    have frx := fr'.evo exx.evo
    have itx : Its c.X.K B' Hx ks vs ds ps := it.mono exx.fz exx
    obtain ⟨ow2, fr2⟩ := Frame.puts itx frx hi (fun p hq => ⟨(hps p hq).1, fun z => by
      have := i1.gi.kn p (i1.fr.sub p z)
      exact this (hps p hq).2.1, (hps p hq).2.2⟩) es'
    refine w.nx ρ1 S' (by unfold dPar; rw [e]; simp only [R.st_ok, es']) _ Hx B' ow2 ⟨fr2, gi'.ex exx, i1.ev.trans (ev.trans exx.evo), fun p hq hq0 => ?_⟩ (ex.trans exx.fz)
    by_cases hb : p ∈ B
    · exact i1.nw p hb hq0
    · exact free_back i1.ev i1.gi (hn p hq hb)
/-- two, three at once -/
theorem sv_par2 {i j : Nat} {as : DA} {tgs : List Expr} {kt k0 : Nat} {q1 q2 q3 : Pos} {k1 k2 : Bool} (ha : EQ c m [k1, k2] es as) (hi : ∀ k ∈ [i, j], k < m.length) (hp : ∀ ta, PA c.X es ta → PS c.X (.Assign [.Tuple tgs kt q1] (.Tuple es k0 q2) q3) (tPar i j ta)) (hx : WkX m x.mx = true := by rfl) : SV c x m (setMds m [i, j] [k1, k2]) (.Assign [.Tuple tgs kt q1] (.Tuple es k0 q2) q3) (dPar [i, j] as) :=
  sv_parG (F := fun D σ vs H1 => ∃ v w, vs = [v, w] ∧ D.nx ((σ.set i (some v)).set j (some w)) H1) ha hi rfl hp (fun D σ vs H1 hl k => by
    match vs, hl with
    | [v, w], _ => exact ⟨v, w, rfl, k H1 fun _ _ h => h⟩) hx
theorem sv_par3 {i j l : Nat} {as : DA} {tgs : List Expr} {kt k0 : Nat} {q1 q2 q3 : Pos} {k1 k2 k3 : Bool} (ha : EQ c m [k1, k2, k3] es as) (hi : ∀ k ∈ [i, j, l], k < m.length) (hp : ∀ ta, PA c.X es ta → PS c.X (.Assign [.Tuple tgs kt q1] (.Tuple es k0 q2) q3) (tPar3 i j l ta)) (hx : WkX m x.mx = true := by rfl) : SV c x m (setMds m [i, j, l] [k1, k2, k3]) (.Assign [.Tuple tgs kt q1] (.Tuple es k0 q2) q3) (dPar [i, j, l] as) :=
  sv_parG (F := fun D σ vs H1 => ∃ u v w, vs = [u, v, w] ∧ D.nx (((σ.set i (some u)).set j (some v)).set l (some w)) H1) ha hi rfl hp (fun D σ vs H1 hl k => by
    match vs, hl with
    | [u, v, w], _ => exact ⟨u, v, w, rfl, k H1 fun _ _ h => h⟩) hx
/-- .. by a tuple that is made and taken apart -/
theorem sv_parT {is : List Nat} {as : DA} {tgs : List Expr} {kt k0 : Nat} {q1 q2 q3 : Pos} (ha : EQ c m ks es as) (hi : ∀ i ∈ is, i < m.length) (hl : is.length = ks.length) (hz : is.length ≤ 1000) (hp : ∀ ta, PA c.X es ta → PS c.X (.Assign [.Tuple tgs kt q1] (.Tuple es k0 q2) q3) (tAsg (tTup ta) (gTup c.X.K is.length (is.foldr (fun i u => gCons (gName i) u) gNil)))) (hx : WkX m x.mx = true := by rfl) :
    SV c x m (setMds m is ks) (.Assign [.Tuple tgs kt q1] (.Tuple es k0 q2) q3) (dPar is as) :=
  sv_parG (F := fun D σ xs H1 => xs.length ≤ sizeLine ∧ ∀ p, H1 p = none → gTup c.X.K is.length (is.foldr (fun i u => gCons (gName i) u) gNil) (.ref p) σ (upd H1 p (.tup xs)) D.nx) ha hi hl hp (fun D σ vs H1 hlen k => by
    refine ⟨by rw [hlen]; exact Nat.le_trans hz (by decide), fun p hp => ⟨p, vs, rfl, .inl (.inl upd_same), hlen, gfold hlen (k _ fun a o h => Ex.new hp a o h)⟩⟩) hx
end
end PD
/-! PDr: enumerate of a list, a tuple, a text, from 0 or from a start. -/
namespace PD
open PySem PySem.Spec PyProof.Rows L2
open Sem (wp)
theorem meets_enum1 {v : Value} {o : Obj} {Hq : Heap → Prop} (Bg : Begins v o Hq) :
    Meets (Builtin.«enumerate.__new__» ⟨[.type "enumerate", v], []⟩) (fun _ R s => Hq s.heap ∧
      R (.ok (.ret (.ref (s.heap.push o).objs.size))) { s with heap := (s.heap.push o).push { cls := .type "enumerate", data := .fields #[.none, .bool false, .ref s.heap.objs.size, rawInt 0, .none, .none] } }) :=
  .of_wp fun prog w A R s h => by
    obtain ⟨hp, gg, dd, tk, os⟩ := s; obtain ⟨a1, h⟩ := h
    have hsubE := sub_enumerate
    have step1 : ∀ {A' : Around} {E : Value → Shared → Prop} {Q : Value → Shared → Prop}, Q (.ref hp.objs.size) ⟨hp.push o, gg, dd, tk, os⟩ → wpAny (model prog w) A' (pyIter v) Q E ⟨hp, gg, dd, tk, os⟩ :=
      fun q => Bg.iter prog w _ _ ⟨hp, gg, dd, tk, os⟩ _ a1 q
    wp_walk using step1
    refine wpAny_stack_any fun st => wpAny_pure ?_
    split
    · rename_i c _ _ _ _ _
      cases (c == Value.type "enumerate")
      · wp_walk using step1
        exact ⟨_, rfl, h⟩
      · wp_walk using step1
        exact ⟨_, rfl, h⟩
    · wp_walk using step1
      exact ⟨_, rfl, h⟩
theorem enum_begins1 {prog : Program} {w : World} {A : Around} {E : Value → Shared → Prop} {s : Shared} {v : Value} {o : Obj} {Hq : Heap → Prop} {Q : Value → Shared → Prop} (Bg : Begins v o Hq) (h1 : Hq s.heap)
    (h : ∀ h', IsEnum h' (s.heap.objs.size + 1) s.heap.objs.size 0 .none → h'.get? s.heap.objs.size = some o → h'.objs.size = s.heap.objs.size + 2 →
      (∀ b o, s.heap.get? b = some o → h'.get? b = some o) → Q (.ref (s.heap.objs.size + 1)) { s with heap := h' }) :
    wpAny (model prog w) A (call (.type "enumerate") [v]) Q E s := by
  refine callType_new F.called_enumerate (by decide) (F.typeCall_enumerate_1 _) (F.newCall_enumerate_1 _) (fun obj => F.args_object_init_2 obj _) F.entry_enumerate_new
    (meets_enum1 Bg) ⟨h1, ?_⟩
  have z1 : (s.heap.push o).objs.size = s.heap.objs.size + 1 := Heap.size_push ..
  show _ ∧ _
  rw [z1]
  have ie : IsEnum ((s.heap.push o).push { cls := .type "enumerate", data := .fields #[.none, .bool false, .ref s.heap.objs.size, rawInt 0, .none, .none] }) (s.heap.objs.size + 1) s.heap.objs.size 0 .none := by
    have q := Heap.get?_push_size (s.heap.push o) (o := { cls := .type "enumerate", data := .fields #[.none, .bool false, .ref s.heap.objs.size, rawInt 0, .none, .none] }) rfl
    rw [z1] at q; exact q
  refine ⟨⟨_, ie, rfl⟩, h _ ie (Heap.get?_push_of_some _ (Heap.get?_push_size _ Bg.free)) (by rw [Heap.size_push, z1]) fun b o x => Heap.get?_push_of_some _ (Heap.get?_push_of_some _ x)⟩
/-- what is gone through -/
inductive Src where
  | l (a : Addr) | t (a : Addr) | s (z : Str)
def Src.v : Src → V | .l a => .ref a | .t a => .ref a | .s z => .str z
def Src.At (K : PySem.W.Frag) (r : Src) (H : Hp) (xs : List V) : Prop := match r with | .l a => SqL K H a xs | .t a => SqT K H a xs | .s z => xs = signs z
def Src.it (r : Src) (it : Addr) (i : Nat) (h : Heap) : Prop := match r with | .l a => h.IsListIter it a i | .t a => h.IsTupleIter it a i | .s z => ∃ t, h.IsStrIter it (strIterType z) z t i
/-- each item in a new pair, counted from k -/
def Ien (K : PySem.W.Frag) (k : Int) (r : Src) (n : Nat) : It :=
  ⟨fun i H => ∃ (xs : List V) (x : V), r.At K H xs ∧ xs.length = n ∧ xs[i]? = some x, fun i H v H' => ∃ T x, v = .ref T ∧ H T = none ∧ H' = upd H T (.tup [.int (k + (i : Nat)), x]) ∧ ∀ xs, r.At K H xs → xs[i]? = some x, fun i H => ∃ xs : List V, r.At K H xs ∧ xs.length = n ∧ n ≤ i⟩
theorem src_draws {X : Cx} {pins : List (Addr × Obj)} {σ : L2.St} {H : Hp} {s : Shared} (I : Inv X pins σ H s) (hc : X.calm = true) {r : Src} {xs : List V} {it e : Addr} {i : Nat} {k : Int} {old : Value} (hs : r.At X.K H xs) (hit : r.it it i s.heap) (he : IsEnum s.heap e it k old) (hne : e ≠ it) :
    ∃ (fp : List Addr) (P : Nat → Value → Prop) (St : Nat → Heap → Prop), Draws X.prog X.w X.A.in1 it fp xs.length P St ∧ St i s.heap ∧ e ∉ fp ∧ (∀ u, P i u → ∃ x, xs[i]? = some x ∧ RelV x u) ∧ ∀ j h', St j h' → r.it it j h' := by
  have hd : X.A.in1.handled = none := I.ok.hd hc
  cases r with
  | l a =>
    obtain ⟨its, rv, p, hz⟩ := I.list hs
    have el := rv.length
    have nai : a ≠ it := fun z => by
      obtain ⟨o, h1, h2, h3⟩ := hit
      obtain ⟨o', h4, h5, _⟩ := p.isList
      rw [z, h1] at h4
      cases h4
      rw [h2] at h5
      exact absurd h5 (by decide)
    refine ⟨_, _, _, (show xs.length = its.toArray.size by simpa using el) ▸ Draws.list hd it a nai its.toArray, ⟨hit, p.isList⟩, fun z => ?_, fun u hu => ?_, fun j h' st => st.1⟩
    · rcases List.mem_cons.mp z with z | z
      · exact hne z
      · obtain rfl := List.mem_singleton.mp z
        obtain ⟨o', h4, h5, _⟩ := p.isList
        rw [he] at h4
        cases h4
        exact absurd (show Value.type "enumerate" = Value.type "list" from h5) (by decide)
    · have hu : its.toArray[i]? = some u := hu
      have hi : i < xs.length := by
        have := (Array.getElem?_eq_some_iff.mp hu).1
        simpa [el] using this
      obtain ⟨w, hw, rw'⟩ := rv.get (List.getElem?_eq_getElem hi)
      rw [List.getElem?_toArray, hw] at hu
      cases hu
      exact ⟨_, List.getElem?_eq_getElem hi, rw'⟩
  | t a =>
    obtain ⟨its, rv, p, hz⟩ := I.tuple hs
    have p' : s.heap.IsTuple a its.toArray := p
    have el := rv.length
    have nai : a ≠ it := fun z => by
      obtain ⟨o, h1, h2, h3⟩ := hit
      obtain ⟨o', h4, h5, _⟩ := p'
      rw [z, h1] at h4
      cases h4
      rw [h2] at h5
      exact absurd h5 (by decide)
    refine ⟨_, _, _, (show xs.length = its.toArray.size by simpa using el) ▸ Draws.tuple hd it a nai its.toArray, ⟨hit, p'⟩, fun z => ?_, fun u hu => ?_, fun j h' st => st.1⟩
    · rcases List.mem_cons.mp z with z | z
      · exact hne z
      · obtain rfl := List.mem_singleton.mp z
        obtain ⟨o', h4, h5, _⟩ := p'
        rw [he] at h4
        cases h4
        exact absurd (show Value.type "enumerate" = Value.type "tuple" from h5) (by decide)
    · have hu : its.toArray[i]? = some u := hu
      have hi : i < xs.length := by
        have := (Array.getElem?_eq_some_iff.mp hu).1
        simpa [el] using this
      obtain ⟨w, hw, rw'⟩ := rv.get (List.getElem?_eq_getElem hi)
      rw [List.getElem?_toArray, hw] at hu
      cases hu
      exact ⟨_, List.getElem?_eq_getElem hi, rw'⟩
  | s z =>
    obtain ⟨t, hit⟩ := hit
    have hs : xs = signs z := hs
    subst hs
    have el : (signs z).length = z.cps.size := by unfold signs; rw [List.length_map, Array.length_toList]
    refine ⟨_, _, _, el ▸ Draws.text hd it z t, hit, fun q => hne (List.mem_singleton.mp q), fun u hu => ?_, fun j h' st => ⟨t, st⟩⟩
    obtain ⟨cc, t2, h1, rfl⟩ := hu
    refine ⟨.str ⟨#[cc]⟩, ?_, ⟨t2, rfl⟩⟩
    unfold signs
    rw [List.getElem?_map, Array.getElem?_toList, h1]
    rfl
theorem Src.it_keep {r : Src} {it : Addr} {i : Nat} {h h' : Heap} (st : r.it it i h) (k : ∀ o, h.get? it = some o → h'.get? it = some o) : r.it it i h' := by
  cases r with
  | l a => exact Heap.IsListIter.at st fun o e => k o e
  | t a => exact Heap.IsTupleIter.at st fun o e => k o e
  | s z => obtain ⟨t, o, ho, q⟩ := st; exact ⟨t, o, k o ho, q⟩
theorem Src.it_obj {r : Src} {it : Addr} {i : Nat} {h : Heap} (st : r.it it i h) : ∃ o, h.get? it = some o ∧ ∀ v, o.data ≠ .cell v := by
  cases r with
  | l a => obtain ⟨o, ho, _, hd⟩ := st; exact ⟨o, ho, fun v z => by rw [hd] at z; cases z⟩
  | t a => obtain ⟨o, ho, _, hd⟩ := st; exact ⟨o, ho, fun v z => by rw [hd] at z; cases z⟩
  | s z => obtain ⟨t, o, ho, _, hd⟩ := st; exact ⟨o, ho, fun v z => by rw [hd] at z; cases z⟩
theorem Src.At_inj {X : Cx} {pins : List (Addr × Obj)} {σ : L2.St} {H : Hp} {s : Shared} (I : Inv X pins σ H s) {r : Src} {xs ys : List V} (h1 : r.At X.K H xs) (h2 : r.At X.K H ys) : xs = ys := by
  cases r with
  | l a => exact I.list_inj h1 h2
  | t a => exact I.tuple_inj h1 h2
  | s z => exact (show xs = signs z from h1).trans (show ys = signs z from h2).symm
theorem turn_en {P : Program} {w : World} {K : PySem.W.Frag} {elts : List Expr} {kk : Nat} {tpos : Pos} (r : Src) (k : Int) (n : Nat) (e it : Addr) :
    Turn P w K (.Tuple elts kk tpos) (Ien K k r n) [e, it] e (fun i h => (∃ old, IsEnum h e it (k + ((i : Nat) : Int)) old) ∧ r.it it i h ∧ e ≠ it ∧ i ≤ n) where
  mem := by simp
  obj := fun i h st b hb => by
    obtain ⟨⟨old, he⟩, hi, _⟩ := st
    rcases (show b = e ∨ b = it by simpa using hb) with z | z
    · rw [z]; exact ⟨_, he, fun v q => nomatch q⟩
    · rw [z]; exact Src.it_obj hi
  keep := fun i h h' st q => let ⟨⟨old, he⟩, hi, hne, hn⟩ := st; ⟨⟨old, q e (by simp) _ he⟩, Src.it_keep hi fun o z => q it (by simp) o z, hne, hn⟩
  item := by
    intro X hP hw hK hc i pins s σ H E I hf st hg
    subst hP hw hK
    obtain ⟨⟨old, he⟩, hit, hne, hin⟩ := st
    obtain ⟨xs, x, hq, hxl, hx⟩ := hg
    obtain ⟨fp, P, St, D, st0, hef, hP, hSt⟩ := src_draws I hc hq hit he hne
    have hlt : i < xs.length := (List.getElem?_eq_some_iff.mp hx).1
    have hel : e < s.heap.objs.size := Heap.lt_size he
    have hil : it < s.heap.objs.size := by obtain ⟨_, q, _⟩ := Src.it_obj hit; exact Heap.lt_size q
    refine wpAny_pyNext_enum_itemC D he st0 hlt hne hef fun u h' tk hPu ho st' hT hsz hk => ?_
    obtain ⟨x', hx', ru⟩ := hP u hPu
    rw [hx] at hx'
    cases hx'
    refine ⟨_, rfl, wpAny_letOwnedTupleGo_enum (s := { s with heap := h', toks := tk + 1 }) ho fun h'' he' sb => ?_⟩
    have hT2 : h''.get? s.heap.objs.size = some { cls := .type "tuple", data := .seq #[.int (k + (i : Nat)) tk, u] } := (sb.2 _ (Nat.ne_of_gt hel)).trans hT
    have new : ObjOk X.prog X.w (upd H s.heap.objs.size (.tup [.int (k + (i : Nat)), x])) h'' s.heap.objs.size (.tup [.int (k + (i : Nat)), x]) :=
      ⟨by show 2 ≤ sizeLine; decide, [.int (k + (i : Nat)) tk, u], .cons ⟨_, rfl⟩ (.cons ru .nil), ⟨_, hT2, rfl, _, rfl⟩⟩
    have I1 : Inv X pins σ (upd H s.heap.objs.size (.tup [.int (k + (i : Nat)), x])) { s with heap := h'', toks := tk + 1 } :=
      I.turnedNew (ch := [e, it]) (fun b ob hb q => (sb.2 b (fun z => hb (by simp [z]))).trans (hk b ob (fun z => hb (by simp [z])) (fun z => hb (by simp [z])) q)) hf (Nat.le_refl _) new
    refine ⟨.ref s.heap.objs.size, _, I1, rfl, ⟨_, x, rfl, I.hok.fresh (Nat.le_refl _), rfl, fun ys hy => by rw [Src.At_inj I hy hq]; exact hx⟩, ⟨⟨u, ?_⟩, Src.it_keep (hSt _ _ st') fun o q => (sb.2 it (Ne.symm hne)).trans q, hne, by omega⟩, fun b hb => ?_⟩
    · have e1 : k + ((i + 1 : Nat) : Int) = k + (i : Int) + 1 := by omega
      rw [e1]; exact he'
    · have hb' : b < s.heap.objs.size := by
        rcases (show b = e ∨ b = it by simpa using hb) with z | z
        · rw [z]; exact hel
        · rw [z]; exact hil
      rw [upd_ne (Nat.ne_of_lt hb')]
      exact (hf b hb).1
  done := by
    intro X hP hw hK hc i pins s σ H E I hf st hg
    subst hP hw hK
    obtain ⟨⟨old, he⟩, hit, hne, hin⟩ := st
    obtain ⟨xs, hq, hxl, hx⟩ := hg
    obtain ⟨fp, P, St, D, st0, hef, hP, hSt⟩ := src_draws I hc hq hit he hne
    obtain ⟨f0, f1, f2, f3, f4, f5⟩ := hf it (by simp)
    obtain rfl : i = xs.length := by omega
    exact wpAny_pyNext_enum_endD D he st0 fun h' eb => ⟨rfl, I.turned (t' := s.toks) (fun b o hb q => eb b o hb q) f0 f1 f3 f4 f5⟩
  self := fun A i s Q E st h => let ⟨⟨_, he⟩, _⟩ := st; wpAny_pyIter_enum he h
theorem src_begins {X : Cx} {pins : List (Addr × Obj)} {σ : L2.St} {H : Hp} {s : Shared} (I : Inv X pins σ H s) {r : Src} {xs : List V} {u : Value} (hs : r.At X.K H xs) (ru : RelV r.v u) :
    ∃ (o : Obj) (Hq : Heap → Prop), Begins u o Hq ∧ Hq s.heap ∧ ∀ (h' : Heap) (it : Addr), h'.get? it = some o → r.it it 0 h' := by
  cases r with
  | l a =>
    obtain rfl : u = Value.ref a := ru
    obtain ⟨its, rv, p, hz⟩ := I.list hs
    exact ⟨_, _, begins_list a its.toArray, p.isList, fun h' it e => ⟨_, e, rfl, rfl⟩⟩
  | t a =>
    obtain rfl : u = Value.ref a := ru
    obtain ⟨its, rv, p, hz⟩ := I.tuple hs
    exact ⟨_, _, begins_tuple a its.toArray, p, fun h' it e => ⟨_, e, rfl, rfl⟩⟩
  | s z =>
    obtain ⟨t, rfl⟩ := ru
    exact ⟨_, _, begins_text z t, trivial, fun h' it e => ⟨t, _, e, rfl, rfl⟩⟩
/-- behind the call's argument -/
theorem en_iter {X : Cx} {pins : List (Addr × Obj)} {σ : L2.St} {H : Hp} {s : Shared} {elts : List Expr} {kk : Nat} {tpos : Pos} (I : Inv X pins σ H s) {r : Src} {xs : List V} {k : Int} {R : It → Hp → Prop} {h' : Heap}
    (he : IsEnum h' (s.heap.objs.size + 1) s.heap.objs.size k .none) (hit : r.it s.heap.objs.size 0 h') (hk : ∀ b o, s.heap.get? b = some o → h'.get? b = some o) (q : R (Ien X.K k r xs.length) H) :
    wpAny (model X.prog X.w) X.A (pyIter (.ref (s.heap.objs.size + 1))) (PIE X pins σ (.Tuple elts kk tpos) R) X.xe { s with heap := h' } := by
  refine wpAny_pyIter_enum he ?_
  have I2 : Inv X pins σ H { s with heap := h' } := I.kept (t' := s.toks) hk
  refine ⟨s.heap.objs.size + 1, [s.heap.objs.size + 1, s.heap.objs.size], _, _, H, rfl, I2, turn_en r k xs.length (s.heap.objs.size + 1) s.heap.objs.size, ⟨⟨.none, by rw [show k + ((0 : Nat) : Int) = k from by omega]; exact he⟩, hit, Nat.succ_ne_self _, Nat.zero_le _⟩, fun b hb => ?_, q⟩
  have hle : s.heap.objs.size ≤ b := by
    rcases (show b = s.heap.objs.size + 1 ∨ b = s.heap.objs.size by simpa using hb) with z | z
    · rw [z]; exact Nat.le_add_right _ _
    · rw [z]; exact Nat.le_refl _
  exact I.fpOk hle (I.hok.fresh hle)
def iEn1 (K : PySem.W.Frag) (ta : TA) : TI := fun σ H R => ta σ H fun vs H1 => ∃ (r : Src) (xs : List V), vs = [r.v] ∧ r.At K H1 xs ∧ R (Ien K 0 r xs.length) H1
def iEn2 (K : PySem.W.Frag) (ta : TA) : TI := fun σ H R => ta σ H fun vs H1 => ∃ (r : Src) (xs : List V) (k : Int), vs = [r.v, .int k] ∧ -(2 ^ 63) ≤ k ∧ k < 2 ^ 63 ∧ r.At K H1 xs ∧ R (Ien K k r xs.length) H1
theorem pi_en1 {X : Cx} {e : Expr} {ta : TA} {p pos tpos : Pos} {elts : List Expr} {kk : Nat} (hg : Gl X "enumerate") (hm : X.mg "enumerate" = none) (ha : PA X [e] ta) (hs : starEach [e] X.env = [(false, eval e X.env)] := by rfl) :
    PI X (.Tuple elts kk tpos) (.Call (.Name "enumerate" p) [e] [] pos) (iEn1 X.K ta) := by
  refine ⟨fun pins s σ H R I h => Call_ (ld_blt I hg hm boot_enumerate (PyProof.Rows.callWith_type1 (thn (ha.run pos pins s σ H _ I h) fun us s1 hh => ?_) hs rfl))⟩
  obtain ⟨vs, H1, I1, r1, r, xs, rfl, ha, q⟩ := hh
  cases r1 with
  | cons ru rr =>
    cases rr
    obtain ⟨o, Hq, Bg, hq, hit⟩ := src_begins I1 ha ru
    exact enum_begins1 Bg hq fun h' he ho hsz hk => en_iter I1 he (hit _ _ ho) hk q
theorem pi_en2 {X : Cx} {e e2 : Expr} {ta : TA} {p pos tpos : Pos} {elts : List Expr} {kk : Nat} (hg : Gl X "enumerate") (hm : X.mg "enumerate" = none) (ha : PA X [e, e2] ta) (hs : starEach [e, e2] X.env = (false, eval e X.env) :: starEach [e2] X.env := by rfl) (hpl : (backTo pos (starEach [e2] X.env)).any (·.1) = false := by rfl) :
    PI X (.Tuple elts kk tpos) (.Call (.Name "enumerate" p) [e, e2] [] pos) (iEn2 X.K ta) := by
  refine ⟨fun pins s σ H R I h => Call_ (ld_blt I hg hm boot_enumerate (PyProof.Rows.callWith_type1 (thn (ha.run pos pins s σ H _ I h) fun us s1 hh => ?_) hs hpl))⟩
  obtain ⟨vs, H1, I1, r1, r, xs, k, rfl, hk0, hk1, ha, q⟩ := hh
  cases r1 with
  | cons ru rr =>
    cases rr with
    | cons rk rr =>
      cases rr
      obtain ⟨t, rfl⟩ := rk
      obtain ⟨o, Hq, Bg, hq, hit⟩ := src_begins I1 ha ru
      exact enum_begins Bg hq hk0 hk1 fun h' he ho hsz hk => en_iter I1 he (hit _ _ ho) hk q
section
variable {c : Cc} {m : List Md} {a b : Expr} {da db : DE} {p pos tpos : Pos} {elts : List Expr} {kk : Nat}
def fEnum (k : Int) (x : PyData) : Option (List PyData) := (seqD x).map (enumD k)
theorem src_of {K : PySem.W.Frag} {B : List Addr} {H : Hp} {v : V} {d : PyData} {ds : List PyData} (h : Is K (Fz B H) v d) (e : seqD d = some ds) : ∃ (r : Src) (xs : List V), r.v = v ∧ r.At K (Fz B H) xs ∧ IsAll K (Fz B H) xs ds ∧ xs.length ≤ sizeLine := by
  unfold seqD at e
  split at e
  · cases e
    cases h with
    | lst h1 z r => exact ⟨.l _, _, rfl, .inl (.inl h1), r, z⟩
  · cases e
    cases h with
    | tup h1 z r => exact ⟨.t _, _, rfl, h1, r, z⟩
  · split at e
    · rename_i z hz
      cases e
      cases h
      exact ⟨.s _, signs _, rfl, rfl, signs_is _, by unfold signs; rw [List.length_map, Array.length_toList]; exact sz_le hz⟩
    · cases e
  · cases e
theorem Src.At_mono {K : PySem.W.Frag} {H H' : Hp} {r : Src} {xs : List V} (e : Ex H H') (h : r.At K H xs) : r.At K H' xs := by
  cases r with
  | l a => exact e.l h
  | t a => exact e.t h
  | s z => exact h
theorem itF_en {K : PySem.W.Frag} {B : List Addr} {H : Hp} {r : Src} {xs : List V} {ds : List PyData} {k : Int} (ha : r.At K (Fz B H) xs) (hi : IsAll K (Fz B H) xs ds) (hz : xs.length ≤ sizeLine) : ItF K B H (Ien K k r xs.length) (enumD k ds) := by
  refine ⟨by rw [enumD_len, ← hi.length]; exact hz, fun B' H' e kn => ⟨fun i d hd => ?_, fun i hl => ?_⟩⟩
  · obtain ⟨x, e1, rfl⟩ := enumD_get _ _ _ _ hd
    obtain ⟨v, hv, iv⟩ := hi.get e1
    have s1 : r.At K H' xs := Src.At_mono fz_le (Src.At_mono e ha)
    refine ⟨⟨xs, v, s1, rfl, hv⟩, fun q H3 ⟨T, x', e3, hT, e4, k1⟩ => ?_⟩
    subst e3 e4
    have q1 := k1 xs s1
    rw [hv] at q1
    cases q1
    exact ⟨Ex.new hT, pair_is kn hT (.int _) (iv.mono e)⟩
  · rw [enumD_len, ← hi.length] at hl
    exact ⟨xs, Src.At_mono fz_le (Src.At_mono e ha), rfl, hl⟩
theorem if_enum (hg : Gl c.X "enumerate") (hm : c.X.mg "enumerate" = none) (ha : EV c m a da) (hs : Pl a := by intro _ _; rfl) : IFo c m (.Tuple elts kk tpos) (.Call (.Name "enumerate" p) [a] [] pos) (dIt (fEnum 0) da) := by
  intro σ H ρ S B0 B ow Q fr gi g
  refine WI.of (pi_en1 hg hm (pa_cons we pa_nil (hs _ _)) (hs _ _)) (ha σ H ρ S B0 B ow _ fr gi (g.bind fun d S1 v H1 _ ev1 gi1 gd1 g1 => ?_))
  unfold fEnum at g1
  cases e : seqD d with
  | none => rw [e] at g1; exact absurd rfl g1.not_bad
  | some ds =>
    rw [e] at g1
    obtain ⟨r, xs, rfl, h1, h2, h3⟩ := src_of gd1 e
    exact ⟨r, xs, rfl, Src.At_mono fz_le h1, g1.ok0 gi1 (itF_en h1 h2 h3)⟩
def fEnum2 (x y : PyData) : Option (List PyData) := match y with | .int k => if decide (-(2 ^ 63) ≤ k) && decide (k < 2 ^ 63) then fEnum k x else none | _ => none
theorem if_enum2 (hg : Gl c.X "enumerate") (hm : c.X.mg "enumerate" = none) (ha : EV c m a da) (hb : EV c m b db) (hs : Pl a := by intro _ _; rfl) (hs2 : Pl b := by intro _ _; rfl) : IFo c m (.Tuple elts kk tpos) (.Call (.Name "enumerate" p) [a, b] [] pos) (dIt2 fEnum2 da db) := by
  intro σ H ρ S B0 B ow Q fr gi g
  refine WI.of (pi_en2 hg hm (pa_cons we (pa_cons we pa_nil (hs2 _ _)) (hs _ _)) (hs _ _) (by rw [hs2 _ _]; rfl)) (ha σ H ρ S B0 B ow _ fr gi (g.bind fun d S1 v H1 _ ev1 gi1 gd1 g1 => ?_))
  refine hb σ H1 ρ S1 B0 B ow _ (fr.evo ev1) gi1 (g1.bind fun d2 S2 v2 H2 _ ev2 gi2 gd2 g2 => ?_)
  have gd1 := gd1.mono (ev2.fz gi2.sub)
  cases d2 with
  | int k =>
    simp only [fEnum2] at g2
    split at g2
    · rename_i hc
      rw [Bool.and_eq_true] at hc
      unfold fEnum at g2
      cases e : seqD d with
      | none => rw [e] at g2; exact absurd rfl g2.not_bad
      | some ds =>
        rw [e] at g2
        obtain ⟨r, xs, rfl, h1, h2, h3⟩ := src_of gd1 e
        cases gd2
        exact ⟨r, xs, k, rfl, of_decide_eq_true hc.1, of_decide_eq_true hc.2, Src.At_mono fz_le h1, g2.ok0 gi2 (itF_en h1 h2 h3)⟩
    · exact absurd rfl g2.not_bad
  | _ => exact absurd rfl g2.not_bad
end
end PD
/-! PDs: texts: as often as told, turned round, split, joined; an empty dict. -/
namespace PD
open PySem PySem.Spec PyProof.Rows L2
def repS (z : Str) (k : Int) : Str := ⟨(List.replicate k.toNat z.cps.toList).flatten.toArray⟩
def fRepS : PyData → PyData → Option PyData
  | .str z, .int k => if decide (-1000 ≤ k ∧ k ≤ 1000 ∧ z.length ≤ 1000) then some (.str (repS z k)) else none
  | _, _ => none
def rRepS : R2 := fun x y H Q => ∃ (z : Str) (k : Int), x = .str z ∧ y = .int k ∧ -1000 ≤ k ∧ k ≤ 1000 ∧ z.length ≤ 1000 ∧ Q (.str (repS z k)) H
theorem foldl_arr (l : List Nat) : ∀ (m : Nat) (acc : List Nat), (List.replicate m l.toArray).foldl (· ++ ·) acc.toArray = (acc ++ (List.replicate m l).flatten).toArray
  | 0, acc => by simp
  | m + 1, acc => by
    rw [List.replicate_succ, List.foldl_cons, List.append_toArray, foldl_arr l m (acc ++ l), List.replicate_succ, List.flatten_cons, List.append_assoc]
theorem repS_len (z : Str) (k : Int) (h1 : k ≤ 1000) (h2 : z.length ≤ 1000) : (repS z k).length ≤ 1000000 := by
  show ((List.replicate k.toNat z.cps.toList).flatten.toArray).size ≤ 1000000
  rw [List.size_toArray, lm_len_rep_flat, Array.length_toList]
  have h2 : z.cps.size ≤ 1000 := h2
  have a1 : k.toNat * z.cps.size ≤ 1000 * 1000 := Nat.mul_le_mul (by omega) h2
  omega
theorem op_repS {X : Cx} : OpR X (binaryOp .Mult) rRepS := by
  intro pins s σ H x y v u Q I rx ry h
  obtain ⟨z, k, rfl, rfl, k0, k1, hz, q⟩ := h
  obtain ⟨t, rfl⟩ := rx
  obtain ⟨t2, rfl⟩ := ry
  have hz' : z.cps.size ≤ 1000 := hz
  refine P.mul_str (by rw [decide_eq_false (by omega), decide_eq_false (by omega)]; rfl) (fun h1 _ => ?_) (fun h1 _ => ?_) ?_
  · have : (1000 : Int) ≤ (2 ^ 63 - 1) / k := by
      rw [Int.le_ediv_iff_mul_le (by omega)]
      omega
    omega
  · have a1 : z.length * k.toNat ≤ 1000 * 1000 := Nat.mul_le_mul hz (by omega)
    unfold Builtin.Str.tooLong
    exact decide_eq_false (by rw [sizeLine_eq]; omega)
  · by_cases h1 : k < 1
    · rw [if_pos h1]
      refine ⟨by decide, .str _, H, I.tok _, ⟨_, rfl⟩, ?_⟩
      have e : repS z k = Str.empty := by
        unfold repS
        rw [show k.toNat = 0 from by omega]
        rfl
      rw [e] at q
      exact q
    · rw [if_neg h1]
      by_cases h2 : (k == 1 || z.length == 0) = true
      · rw [if_pos h2]
        have e : repS z k = z := by
          unfold repS
          rcases Bool.or_eq_true _ _ ▸ h2 with h | h
          · rw [beq_iff_eq.mp h]
            simp
          · have h : z.cps.size = 0 := beq_iff_eq.mp h
            have e0 : z.cps = #[] := Array.eq_empty_of_size_eq_zero h
            cases z with
            | mk a => subst e0; simp
        rw [e] at q
        exact ⟨.str z, H, I, ⟨t, rfl⟩, q⟩
      · rw [if_neg h2]
        have e : (⟨(List.replicate k.toNat z.cps).foldl (· ++ ·) #[]⟩ : Str) = repS z k := by
          unfold repS
          have := foldl_arr z.cps.toList k.toNat []
          simp only [List.nil_append, Array.toArray_toList] at this
          rw [this]
        rw [e]
        exact ⟨Nat.le_trans (repS_len z k k1 hz) (by rw [sizeLine_eq]; decide), .str _, H, I.tok _, ⟨_, rfl⟩, q⟩
theorem opd_repS {K : PySem.W.Frag} {g : Gx} : OpD K g rRepS fRepS := by
  intro B H x y dx dy d Q hn hg hx hy e k
  unfold fRepS at e
  split at e
  · split at e
    · rename_i hc
      cases e
      have hc := of_decide_eq_true hc
      obtain rfl := hx.str
      obtain rfl := hy.int
      exact ⟨_, _, rfl, rfl, hc.1, hc.2.1, hc.2.2, k _ _ (Ex.refl _) (.str _)⟩
    · cases e
  · cases e
/-- z[::-1] -/
def revS (z : Str) : Str := ⟨z.cps.toList.reverse.toArray⟩
theorem rev_pick (z : Str) : ((Builtin.Str.strSliceIndices none none (-1) z.length).filterMap (z.cps[·]?)).toArray = (revS z).cps := by
  have e : Builtin.Str.strSliceIndices none none (-1) z.length = (List.range z.length).map fun k => z.length - 1 - k := by
    unfold Builtin.Str.strSliceIndices
    exact PySem.W.krv_sliceRange z.length
  rw [e, PySem.W.krv_range]
  show _ = z.cps.toList.reverse.toArray
  rw [show z.length = z.cps.size from rfl, List.filterMap_reverse, PySem.W.krv_all]
theorem pe_revS {X : Cx} {e : Expr} {te : TE} {k : Nat} {p1 p2 p3 pos : Pos} (he : PE X e te) : PE X (.Subscript e (.Slice none none (some (.UnaryOp .USub (.Constant (.int 1) k p1) p2)) p3) pos) (fun σ H Q => te σ H fun x H1 => ∃ z, x = .str z ∧ z.length ≤ sizeLine ∧ Q (.str (revS z)) H1) := by
  refine ⟨fun pins s σ H Q I h => Subscript_ (thn (he.run pins s σ H _ I h) fun v s1 hh => ?_)⟩
  obtain ⟨x, H1, I1, r1, z, rfl, hz, q⟩ := hh
  obtain ⟨t, rfl⟩ := r1
  have part : PO X (some (.UnaryOp .USub (.Constant (.int 1) k p1) p2)) (tPart (tUn (rU fun i => .int (-i)) (tC (.int 1)))) := po_some (pe_un un_neg pe_int)
  refine wpAny_Slice (thn (po_none.run pins s1 σ H1 (fun o H2 => o = none ∧ H2 = H1) I1 ⟨rfl, rfl⟩) fun vl s2 hl => ?_)
  obtain ⟨l, H2, I2, pl, rfl, rfl⟩ := hl
  refine thn (po_none.run pins s2 σ _ (fun o H3 => o = none ∧ H3 = _) I2 ⟨rfl, rfl⟩) fun vu s3 hu => ?_
  obtain ⟨u, H3, I3, pu, rfl, rfl⟩ := hu
  refine thn (part.run pins s3 σ _ (fun o H4 => o = some (-1) ∧ H4 = _) I3 ⟨1, rfl, -1, rfl, rfl, rfl⟩) fun vs s4 hs => ?_
  obtain ⟨o, H4, I4, ps, rfl, rfl⟩ := hs
  obtain ⟨l', rfl, el⟩ := IsPart.raw pl
  obtain ⟨u', rfl, eu⟩ := IsPart.raw pu
  obtain ⟨s', rfl, es⟩ := IsPart.raw ps
  have I5 := I4.kept (t' := s4.toks) (h' := s4.heap.push { cls := .type "slice", data := .fields #[partValue l', partValue u', partValue s'] }) fun b ob q => Heap.get?_push_of_some _ q
  show wpAny (model X.prog X.w) X.A (subscriptTail e (.Slice none none (some (.UnaryOp .USub (.Constant (.int 1) k p1) p2)) p3) (.str z t) (.ref s4.heap.objs.size)) (EP X pins σ Q) X.xe { s4 with heap := s4.heap.push { cls := .type "slice", data := .fields #[partValue l', partValue u', partValue s'] } }
  refine tail_any (ops := [.str z t, .ref s4.heap.objs.size]) (typeIs_str _ _ _) F.slot_str_getitem.lookup ?_ (by with_unfolding_all rfl)
  have e1 : l'.map (·.1) = none := el
  have e2 : u'.map (·.1) = none := eu
  have e3 : s'.map (·.1) = some (-1) := es
  refine wpAny_getItem_str_slice (l := l') (u := u') (st := s') ⟨_, Heap.get?_push_size _ rfl, rfl, rfl⟩ (by rw [e3]; rfl) ?_
  unfold sliceMade slicePicked
  rw [e1, e2, e3]
  rw [if_neg (by simp)]
  have e4 : (⟨((Builtin.Str.strSliceIndices none none ((some (-1 : Int)).getD 1) z.length).filterMap (z.cps[·]?)).toArray⟩ : Str) = revS z := by
    rw [show (some (-1 : Int)).getD 1 = -1 from rfl, rev_pick]
  rw [e4]
  refine ⟨?_, .str _, _, I5.tok _, ⟨_, rfl⟩, q⟩
  show (z.cps.toList.reverse.toArray).size ≤ sizeLine
  rw [List.size_toArray, List.length_reverse, Array.length_toList]
  exact hz
section
variable {c : Cc} {m : List Md} {a b : Expr} {da db : DE} {pos apos p p1 p2 p3 : Pos} {k : Nat}
def fRevS : PyData → Option PyData | .str z => if sz z.length then some (.str (revS z)) else none | _ => none
theorem ev_revS (ha : EV c m a da) : EV c m (.Subscript a (.Slice none none (some (.UnaryOp .USub (.Constant (.int 1) k p1) p2)) p3) pos) (d1 fRevS da) := by
  intro σ H ρ S B0 B ow Q fr gi g
  refine PD.WE.of (pe_revS we) (ha σ H ρ S B0 B ow _ fr gi (g.bind fun d S1 v H1 _ ev1 gi1 gd1 g1 => ?_))
  unfold fRevS at g1
  split at g1
  · split at g1
    · rename_i hz
      cases gd1
      exact ⟨_, rfl, sz_le hz, g1.ok0 gi1 (.str _)⟩
    · exact absurd rfl g1.not_bad
  · exact absurd rfl g1.not_bad
def fTimes : PyData → PyData → Option PyData := orF fMul fRepS
theorem ev_times (ha : EB c m a da) (hb : EB c m b db) : EV c m (.BinOp a .Mult b pos) (d2 fTimes da db) :=
  ev_op (OpR.or (OpR.or op_mul (OpR.or op_repT op_rep)) op_repS) (OpD.or (OpD.or (opd_I cMul_ok) (OpD.or opd_repT opo_repL.d orF_or) orF_or) opd_repS orF_or) ha hb
/-- a text's method with one argument -/
def dM1 (F : Str → PyData → Option PyData) (a b : DE) : DE := fun ρ S => (a ρ S).bind fun x S1 => match x with | .str z => (b ρ S1).bind fun y S2 => ofO (F z y) S2 | _ => .bad
def fSplit (z : Str) : PyData → Option PyData
  | .str b => if b.length != 0 && decide (z.length + 2 ≤ sizeLine) then some (.list ((Txt.split z b).map .str)) else none
  | _ => none
theorem eo_split (ha : EV c m a da) (hb : EV c m b db) (hs : Pl b := by intro _ _; rfl) (hbase : attributeBase a "split" c.X.env (eval a c.X.env) = eval a c.X.env := by rfl) (hline : (apos.endLine == pos.line) = true := by rfl) : EO c m (.Call (.Attribute a "split" apos) [b] [] pos) (dM1 fSplit da db) := by
  intro σ H ρ S B0 B ow Q fr gi g
  refine PD.WE.of (pe_split we we (hs _ _) hbase hline) (ha σ H ρ S B0 B ow _ fr gi (g.bind fun d S1 v H1 _ ev1 gi1 gd1 g1 => ?_))
  cases gd1 with
  | str z =>
    refine ⟨⟨z, rfl⟩, hb σ H1 ρ S1 B0 B ow _ (fr.evo ev1) gi1 (g1.bind fun e S2 w H2 _ ev2 gi2 gd2 g2 => ?_)⟩
    cases gd2 with
    | str bb =>
      simp only [fSplit] at g2
      split at g2
      · rename_i hc
        rw [Bool.and_eq_true] at hc
        have hz := of_decide_eq_true hc.2
        refine ⟨z, bb, rfl, rfl, by simpa using hc.1, hz, fun p hp => g2.ok (Ex.new hp).evo (gi2.ex (Ex.new hp)) ⟨p, rfl, free_back ev1 gi1 (free_back ev2 gi2 hp), ?_, gi2.fresh (Ex.new hp) hp (by rw [upd_same]; intro z; cases z)⟩⟩
        exact top_newL hp (by rw [List.length_map]; exact Nat.le_trans (PyProof.Rows.split_le z bb) hz) IsAll.of_strs
      · exact absurd rfl g2.not_bad
    | _ => exact absurd rfl g2.not_bad
  | _ => exact absurd rfl g1.not_bad
def strsOf : List PyData → Option (List Str)
  | [] => some []
  | .str i :: r => (strsOf r).map (i :: ·)
  | _ :: _ => none
theorem strsOf_eq : ∀ {ds : List PyData} {ns : List Str}, strsOf ds = some ns → ds = ns.map .str
  | [], ns, h => by cases h; rfl
  | d :: r, ns, h => by
    cases d with
    | str i =>
      unfold strsOf at h
      cases e : strsOf r with
      | none => rw [e] at h; cases h
      | some ms => rw [e] at h; cases h; rw [strsOf_eq e]; rfl
    | _ => cases h
@[simp] theorem strsOf_strs : ∀ {ns : List Str}, strsOf (ns.map .str) = some ns
  | [] => rfl
  | n :: ns => by
    show (strsOf (ns.map .str)).map (n :: ·) = _
    rw [strsOf_strs]
    rfl
def fJoin (z : Str) : PyData → Option PyData
  | .list xs => (strsOf xs).bind fun ys => if decide ((ys.map (·.length)).sum + ys.length * z.length ≤ 16777216) then some (.str (Txt.join z ys)) else none
  | _ => none
theorem ev_join (ha : EV c m a da) (hb : EB c m b db) (hs : Pl b := by intro _ _; rfl) (hbase : attributeBase a "join" c.X.env (eval a c.X.env) = eval a c.X.env := by rfl) (hline : (apos.endLine == pos.line) = true := by rfl) : EV c m (.Call (.Attribute a "join" apos) [b] [] pos) (dM1 fJoin da db) := by
  intro σ H ρ S B0 B ow Q fr gi g
  refine PD.WE.of (pe_join we we (hs _ _) hbase hline) (ha σ H ρ S B0 B ow _ fr gi (g.bind fun d S1 v H1 _ ev1 gi1 gd1 g1 => ?_))
  cases gd1 with
  | str z =>
    refine ⟨⟨z, rfl⟩, hb σ H1 ρ S1 B0 B ow _ (fr.evo ev1) gi1 (g1.bind fun e S2 w H2 _ ev2 gi2 gd2 g2 => ?_)⟩
    cases e with
    | list xs =>
      simp only [fJoin] at g2
      cases q : strsOf xs with
      | none => rw [q] at g2; exact absurd rfl g2.not_bad
      | some ys =>
        rw [q] at g2
        simp only [Option.bind_some] at g2
        split at g2
        · rename_i hc
          obtain rfl := strsOf_eq q
          obtain ⟨p, vs, rfl, h1, s1, z1⟩ := Rb.lst gd2 gi2.sub
          obtain rfl := h1.strs
          exact ⟨z, p, ys, rfl, rfl, .inl (.inl (.inl (s1 H2 (Evo.refl _ _)))), of_decide_eq_true hc, g2.ok0 gi2 (.str _)⟩
        · exact absurd rfl g2.not_bad
    | _ => exact absurd rfl g2.not_bad
  | _ => exact absurd rfl g1.not_bad
/-- {} -/
theorem eo_dnew : EO c m (.Dict [] [] pos) (dC (.dict [])) := fun σ H ρ S B0 B ow Q fr gi g =>
  PD.WE.of pe_dnewK fun p hp => g.ok (Ex.new hp).evo (gi.ex (Ex.new hp)) ⟨p, rfl, hp, .inr (.inl ⟨[], [], rfl, upd_same, rfl, .nil⟩), gi.fresh (Ex.new hp) hp (by rw [upd_same]; intro z; cases z)⟩
end
end PD
/-! PDt: shorthands for printed derivations. -/
namespace PD
open PySem PySem.Spec PyProof.Rows L2
/-- what holds of a context -/
structure Kx (c : Cc) (k : Nat) : Prop where
  hr : Room k c.X.A
  tk : Takes c.X c.W
  hc : c.X.calm = true
  hN : c.X.N.Nodup
/-- the units that comparisons want -/
structure Ux (c : Cc) : Prop where
  u65 : c.X.A.units + 65 < cLine
theorem Ux.u64 {c : Cc} (h : Ux c) : c.X.A.units + 64 < cLine := by have := h.u65; omega
theorem Ux.u {c : Cc} (h : Ux c) : c.X.A.units < cLine := by have := h.u65; omega
theorem Kx.ux {c : Cc} {k : Nat} (h : Kx c k) : Ux c := ⟨by have := h.hr.un; omega⟩
/-- what holds in an except suite -/
structure Kxs (c : Cc) : Prop where
  hN : c.X.N.Nodup
  ux : Ux c
theorem Kx.sx {c : Cc} {k : Nat} {a : Addr} {oe : Obj} {d : Option Addr} {pn : List (Addr × Obj)} {xc : Xc} (h : Kx c k) : Kxs (c.suite a oe d pn xc) := ⟨h.hN, ⟨h.ux.u65⟩⟩
theorem Kx.u64 {c : Cc} {k : Nat} (h : Kx c k) : c.X.A.units + 64 < cLine := by have := h.hr.un; omega
theorem Kx.u65 {c : Cc} {k : Nat} (h : Kx c k) : c.X.A.units + 65 < cLine := by have := h.hr.un; omega
theorem Kx.u {c : Cc} {k : Nat} (h : Kx c k) : c.X.A.units < cLine := by have := h.hr.un; omega
theorem Kx.inn {c : Cc} {k : Nat} (h : Kx c k) (scope : Scope) (s : Shared) (H : Hp) (C : Addr) (cl : List (Str × Addr)) (fp : List Addr) : Kx (c.in scope s H C cl fp) k := ⟨h.hr, LamX.takes0, h.hc, h.hN⟩
theorem kx_fn {g : Gx} {P : Program} {w : World} {K : PySem.W.Frag} {mg : Str → Option Value} {base : Heap} {N ps : List Str} {qual : Str} {st : Stmt} {f : Addr} {cdv : Value} {A : Around} {outer : List PySem.Env} {s : Shared} {H : Hp} {E : XK} {k : Nat}
    (S : FnScope N ps (defScope st)) (hr : Room k (A.deeper (envOfC qual (defScope st) s.heap.objs.size f cdv))) : Kx (fnC g P w K mg base N qual st f cdv A outer s H E) k := ⟨hr, takes_of rfl rfl rfl rfl, rfl, S.nd⟩
section
variable {c : Cc} {m : List Md} {a b e : Expr} {da db de : DE} {pos : Pos} {k : Nat}
theorem vv (i : Nat) {x : Str} {pos : Pos} (hm : m[i]? = some .fz := by rfl) (hN : c.X.N[i]? = some x := by rfl) (hv : Vis c.X.env.scope x := by first | exact Or.inl rfl | exact Or.inr (Or.inl rfl) | exact Or.inr (Or.inr rfl)) (hd : (x == ("__debug__" : Str)) = false := by decide)
    (hcd : (x == ("__classdict__" : Str)) = false := by decide) : EV c m (.Name x pos) (dVar i) := ev_var hm (pe_var hN hv hd hcd)
theorem vo (i : Nat) {x : Str} {pos : Pos} (hm : m[i]? = some .own := by rfl) (hN : c.X.N[i]? = some x := by rfl) (hv : Vis c.X.env.scope x := by first | exact Or.inl rfl | exact Or.inr (Or.inl rfl) | exact Or.inr (Or.inr rfl)) (hd : (x == ("__debug__" : Str)) = false := by decide)
    (hcd : (x == ("__classdict__" : Str)) = false := by decide) : EB c m (.Name x pos) (dVar i) := eb_own hm (pe_var hN hv hd hcd)
/-- a comparison by its relation -/
def Rel (c : Cc) (op : CmpOp) (F : PyData → PyData → Option PyData) : Prop := ∃ r, OpR c.X (compareOp op) r ∧ OpD c.X.K c.g r F
theorem rel_eq (h : Ux c) : Rel c .Eq fEq := ⟨_, OpR.or op_eq (op_eqD h.u64), OpD.or opd_eqS opd_eqD orF_or⟩
theorem rel_ne (h : Ux c) : Rel c .NotEq fNe := ⟨_, OpR.or op_ne (op_neD h.u64), OpD.or opd_neS opd_neD orF_or⟩
theorem rel_lt (h : Ux c) : Rel c .Lt fLt := ⟨_, OpR.or op_lt (op_ltT h.u), OpD.or opd_B (opd_TT fun _ _ _ _ => rfl) orF_or⟩
theorem rel_le (h : Ux c) : Rel c .LtE fLe := ⟨_, OpR.or op_le (op_leT h.u), OpD.or opd_B (opd_TT (f := lexLeI) fun x y H Q => by simp only [rLeT, lexLe_eq]) orF_or⟩
def fGt : PyData → PyData → Option PyData := fB fun i j => decide (j < i)
def fGe : PyData → PyData → Option PyData := fB fun i j => decide (j ≤ i)
theorem rel_gt (h : Ux c) : Rel c .Gt fGt := ⟨_, op_gt, opd_B⟩
theorem rel_ge (h : Ux c) : Rel c .GtE fGe := ⟨_, op_ge, opd_B⟩
theorem rel_is (h : Ux c) : Rel c .Is (fIsN false) := ⟨_, OpR.or op_isN op_isBl, opd_is false⟩
theorem rel_isNot (h : Ux c) : Rel c .IsNot (fIsN true) := ⟨_, OpR.or op_notN op_notBl, opd_is true⟩
theorem rel_in (h : Ux c) : Rel c .In (fIn false) := ⟨_, OpR.or op_in_seq (OpR.or (op_inS h.u65) op_in_sign), opd_in false⟩
theorem rel_notIn (h : Ux c) : Rel c .NotIn (fIn true) := ⟨_, OpR.or op_notIn_seq (OpR.or (op_notInS h.u65) op_notIn_sign), opd_in true⟩
theorem c1 {op : CmpOp} {F : PyData → PyData → Option PyData} (r : Rel c op F) (ha : EB c m a da) (hb : EB c m b db) (hm : behindInMarks op b = false := by with_unfolding_all rfl) : EV c m (.Compare a [op] [b] pos) (d2 F da db) :=
  let ⟨_, h1, h2⟩ := r
  ev_cmp h1 h2 ha hb hm
theorem c2 {op op' : CmpOp} {F F' : PyData → PyData → Option PyData} (r : Rel c op F) (r' : Rel c op' F') (ha : EB c m a da) (hb : EB c m b db) (hc : EB c m e de) (hm : lastMarks [op, op'] [b, e] = false := by with_unfolding_all rfl) : EV c m (.Compare a [op, op'] [b, e] pos) (dChain F F' da db de) :=
  let ⟨_, h1, h2⟩ := r
  let ⟨_, h3, h4⟩ := r'
  ev_chain h1 h3 h2 h4 ha hb hc hm
theorem t1 {op : CmpOp} {F : PyData → PyData → Option PyData} (r : Rel c op F) (ha : EB c m a da) (hb : EB c m b db) (hm : behindInMarks op b = false := by with_unfolding_all rfl) : ET c m (.Compare a [op] [b] pos) (dTest (d2 F da db)) :=
  let ⟨_, h1, h2⟩ := r
  et_cmp h1 h2 ha hb hm
theorem t2 {op op' : CmpOp} {F F' : PyData → PyData → Option PyData} (r : Rel c op F) (r' : Rel c op' F') (ha : EB c m a da) (hb : EB c m b db) (hc : EB c m e de) (hm : lastMarks [op, op'] [b, e] = false := by with_unfolding_all rfl) : ET c m (.Compare a [op, op'] [b, e] pos) (dTest (dChain F F' da db de)) :=
  let ⟨_, h1, h2⟩ := r
  let ⟨_, h3, h4⟩ := r'
  et_chain h1 h3 h2 h4 ha hb hc hm
/-- a list, a tuple, a text gone through -/
theorem if_any {tg : Expr} (ha : EV c m a da) : IFo c m tg a (dIt seqD da) := by
  intro σ H ρ S B0 B ow Q fr gi g
  cases e : da ρ S with
  | bad => exact absurd (by unfold dIt; rw [e]; rfl) g.2.2
  | exc x S1 =>
    refine WI.of (pi_list we) (ha σ H ρ S B0 B ow _ fr gi (g.bind fun d S1 v H1 q ev1 gi1 gd1 g1 => ?_))
    rw [e] at q; cases q
  | ok d S1 =>
    cases d with
    | list xs =>
      refine if_seq ha σ H ρ S B0 B ow Q fr gi ?_
      have e2 : dIt sqD da ρ S = dIt seqD da ρ S := by unfold dIt; rw [e]; rfl
      rw [e2]; exact g
    | tuple xs =>
      refine if_seq ha σ H ρ S B0 B ow Q fr gi ?_
      have e2 : dIt sqD da ρ S = dIt seqD da ρ S := by unfold dIt; rw [e]; rfl
      rw [e2]; exact g
    | str z =>
      refine if_str ha σ H ρ S B0 B ow Q fr gi ?_
      have e2 : dIt strD da ρ S = dIt seqD da ρ S := by unfold dIt; rw [e]; rfl
      rw [e2]; exact g
    | _ => exact absurd (by unfold dIt; rw [e]; rfl) g.2.2
/-- targets -/
theorem pgn {X : Cx} (i : Nat) {x : Str} {pos : Pos} (hN : X.N.Nodup) (hi : X.N[i]? = some x := by rfl) (hx : Loc X.env.scope x := by first | exact Or.inl rfl | exact Or.inr rfl) (hf : X.fn x = true ∨ X.env.scope.names.lookup x = some .local := by first | exact .inl rfl | exact .inr rfl) : PG X (.Name x pos) (gName i) := pg_name hN hi hx hf
end
end PD
/-! PDu: exceptions by tables of their classes; the rest that printed derivations want. -/
namespace PD
open PySem PySem.Spec PyProof.Rows L2
def inS (l : List Str) (n : Str) : Bool := l.contains n
/-- all that is asked of a class of exceptions -/
def excB (K : PySem.W.Frag) (C : Addr) : Bool :=
  PySem.W.keepIn K (.ref C) && (decide (PySem.W.subIn K (.ref C) (.type "BaseException") = some true) && (decide (PySem.W.typeIn K (.ref C) = some (.type "type")) && (decide (PySem.W.findIn K (.ref C) "__getattribute__" = some (some (.builtin "BaseException.__getattribute__"))) &&
  (decide (PySem.W.findIn K (.ref C) "__getattr__" = some none) && (PySem.W.hasDictIn K C && (decide (PySem.W.findIn K (.ref C) "__class__" = some (some (.builtin "object.__class__"))) && (decide (PySem.W.specialIn K (.builtin "object.__class__") "__get__" = some (some (.builtin "getset_descriptor.__get__"))) &&
  (decide (PySem.W.takesIn K (.builtin "object.__class__") = some true) && decide (PySem.W.mroIn K C (.type "object") = some true)))))))))
structure ExcT (K : PySem.W.Frag) (C : Addr) : Prop where
  k : PySem.W.keepIn K (.ref C) = true
  b : PySem.W.subIn K (.ref C) (.type "BaseException") = some true
  t : PySem.W.typeIn K (.ref C) = some (.type "type")
  c : ExcC K C
  f : XfC K C
theorem excB_ok {K : PySem.W.Frag} {C : Addr} (h : excB K C = true) : ExcT K C := by
  unfold excB at h
  simp only [Bool.and_eq_true, decide_eq_true_eq] at h
  obtain ⟨h1, h2, h3, h4, h5, h6, h7, h8, h9, h10⟩ := h
  exact ⟨h1, h2, h3, ⟨h4, h5, h2, h6, h7, h8, h9, h10⟩, ⟨h4, h5, h2, h6⟩⟩
/-- what is said of each class of the table -/
theorem by_cls {mg : Str → Option Value} {F : Str → Addr → Prop} {l : List (Str × Addr)} (hg : ∀ p ∈ l, mg p.1 = some (.ref p.2)) (h : ∀ p ∈ l, F p.1 p.2) : ∀ n ∈ l.map (·.1), ∀ E, mg n = some (.ref E) → F n E := fun n hn E e => by
  obtain ⟨p, hp, rfl⟩ := List.mem_map.mp hn
  have := hg p hp
  rw [e] at this
  cases this
  exact h p hp
theorem all_cls {q : Str × Addr → Bool} {l : List (Str × Addr)} (h : l.all q = true) : ∀ p ∈ l, q p = true := List.all_eq_true.mp h
theorem Kx.tr {c : Cc} {k : Nat} (h : Kx c k) {pn : List (Addr × Obj)} {xe : Value → Shared → Prop} {W : WX} (t : Takes (c.X.tr pn xe) W) : Kx ⟨c.g, c.X.tr pn xe, W⟩ k := ⟨h.hr, t, h.hc, h.hN⟩
section
variable {c : Cc} {m : List Md} {a : Addr} {oe : Obj} {d : Option Addr} {pn : List (Addr × Obj)} {xc : Xc} {E : Addr} {cs : List Str} {p1 p2 p pos : Pos} {y C : Str}
theorem ev_isK (i : Nat) {D : Addr} {tb : Str → Bool} (hx : ∀ n ∈ cs, ∀ E, c.X.mg n = some (.ref E) → ExcT c.X.K E) (ht : ∀ n ∈ cs, ∀ E, c.X.mg n = some (.ref E) → PySem.W.kitOne c.X.K (.ref E) (.ref D) = some (tb n)) (hz : Zc (.ref E) d oe) (hf : ∃ vs, oe.data = .fields vs) (hE : c.X.mg xc.cls = some (.ref E)) (hcs : xc.cls ∈ cs)
    (hD : c.X.mg C = some (.ref D)) (hmg : c.X.mg "isinstance" = none) (hm : m[i]? = some .ea := by rfl) (hp : PE (c.suite a oe d pn xc).X (.Name y p1) (tVar i) := by exact pv _) (hg : Gl (c.suite a oe d pn xc).X "isinstance" := by rfl) (hgC : Gl (c.suite a oe d pn xc).X C := by rfl) (hdb : (C == ("__debug__" : Str)) = false := by decide) :
    EV (c.suite a oe d pn xc) m (.Call (.Name "isinstance" p) [.Name y p1, .Name C p2] [] pos) (dXc (some (.bool (tb xc.cls)))) :=
  ev_isX (v := .ref D) (hx _ hcs _ hE).c hz hf hm hp (pe_glob hgC hD rfl hdb) (fun u h => h) (ht _ hcs _ hE) hg hmg
theorem ev_isKb (i : Nat) {T : String} {tb : Str → Bool} (hx : ∀ n ∈ cs, ∀ E, c.X.mg n = some (.ref E) → ExcT c.X.K E) (ht : ∀ n ∈ cs, ∀ E, c.X.mg n = some (.ref E) → PySem.W.kitOne c.X.K (.ref E) (.type T) = some (tb n)) (hz : Zc (.ref E) d oe) (hf : ∃ vs, oe.data = .fields vs) (hE : c.X.mg xc.cls = some (.ref E)) (hcs : xc.cls ∈ cs)
    (hD : c.X.mg C = none) (hb : bootBuiltins C = some (.type T)) (hmg : c.X.mg "isinstance" = none) (hm : m[i]? = some .ea := by rfl) (hp : PE (c.suite a oe d pn xc).X (.Name y p1) (tVar i) := by exact pv _) (hg : Gl (c.suite a oe d pn xc).X "isinstance" := by rfl) (hgC : Gl (c.suite a oe d pn xc).X C := by rfl) (hn : C ≠ "__name__" := by decide) (hdb : (C == ("__debug__" : Str)) = false := by decide) :
    EV (c.suite a oe d pn xc) m (.Call (.Name "isinstance" p) [.Name y p1, .Name C p2] [] pos) (dXc (some (.bool (tb xc.cls)))) :=
  ev_isX (v := .ty T) (hx _ hcs _ hE).c hz hf hm hp (pe_bltn (v := .ty T) hgC hD hb rfl hn hdb) (fun u h => h) (ht _ hcs _ hE) hg hmg
theorem ev_fldK (i : Nat) {f : Str} (hx : ∀ n ∈ cs, ∀ E, c.X.mg n = some (.ref E) → ExcT c.X.K E) (hno : ∀ n ∈ cs, ∀ E, c.X.mg n = some (.ref E) → PySem.W.findIn c.X.K (.ref E) f = some none) (hz : Zc (.ref E) d oe) (hf : ∃ vs, oe.data = .fields vs) (hE : c.X.mg xc.cls = some (.ref E)) (hcs : xc.cls ∈ cs)
    (hm : m[i]? = some .ea := by rfl) (hp : PE (c.suite a oe d pn xc).X (.Name y p1) (tVar i) := by exact pv _) (hb : attributeBase (.Name y p1) f c.X.env (eval (.Name y p1) c.X.env) = eval (.Name y p1) c.X.env := by rfl) : EV (c.suite a oe d pn xc) m (.Attribute (.Name y p1) f pos) (dXc (xc.fs.lookup f)) :=
  ev_fld (hx _ hcs _ hE).f (hno _ hcs _ hE) hz hf hm hp hb
end
/-! the kinds that isinstance may be asked for -/
theorem isT_int : IsTOk "int" := by unfold IsTOk; decide +kernel
theorem isT_str : IsTOk "str" := by unfold IsTOk; decide +kernel
theorem isT_bool : IsTOk "bool" := by unfold IsTOk; decide +kernel
theorem isT_list : IsTOk "list" := by unfold IsTOk; decide +kernel
theorem isT_tuple : IsTOk "tuple" := by unfold IsTOk; decide +kernel
theorem isT_dict : IsTOk "dict" := by unfold IsTOk; decide +kernel
theorem ev_gstr {c : Cc} {m : List Md} {x z : Str} {pos : Pos} (hg : Gl c.X x) (h : ∃ t, c.X.mg x = some (.str z t)) (hd : (x == ("__debug__" : Str)) = false := by decide) : EV c m (.Name x pos) (dC (.str z)) := by
  obtain ⟨t, h⟩ := h
  exact ev_glob (v := .str z) hg h ⟨t, rfl⟩ (fun _ => .str z) hd
theorem ev_gint {c : Cc} {m : List Md} {x : Str} {z : Int} {pos : Pos} (hg : Gl c.X x) (h : ∃ t, c.X.mg x = some (.int z t)) (hd : (x == ("__debug__" : Str)) = false := by decide) : EV c m (.Name x pos) (dC (.int z)) := by
  obtain ⟨t, h⟩ := h
  exact ev_glob (v := .int z) hg h ⟨t, rfl⟩ (fun _ => .int z) hd
/-! blocks -/
def blkB (N : List Str) (sc scope : Scope) (own : List (Str × Nat)) : Bool :=
  decide (scope.kind = .function) && (scope.names.all (fun y => decide (scope.names.lookup y.1 = some y.2)) && (own.all (fun p => decide (N[p.2]? = some p.1)) && (scope.names.all (fun y => !decide (y.2 = .free) || decide (sc.names.lookup y.1 = some .cell) || decide (sc.names.lookup y.1 = some .free)) &&
    scope.names.all fun y => !(decide (y.2 = .local) || decide (y.2 = .cell)) || decide (y.1 ∈ own.map (·.1)) || !decide (y.1 ∈ N))))
theorem blk_by {N : List Str} {sc scope : Scope} {own : List (Str × Nat)} (h : blkB N sc scope own = true) : BlkOk N sc scope own := by
  unfold blkB at h
  simp only [Bool.and_eq_true, decide_eq_true_eq, List.all_eq_true, Bool.or_eq_true, Bool.not_eq_true', decide_eq_false_iff_not] at h
  obtain ⟨h1, h2, h3, h4, h5⟩ := h
  refine ⟨h1, fun y hy => h2 y hy, h3, fun y hy e => ?_, fun y hy e => ?_⟩
  · rcases h4 y hy with (z | z) | z
    · exact absurd e z
    · exact .inl z
    · exact .inr z
  · rcases h5 y hy with (z | z) | z
    · have z : (decide (y.2 = .local) || decide (y.2 = .cell)) = false := z
      simp only [Bool.or_eq_false_iff, decide_eq_false_iff_not] at z
      exact (e.elim z.1 z.2).elim
    · exact .inl z
    · exact .inr z
/-- turns that a while may have -/
def fuel : Nat := 1000000000
theorem kx_lam {c : Cc} {k j : Nat} (h : Kx c k) {A : Around} {outer : List PySem.Env} {s : Shared} {H : Hp} {E : XK} {scope : Scope} {f c' : Addr} (hr : Room j (A.deeper (LamX.lamEnv c.X scope s.heap.objs.size f c'))) : Kx ⟨c.g, LamX.lamCx c.X A outer s H E scope f c', fun cls d _ H' => E cls d H'⟩ j :=
  ⟨hr, takes_of rfl rfl rfl rfl, rfl, h.hN⟩
/-- a list or a text turned round -/
def fRevA : PyData → Option PyData := fun d => match d with | .list xs => some (.list xs.reverse) | .str z => if sz z.length then some (.str (revS z)) else none | _ => none
theorem ev_revA {c : Cc} {m : List Md} {e : Expr} {da : DE} {k : Nat} {p1 p2 p3 pos : Pos} (ha : EV c m e da) : EV c m (.Subscript e (.Slice none none (some (.UnaryOp .USub (.Constant (.int 1) k p1) p2)) p3) pos) (d1 fRevA da) := by
  intro σ H ρ S B0 B ow Q fr gi g
  cases e : da ρ S with
  | bad => exact absurd (by unfold d1; rw [e]; rfl) g.2.2
  | exc x S1 =>
    refine ev_revS ha σ H ρ S B0 B ow Q fr gi ?_
    have e2 : d1 fRevS da ρ S = d1 fRevA da ρ S := by unfold d1; rw [e]; rfl
    rw [e2]; exact g
  | ok d S1 =>
    cases d with
    | list xs =>
      refine (eo_revL ha.eb).ev σ H ρ S B0 B ow Q fr gi ?_
      have e2 : d1 fRev da ρ S = d1 fRevA da ρ S := by unfold d1; rw [e]; rfl
      rw [e2]; exact g
    | str z =>
      refine ev_revS ha σ H ρ S B0 B ow Q fr gi ?_
      have e2 : d1 fRevS da ρ S = d1 fRevA da ρ S := by unfold d1; rw [e]; rfl
      rw [e2]; exact g
    | _ => exact absurd (by unfold d1; rw [e]; rfl) g.2.2
end PD
/-! PDv: defs that make lambdas; classes by what their text is; the frame of a law. -/
namespace PD
open PySem PySem.Spec PyProof.Rows L2 LamX
theorem fn_denC {P : Program} {w : World} {K : PySem.W.Frag} {mg : Str → Option Value} {base : Heap} {g : Gx} {x qual : Str} {st : Stmt} {f cA : Addr} {fd : FuncData} {N ps : List Str} {k : Nat} {ks : List Md} {fr : Bool} {m1 : List Md} {db : DS}
    (F : FunC K x qual st f fd cA) (S : FnScope N ps (defScope st)) (hks : ks.length = ps.length) (ha : ks.all argMd = true) (hn : ks.length ≤ N.length)
    (hbody : ∀ (A : Around) (outer : List PySem.Env) (s : Shared) (H : Hp) (E : XK), Room k (A.deeper (envOfC qual (defScope st) s.heap.objs.size f (.ref cA))) →
      SVs (fnC g P w K mg base N qual st f (.ref cA) A outer s H E) ⟨fr, [], none⟩ (mds0 N.length ks) m1 (defBody st) db) :
    FnOk P w K mg base (L2.CX P w) (k + 1) f fd ps (spD K mg g ks fr (dFn fr N.length db)) := by
  refine F.okX S (fun vs H Q E h => ?_) (fun A outer s H vs Q E hr h => ⟨_, wss, ?_⟩)
  · obtain ⟨ds, S0, B, a, _⟩ := h
    rw [a.length, hks]
  · obtain ⟨ds, S0, B, a, gi, h1, h2, h3⟩ := h
    refine hbody A outer s H E hr H B B (fun _ => 0) _ _ H S0 _ ⟨frame0 gi a ha hn, gi, Evo.refl _ _, fun p h n => absurd h n⟩ ⟨fun ρ' S' e σ' H' B' ow' i ex => ?_, fun d S' e v H' ev gi' rs => ?_, fun ρ' S' e => ?_, fun xc ρ' S' e σ' H' B' ow' cls dd mx gi' ev nw sb ex xr => ?_, fun e => ?_⟩
    · cases fr with
      | true => exact absurd (by unfold dFn; rw [e]; rfl) h3
      | false => exact h1 .none S' .non H' (by unfold dFn; rw [e]; rfl) i.ev (i.gi.less i.fr.sub i.fr.gsub) Is.non
    · exact h1 d S' v H' (by unfold dFn; rw [e]; rfl) ev gi' rs
    · exact absurd (by unfold dFn; rw [e]; rfl) h3
    · exact h2 xc S' cls dd H' (by unfold dFn; rw [e]; rfl) ev (gi'.less sb gi.sub) (xr.mono (fz_anti sb))
    · exact absurd (by unfold dFn; rw [e]; rfl) h3
/-- a table's name by its place -/
theorem tab_name {T : List (Addr × Str)} {P : Addr} {q : Str} (nd : (T.map (·.1)).Nodup) (h : (P, q) ∈ T) : ∀ p ∈ T, p.1 = P → p.2 = q := by
  induction T with
  | nil => cases h
  | cons a T ih =>
    rw [List.map_cons, List.nodup_cons] at nd
    intro p hp e
    rcases List.mem_cons.mp h with h1 | h1
    · rcases List.mem_cons.mp hp with rfl | h2
      · rw [← h1]
      · exact absurd (List.mem_map.mpr ⟨p, h2, by rw [e, ← h1]⟩) nd.1
    · rcases List.mem_cons.mp hp with rfl | h2
      · exact absurd (List.mem_map.mpr ⟨_, h1, e.symm⟩) nd.1
      · exact ih nd.2 h1 p h2 e
/-- x(lambda: body), x a def of the text -/
theorem ev_lamF {c : Cc} {m m' : List Md} {x a : Str} {st : Stmt} {gA cA P : Addr} {fd : FuncData} {k : Nat} {Ng : List Str}
    {params : Arguments} {body : Expr} {scope : Scope} {db : (Store → R PyData) → DS} {dl : DE} {p lpos pos : Pos} (F : Fun c.X.K x x st gA fd) (b : Binds c.X.K fd [a] []) (hm : c.X.mg x = some (.ref gA)) (Sg : FnScope Ng [a] (defScope st)) (hNg : Ng[0]? = some a) (hva : Vis (defScope st) a)
    (hG : ∀ cdv, LamFn c.X.prog c.X.w c.X.K c.X.mg c.X.base c.g x a Ng (defScope st) gA cdv (defBody st) db)
    (TB : TabB c.X.base c.X.mg cA P) (hmT : (P, c.X.env.qual ++ "<lambda>") ∈ c.g.T) (nd : (c.g.T.map (·.1)).Nodup) (hL : c.g.L = none) (hw : Wk m m' = true) (hno : noOwn m' = true) (hg : Gl c.X x) (hcode : c.X.env.code = .ref cA) (hr : Room (k + 2) c.X.A) (L : LamS c.X.env.scope scope)
    (hbody : ∀ (A : Around) (outer : List PySem.Env) (s : Shared) (H : Hp) (E : XK) (f c' : Addr), Room k (A.deeper (lamEnv c.X scope s.heap.objs.size f c')) → EV ⟨c.g, lamCx c.X A outer s H E scope f c', fun cls d _ H' => E cls d H'⟩ m' body dl)
    (hdef : defaultsOf params c.X.env = ([], []) := by rfl)
    (hbind : ∀ (q : Str) (cl : List (Str × Addr)) (pm cv ctv : Value), bindArgs (PySem.W.kla_fn "<lambda>" q params body scope cl pm cv ctv) ⟨[], []⟩ = pure [] := by intros; rfl)
    (hdb : (x == ("__debug__" : Str)) = false := by decide) (hd : (a == ("__debug__" : Str)) = false := by decide) (hcd : (a == ("__classdict__" : Str)) = false := by decide) :
    EV c m (.Call (.Name x p) [.Lambda params body scope lpos] [] pos) (dLam Ng.length db dl) := by
  obtain ⟨⟨oc, od, kV, doc, pm, an, cdv, ct, osl, rfl, lk, hcc⟩, kp⟩ := F
  exact ev_lam hL hw hno hg hm kp lk hcc b Sg hNg hva (hG cdv) TB hcode hmT (tab_name nd hmT) hr L hdef hbind hbody hdb hd hcd
/-- the body of a class's one def -/
def clsInit (s : Stmt) : Stmt := match s with
  | .ClassDef (body := b) .. => b.headD (.Pass ⟨0, 0, 0, 0⟩)
  | _ => .Pass ⟨0, 0, 0, 0⟩
/-- as Ex1, no context -/
structure Ex1f (P : Program) (w : World) (K : PySem.W.Frag) (mg : Str → Option Value) (base : Heap) (k : Nat) (n : Str) (C fI : Addr) (fd : FuncData) (f : Str) (ps : List Str) : Prop where
  T : OexC K C
  g : mg n = some (.ref C)
  i : PySem.W.findIn K (.ref C) "__init__" = some (some (.ref fI))
  ti : PySem.W.typeIn K (.ref fI) = some (.type "function")
  no : PySem.W.findIn K (.ref C) f = some none
  F : FnOk P w K mg base CX0 k fI fd ps (spInit K C f)
  b : Binds K fd ps []
theorem Ex1f.x {X : Cx} {k : Nat} {n : Str} {C fI : Addr} {fd : FuncData} {f : Str} {ps : List Str} (h : Ex1f X.prog X.w X.K X.mg X.base k n C fI fd f ps) : Ex1 X k n C fI fd f ps := ⟨h.T, h.g, h.i, h.ti, h.no, h.F, h.b⟩
/-- where a def stands -/
theorem at_mk {X : Cx} {x qual : Str} {st : Stmt} {f : Addr} {fd : FuncData} {ps : List Str} (F : Fun X.K x qual st f fd) (g : X.mg x = some (.ref f)) (b : Binds X.K fd ps []) : At X x f fd ps := ⟨g, F.kp, b⟩
/-- the frame of a law: the tables, the lists that all share -/
abbrev gW (T : List (Addr × Str)) (SA : List Addr) : Gx := ⟨SA, T, none, none⟩
theorem kx_nx {g : Gx} {P : Program} {w : World} {K : PySem.W.Frag} {mg : Str → Option Value} {base : Heap} {Ng ps : List Str} {x : Str} {st : Stmt} {gA : Addr} {cdg : Value} {A : Around} {stack : List PySem.Env} {s : Shared} {H : Hp} {k : Nat} (S : FnScope Ng ps (defScope st)) (hr : Room k (A.deeper (envOfC x (defScope st) s.heap.objs.size gA cdg))) :
    Kx ⟨g, (nxCx P w K mg base Ng x (defScope st) gA cdg A stack s H).nox, fun _ _ _ _ => False⟩ k := ⟨hr, LamX.takes0, rfl, S.nd⟩
end PD
/-! PDw: the combinators at work, for plain proofs. -/
namespace PD
open PySem PySem.Spec PyProof.Rows L2
variable {a b : DE} {ρ : Env} {S : Store}
@[simp] theorem ap_seq {a b : DS} : dSeq a b ρ S = (a ρ S).bind b := rfl
@[simp] theorem ap_nx : dNx ρ S = .nx ρ S := rfl
@[simp] theorem ap_brk : dBrk ρ S = .brk ρ S := rfl
@[simp] theorem ap_var {i : Nat} : dVar i ρ S = ofO (ρ.getD i none) S := rfl
@[simp] theorem ap_c {d : PyData} : dC d ρ S = .ok d S := rfl
@[simp] theorem ap_nil : dNil ρ S = .ok [] S := rfl
@[simp] theorem ap_cons {r : DA} : dCons a r ρ S = (a ρ S).bind fun x S1 => (r ρ S1).bind fun xs S2 => .ok (x :: xs) S2 := rfl
@[simp] theorem ap_tup {r : DA} : dTup r ρ S = (r ρ S).bind fun xs S1 => if sz xs.length then .ok (.tuple xs) S1 else .bad := rfl
@[simp] theorem ap_lst {r : DA} : dLst r ρ S = (r ρ S).bind fun xs S1 => if sz xs.length then .ok (.list xs) S1 else .bad := rfl
@[simp] theorem ap_d1 {F : PyData → Option PyData} : d1 F a ρ S = (a ρ S).bind fun x S1 => ofO (F x) S1 := rfl
@[simp] theorem ap_d2 {F : PyData → PyData → Option PyData} : d2 F a b ρ S = (a ρ S).bind fun x S1 => (b ρ S1).bind fun y S2 => ofO (F x y) S2 := rfl
@[simp] theorem ap_sl {F : PyData → Option Int → Option Int → Option PyData} {l h : DP} : dSl F a l h ρ S = (a ρ S).bind fun x S1 => (l ρ S1).bind fun l S2 => (h ρ S2).bind fun h S3 => ofO (F x l h) S3 := rfl
@[simp] theorem ap_pno : pNo ρ S = .ok none S := rfl
@[simp] theorem ap_psm : pSm a ρ S = (a ρ S).bind fun x S1 => match x with | .int i => .ok (some i) S1 | _ => .bad := rfl
@[simp] theorem ap_test : dTest a ρ S = (a ρ S).bind fun x S1 => match x with | .bool b => .ok b S1 | _ => .bad := rfl
@[simp] theorem ap_chain {F F' : PyData → PyData → Option PyData} {e : DE} : dChain F F' a b e ρ S = (a ρ S).bind fun x S1 => (b ρ S1).bind fun y S2 => match F x y with
  | some (.bool true) => (e ρ S2).bind fun z S3 => ofO (F' y z) S3
  | some (.bool false) => .ok (.bool false) S2
  | _ => .bad := rfl
@[simp] theorem ap_and {a b : DT} : dAnd a b ρ S = (a ρ S).bind fun x S1 => if x = true then b ρ S1 else .ok false S1 := rfl
@[simp] theorem ap_or {a b : DT} : dOr a b ρ S = (a ρ S).bind fun x S1 => if x = true then .ok true S1 else b ρ S1 := rfl
@[simp] theorem ap_not {a : DT} : dNot a ρ S = (a ρ S).bind fun x S1 => .ok (!x) S1 := rfl
@[simp] theorem ap_ife {t : DT} : dIfE t a b ρ S = (t ρ S).bind fun x S1 => if x = true then a ρ S1 else b ρ S1 := rfl
@[simp] theorem ap_st : dSt ρ S = .ok .none S := rfl
@[simp] theorem ap_call {f : List PyData → Store → R PyData} {r : DA} : dCall f r ρ S = (r ρ S).bind fun ds S1 => f ds S1 := rfl
@[simp] theorem ap_it {F : PyData → Option (List PyData)} : dIt F a ρ S = (a ρ S).bind fun x S1 => ofO (F x) S1 := rfl
@[simp] theorem ap_it2 {F : PyData → PyData → Option (List PyData)} : dIt2 F a b ρ S = (a ρ S).bind fun x S1 => (b ρ S1).bind fun y S2 => ofO (F x y) S2 := rfl
@[simp] theorem ap_comp {di : DI} {t : Tg} {tt : DT} {de : DE} : dComp di t tt de ρ S = (di ρ S).bind fun ds S1 => compL t tt de ρ [] ds S1 := rfl
@[simp] theorem ap_yes : dYes ρ S = .ok true S := rfl
@[simp] theorem ap_set {i : Nat} : dSet i a ρ S = (a ρ S).st ρ fun d S1 => .nx (ρ.set i (some d)) S1 := rfl
@[simp] theorem ap_tupset {is : List Nat} : dTupSet is a ρ S = (a ρ S).st ρ fun d S1 => match (Tg.tup is).bind d ρ with | some ρ1 => .nx ρ1 S1 | none => .bad := rfl
@[simp] theorem ap_ifs {t : DT} {a b : DS} : dIfS t a b ρ S = (t ρ S).st ρ fun q S1 => if q = true then a ρ S1 else b ρ S1 := rfl
@[simp] theorem ap_ret : dRet a ρ S = (a ρ S).st ρ fun d S1 => .ret d S1 := rfl
@[simp] theorem ap_drop : dDrop a ρ S = (a ρ S).st ρ fun _ S1 => .nx ρ S1 := rfl
@[simp] theorem ap_for {di : DI} {t : Tg} {body : DS} : dFor di t body ρ S = (di ρ S).st ρ fun ds S1 => forL t body ds ρ S1 := rfl
@[simp] theorem ap_app {i : Nat} : dApp i a ρ S = onLst ρ i fun xs => (a ρ S).st ρ fun d S1 => putO ρ i (fApp xs d) S1 := rfl
@[simp] theorem ap_ext {i : Nat} : dExt i a ρ S = onLst ρ i fun xs => (a ρ S).st ρ fun d S1 => putO ρ i (fExt xs d) S1 := rfl
@[simp] theorem ap_stix {k : Nat} : dStIx k a ρ S = (a ρ S).bind fun y S1 => match S1[k]? with | some xs => ofO (fIx (.list xs) y) S1 | none => .bad := rfl
@[simp] theorem ap_par {is : List Nat} {as : DA} : dPar is as ρ S = (as ρ S).st ρ fun ds S1 => match setAll ρ is ds with | some ρ1 => .nx ρ1 S1 | none => .bad := rfl
@[simp] theorem ap_m1 {F : Str → PyData → Option PyData} : dM1 F a b ρ S = (a ρ S).bind fun x S1 => match x with | .str z => (b ρ S1).bind fun y S2 => ofO (F z y) S2 | _ => .bad := rfl
@[simp] theorem ap_stset {k : Nat} : dStSet k b a ρ S = (a ρ S).st ρ fun d S1 => (b ρ S1).st ρ fun y S2 => match S2[k]? with
  | some xs => (match fSetI xs y d with | some (.list ys) => .nx ρ (S2.set k ys) | _ => .bad)
  | none => .bad := rfl
/-! values at work -/
@[simp] theorem f_add {i j : Int} : fAdd (.int i) (.int j) = some (.int (i + j)) := rfl
@[simp] theorem f_I {C : Int → Int → Bool} {f : Int → Int → Int} {i j : Int} : fI C f (.int i) (.int j) = if C i j then some (.int (f i j)) else none := rfl
@[simp] theorem f_B {f : Int → Int → Bool} {i j : Int} : fB f (.int i) (.int j) = some (.bool (f i j)) := rfl
@[simp] theorem f_gt {i j : Int} : fGt (.int i) (.int j) = some (.bool (decide (j < i))) := rfl
@[simp] theorem f_ge {i j : Int} : fGe (.int i) (.int j) = some (.bool (decide (j ≤ i))) := rfl
@[simp] theorem f_lt {i j : Int} : fLt (.int i) (.int j) = some (.bool (decide (i < j))) := rfl
@[simp] theorem f_le {i j : Int} : fLe (.int i) (.int j) = some (.bool (decide (i ≤ j))) := rfl
@[simp] theorem f_int {i : Int} : fInt (.int i) = some (.int i) := rfl
@[simp] theorem f_lenL {xs : List PyData} : fLen (.list xs) = some (.int xs.length) := rfl
@[simp] theorem f_lenT {xs : List PyData} : fLen (.tuple xs) = some (.int xs.length) := rfl
theorem f_times {i j : Int} (h : cMul i j = true) : fTimes (.int i) (.int j) = some (.int (i * j)) := by
  unfold fTimes fMul orF
  simp [h]
theorem cMul_l {i j : Int} (h1 : -(2 ^ 64) < i) (h2 : i < 2 ^ 64) : cMul i j = true := by unfold cMul; simp; omega
theorem cMul_r {i j : Int} (h1 : -(2 ^ 64) < j) (h2 : j < 2 ^ 64) : cMul i j = true := by unfold cMul; simp; omega
/-! comprehensions and loops at work -/
theorem comp_map {t : Tg} {de : DE} {ρ : Env} {S : Store} {f : PyData → PyData} : ∀ {ds acc : List PyData}, (∀ d ∈ ds, ∃ ρ1, t.bind d ρ = some ρ1 ∧ de ρ1 S = .ok (f d) S) → compL t dYes de ρ acc ds S = .ok (.list (acc ++ ds.map f)) S
  | [], acc, _ => by rw [compL_nil]; simp
  | d :: ds, acc, h => by
    obtain ⟨ρ1, e1, e2⟩ := h d (List.mem_cons_self ..)
    rw [compL_cons, e1]
    simp only [ap_yes, R.calm_ok, R.bind_ok, if_true, e2]
    rw [comp_map fun d' hd => h d' (List.mem_cons_of_mem _ hd)]
    simp
/-- with a state -/
theorem comp_inv {t : Tg} {tt : DT} {de : DE} {ρ : Env} {I : Store → Prop} {E : PyData → Prop} : ∀ {ds acc : List PyData} {S : Store}, I S → (∀ x ∈ acc, E x) → (∀ d ∈ ds, ∀ S, I S → ∃ ρ1, t.bind d ρ = some ρ1 ∧ ∃ b S1, tt ρ1 S = .ok b S1 ∧ I S1 ∧ (b = true → ∃ x S2, de ρ1 S1 = .ok x S2 ∧ I S2 ∧ E x)) →
    ∃ xs S', compL t tt de ρ acc ds S = .ok (.list xs) S' ∧ I S' ∧ (∀ x ∈ xs, E x) ∧ xs.length ≤ acc.length + ds.length
  | [], acc, S, hi, ha, _ => ⟨acc, S, compL_nil .., hi, ha, by simp⟩
  | d :: ds, acc, S, hi, ha, h => by
    obtain ⟨ρ1, e1, b, S1, e2, i1, hb⟩ := h d (List.mem_cons_self ..) S hi
    rw [compL_cons, e1]
    simp only [e2, R.calm_ok, R.bind_ok]
    cases b with
    | false =>
      rw [if_neg (by simp)]
      obtain ⟨xs, S', q1, q2, q3, q4⟩ := comp_inv (acc := acc) i1 ha fun d' hd => h d' (List.mem_cons_of_mem _ hd)
      exact ⟨xs, S', q1, q2, q3, by simp; omega⟩
    | true =>
      rw [if_pos rfl]
      obtain ⟨x, S2, e3, i2, ex⟩ := hb rfl
      simp only [e3, R.calm_ok, R.bind_ok]
      obtain ⟨xs, S', q1, q2, q3, q4⟩ := comp_inv (acc := acc ++ [x]) i2 (fun y hy => by
        rcases List.mem_append.mp hy with hy | hy
        · exact ha y hy
        · rw [List.mem_singleton.mp hy]; exact ex) fun d' hd => h d' (List.mem_cons_of_mem _ hd)
      exact ⟨xs, S', q1, q2, q3, by simp at q4; simp; omega⟩
/-- as many items as are gone through -/
theorem comp_invY {t : Tg} {de : DE} {ρ : Env} {I : Store → Prop} {E : PyData → Prop} : ∀ {ds acc : List PyData} {S : Store}, I S → (∀ x ∈ acc, E x) → (∀ d ∈ ds, ∀ S, I S → ∃ ρ1, t.bind d ρ = some ρ1 ∧ ∃ x S2, de ρ1 S = .ok x S2 ∧ I S2 ∧ E x) →
    ∃ xs S', compL t dYes de ρ acc ds S = .ok (.list xs) S' ∧ I S' ∧ (∀ x ∈ xs, E x) ∧ xs.length = acc.length + ds.length
  | [], acc, S, hi, ha, _ => ⟨acc, S, compL_nil .., hi, ha, by simp⟩
  | d :: ds, acc, S, hi, ha, h => by
    obtain ⟨ρ1, e1, x, S2, e3, i2, ex⟩ := h d (List.mem_cons_self ..) S hi
    rw [compL_cons, e1]
    simp only [ap_yes, R.calm_ok, R.bind_ok, if_true, e3]
    obtain ⟨xs, S', q1, q2, q3, q4⟩ := comp_invY (acc := acc ++ [x]) i2 (fun y hy => by
      rcases List.mem_append.mp hy with hy | hy
      · exact ha y hy
      · rw [List.mem_singleton.mp hy]; exact ex) fun d' hd => h d' (List.mem_cons_of_mem _ hd)
    exact ⟨xs, S', q1, q2, q3, by simp at q4; simp; omega⟩
/-- a loop that goes on: what holds of slots and state stays -/
theorem for_inv {t : Tg} {body : DS} {I : Env → Store → Prop} : ∀ {ds : List PyData} {ρ : Env} {S : Store}, I ρ S → (∀ d ∈ ds, ∀ ρ S, I ρ S → ∃ ρ1, t.bind d ρ = some ρ1 ∧ ∃ ρ2 S2, body ρ1 S = .nx ρ2 S2 ∧ I ρ2 S2) → ∃ ρ' S', forL t body ds ρ S = .nx ρ' S' ∧ I ρ' S'
  | [], ρ, S, hi, _ => ⟨ρ, S, forL_nil .., hi⟩
  | d :: ds, ρ, S, hi, h => by
    obtain ⟨ρ1, e1, ρ2, S2, e2, i2⟩ := h d (List.mem_cons_self ..) ρ S hi
    rw [forL_cons, e1]
    simp only [e2]
    exact for_inv i2 fun d' hd => h d' (List.mem_cons_of_mem _ hd)
end PD
namespace K77
open PySem PySem.Spec PyProof.Rows L2 LamX PD
def top (i : Nat) : Stmt := PySem.Challenge.pw_colourhouse_k77_texts_of_webs_misread.main.body.getD i (.Pass ⟨0, 0, 0, 0⟩)
/-- the classes of exceptions that are raised -/
abbrev xcs : List Str := ["BadText"]
/-- what the head has written -/
structure Tx (K : PySem.W.Frag) (mg : Str → Option Value) where
  A_tie_in : Addr
  D_tie_in : FuncData
  A__law_tape : Addr
  D__law_tape : FuncData
  A__law_pick : Addr
  D__law_pick : FuncData
  A__law_text : Addr
  D__law_text : FuncData
  A__law_paint_text : Addr
  D__law_paint_text : FuncData
  A__law_told : Addr
  D__law_told : FuncData
  A__law_due : Addr
  D__law_due : FuncData
  A__law_any : Addr
  D__law_any : FuncData
  A_read_web : Addr
  D_read_web : FuncData
  A_read_paint : Addr
  D_read_paint : FuncData
  A__law_web : Addr
  D__law_web : FuncData
  A__law_paint : Addr
  D__law_paint : FuncData
  A__law_bent : Addr
  D__law_bent : FuncData
  A__law_is_web_right : Addr
  D__law_is_web_right : FuncData
  cA__law_is_web_right : Addr
  P__law_is_web_right : Addr
  A__law_is_paint_right : Addr
  D__law_is_paint_right : FuncData
  cA__law_is_paint_right : Addr
  P__law_is_paint_right : Addr
  A_law : Addr
  D_law : FuncData
  cA_law : Addr
  P_law : Addr
  C_BadText : Addr
  C_ColourError : Addr
  I_BadText : Addr
  J_BadText : FuncData
  F_tie_in : Fun K "tie_in" "tie_in" (top 8) A_tie_in D_tie_in
  G_tie_in : mg "tie_in" = some (.ref A_tie_in)
  B_tie_in : Binds K D_tie_in ["n", "word"] []
  F__law_tape : Fun K "_law_tape" "_law_tape" (top 12) A__law_tape D__law_tape
  G__law_tape : mg "_law_tape" = some (.ref A__law_tape)
  B__law_tape : Binds K D__law_tape ["script"] []
  F__law_pick : Fun K "_law_pick" "_law_pick" (top 13) A__law_pick D__law_pick
  G__law_pick : mg "_law_pick" = some (.ref A__law_pick)
  B__law_pick : Binds K D__law_pick ["tape", "many"] []
  F__law_text : Fun K "_law_text" "_law_text" (top 16) A__law_text D__law_text
  G__law_text : mg "_law_text" = some (.ref A__law_text)
  B__law_text : Binds K D__law_text ["web"] []
  F__law_paint_text : Fun K "_law_paint_text" "_law_paint_text" (top 18) A__law_paint_text D__law_paint_text
  G__law_paint_text : mg "_law_paint_text" = some (.ref A__law_paint_text)
  B__law_paint_text : Binds K D__law_paint_text ["paint"] []
  F__law_told : Fun K "_law_told" "_law_told" (top 19) A__law_told D__law_told
  G__law_told : mg "_law_told" = some (.ref A__law_told)
  B__law_told : Binds K D__law_told ["call"] []
  F__law_due : Fun K "_law_due" "_law_due" (top 20) A__law_due D__law_due
  G__law_due : mg "_law_due" = some (.ref A__law_due)
  B__law_due : Binds K D__law_due ["text"] []
  F__law_any : Fun K "_law_any" "_law_any" (top 14) A__law_any D__law_any
  G__law_any : mg "_law_any" = some (.ref A__law_any)
  B__law_any : Binds K D__law_any ["tape", "things"] []
  F_read_web : Fun K "read_web" "read_web" (top 9) A_read_web D_read_web
  G_read_web : mg "read_web" = some (.ref A_read_web)
  B_read_web : Binds K D_read_web ["text"] []
  F_read_paint : Fun K "read_paint" "read_paint" (top 10) A_read_paint D_read_paint
  G_read_paint : mg "read_paint" = some (.ref A_read_paint)
  B_read_paint : Binds K D_read_paint ["text"] []
  F__law_web : Fun K "_law_web" "_law_web" (top 15) A__law_web D__law_web
  G__law_web : mg "_law_web" = some (.ref A__law_web)
  B__law_web : Binds K D__law_web ["tape", "most"] []
  F__law_paint : Fun K "_law_paint" "_law_paint" (top 17) A__law_paint D__law_paint
  G__law_paint : mg "_law_paint" = some (.ref A__law_paint)
  B__law_paint : Binds K D__law_paint ["tape", "n", "k"] []
  F__law_bent : Fun K "_law_bent" "_law_bent" (top 21) A__law_bent D__law_bent
  G__law_bent : mg "_law_bent" = some (.ref A__law_bent)
  B__law_bent : Binds K D__law_bent ["tape", "text"] []
  F__law_is_web_right : FunC K "_law_is_web_right" "_law_is_web_right" (top 22) A__law_is_web_right D__law_is_web_right cA__law_is_web_right
  G__law_is_web_right : mg "_law_is_web_right" = some (.ref A__law_is_web_right)
  B__law_is_web_right : Binds K D__law_is_web_right ["tape", "web"] []
  F__law_is_paint_right : FunC K "_law_is_paint_right" "_law_is_paint_right" (top 23) A__law_is_paint_right D__law_is_paint_right cA__law_is_paint_right
  G__law_is_paint_right : mg "_law_is_paint_right" = some (.ref A__law_is_paint_right)
  B__law_is_paint_right : Binds K D__law_is_paint_right ["tape"] []
  F_law : FunC K "law" "law" (top 24) A_law D_law cA_law
  G_law : mg "law" = some (.ref A_law)
  B_law : Binds K D_law ["script"] []
  b_ValueError : mg "ValueError" = none
  b_abs : mg "abs" = none
  b_enumerate : mg "enumerate" = none
  b_int : mg "int" = none
  b_isinstance : mg "isinstance" = none
  b_len : mg "len" = none
  b_range : mg "range" = none
  b_str : mg "str" = none
  b_tuple : mg "tuple" = none
  c_DIGITS : ∃ t, mg "DIGITS" = some (.str "0123456789" t)
  c_EMPTY : ∃ t, mg "EMPTY" = some (.str "-" t)
  c_BARE : ∃ t, mg "BARE" = some (.str "." t)
  c_MOST_PLACES : ∃ t, mg "MOST_PLACES" = some (.int 8 t)
  nd : ([P__law_is_web_right, P__law_is_paint_right, P_law] : List Addr).Nodup
  g_BadText : mg "BadText" = some (.ref C_BadText)
  g_ColourError : mg "ColourError" = some (.ref C_ColourError)
  xB : ([("BadText", C_BadText)] : List (Str × Addr)).all (fun p => excB K p.2) = true
  o_BadText : OexC K C_BadText
  i_BadText : PySem.W.findIn K (.ref C_BadText) "__init__" = some (some (.ref I_BadText))
  ti_BadText : PySem.W.typeIn K (.ref I_BadText) = some (.type "function")
  no_BadText : PySem.W.findIn K (.ref C_BadText) "place" = some none
  FI_BadText : Fun K "__init__" "BadText.__init__" (clsInit (top 2)) I_BadText J_BadText
  BI_BadText : Binds K J_BadText ["self", "place"] []
  kB_BadText : ([("BadText", C_BadText)] : List (Str × Addr)).all (fun p => decide (PySem.W.kitOne K (.ref p.2) (.ref C_BadText) = some (inS ["BadText"] p.1))) = true
  kB_ValueError : ([("BadText", C_BadText)] : List (Str × Addr)).all (fun p => decide (PySem.W.kitOne K (.ref p.2) (.type "ValueError") = some (inS ["BadText"] p.1))) = true
  eB_ColourError : ([("BadText", C_BadText)] : List (Str × Addr)).all (fun p => decide (PySem.W.exmOne K (.ref p.2) (.ref C_ColourError) = some (inS ["BadText"] p.1))) = true
  nB_place : ([("BadText", C_BadText)] : List (Str × Addr)).all (fun p => decide (PySem.W.findIn K (.ref p.2) "place" = some none)) = true
theorem sc_BadText : FnScope ["self", "place"] ["self", "place"] (defScope (clsInit (top 2))) := ⟨rfl, rfl, rfl, by decide +kernel, rfl, by decide +kernel, by decide +kernel⟩
section
variable {K : PySem.W.Frag} {mg : Str → Option Value} (T : Tx K mg)
def Tx.cs : List (Addr × Addr) := [(T.cA__law_is_web_right, T.P__law_is_web_right), (T.cA__law_is_paint_right, T.P__law_is_paint_right), (T.cA_law, T.P_law)]
def Tx.tabs : List (Addr × Str) := [(T.P__law_is_web_right, (Str.ofString "_law_is_web_right" ++ ".<locals>.") ++ "<lambda>"), (T.P__law_is_paint_right, (Str.ofString "_law_is_paint_right" ++ ".<locals>.") ++ "<lambda>"), (T.P_law, (Str.ofString "law" ++ ".<locals>.") ++ "<lambda>")]
include T
theorem Tx.ndT : (T.tabs.map (·.1)).Nodup := T.nd
theorem Tx.gs : ∀ p ∈ ([("BadText", T.C_BadText)] : List (Str × Addr)), mg p.1 = some (.ref p.2) := by
  intro p hp
  simp only [List.mem_cons, List.not_mem_nil, or_false] at hp
  rcases hp with rfl
  · exact T.g_BadText
theorem Tx.exc : ∀ n ∈ xcs, ∀ E, mg n = some (.ref E) → ExcT K E := by_cls (l := [("BadText", T.C_BadText)]) T.gs fun p hp => excB_ok (all_cls T.xB p hp)
theorem Tx.kit_BadText : ∀ n ∈ xcs, ∀ E, mg n = some (.ref E) → PySem.W.kitOne K (.ref E) (.ref T.C_BadText) = some (inS ["BadText"] n) := by_cls (l := [("BadText", T.C_BadText)]) (F := fun n E => PySem.W.kitOne K (.ref E) (.ref T.C_BadText) = some (inS ["BadText"] n)) T.gs fun p hp => of_decide_eq_true (all_cls T.kB_BadText p hp)
theorem Tx.kit_ValueError : ∀ n ∈ xcs, ∀ E, mg n = some (.ref E) → PySem.W.kitOne K (.ref E) (.type "ValueError") = some (inS ["BadText"] n) := by_cls (l := [("BadText", T.C_BadText)]) (F := fun n E => PySem.W.kitOne K (.ref E) (.type "ValueError") = some (inS ["BadText"] n)) T.gs fun p hp => of_decide_eq_true (all_cls T.kB_ValueError p hp)
theorem Tx.exm_ColourError : ∀ n ∈ xcs, ∀ E, mg n = some (.ref E) → PySem.W.exmOne K (.ref E) (.ref T.C_ColourError) = some (inS ["BadText"] n) := by_cls (l := [("BadText", T.C_BadText)]) (F := fun n E => PySem.W.exmOne K (.ref E) (.ref T.C_ColourError) = some (inS ["BadText"] n)) T.gs fun p hp => of_decide_eq_true (all_cls T.eB_ColourError p hp)
theorem Tx.nof_place : ∀ n ∈ xcs, ∀ E, mg n = some (.ref E) → PySem.W.findIn K (.ref E) "place" = some none := by_cls (l := [("BadText", T.C_BadText)]) (F := fun n E => PySem.W.findIn K (.ref E) "place" = some none) T.gs fun p hp => of_decide_eq_true (all_cls T.nB_place p hp)
theorem x1_BadText {P : Program} {w : World} {base : Heap} : Ex1f P w K mg base 1 "BadText" T.C_BadText T.I_BadText T.J_BadText "place" ["self", "place"] :=
  ⟨T.o_BadText, T.g_BadText, T.i_BadText, T.ti_BadText, T.no_BadText, init_ok (pos := ⟨0, 0, 0, 0⟩) T.FI_BadText sc_BadText rfl (Or.inl rfl) (Or.inl rfl) (by decide) (by decide) (by decide) (by decide), T.BI_BadText⟩
end
theorem sc_tie_in : FnScope ["n", "word", "tie"] ["n", "word"] (defScope (top 8)) := ⟨rfl, rfl, rfl, by decide +kernel, rfl, by decide +kernel, by decide +kernel⟩
theorem sc__law_tape : FnScope ["script", "cells", "cell"] ["script"] (defScope (top 12)) := ⟨rfl, rfl, rfl, by decide +kernel, rfl, by decide +kernel, by decide +kernel⟩
theorem sc__law_pick : FnScope ["tape", "many", "cell", "digit", "number"] ["tape", "many"] (defScope (top 13)) := ⟨rfl, rfl, rfl, by decide +kernel, rfl, by decide +kernel, by decide +kernel⟩
theorem sc__law_text : FnScope ["web", "ties", "one", "other"] ["web"] (defScope (top 16)) := ⟨rfl, rfl, rfl, by decide +kernel, rfl, by decide +kernel, by decide +kernel⟩
theorem sc__law_paint_text : FnScope ["paint", "colour"] ["paint"] (defScope (top 18)) := ⟨rfl, rfl, rfl, by decide +kernel, rfl, by decide +kernel, by decide +kernel⟩
theorem sc__law_told : FnScope ["call", "e"] ["call"] (defScope (top 19)) := ⟨rfl, rfl, rfl, by decide +kernel, rfl, by decide +kernel, by decide +kernel⟩
theorem sc__law_due : FnScope ["text", "n", "last", "at", "tie", "pair"] ["text"] (defScope (top 20)) := ⟨rfl, rfl, rfl, by decide +kernel, rfl, by decide +kernel, by decide +kernel⟩
theorem sc__law_any : FnScope ["tape", "things"] ["tape", "things"] (defScope (top 14)) := ⟨rfl, rfl, rfl, by decide +kernel, rfl, by decide +kernel, by decide +kernel⟩
theorem sc_read_web : FnScope ["text", "n", "found", "words", "number", "word", "tie"] ["text"] (defScope (top 9)) := ⟨rfl, rfl, rfl, by decide +kernel, rfl, by decide +kernel, by decide +kernel⟩
theorem sc_read_paint : FnScope ["text", "found", "number", "sign"] ["text"] (defScope (top 10)) := ⟨rfl, rfl, rfl, by decide +kernel, rfl, by decide +kernel, by decide +kernel⟩
theorem sc__law_web : FnScope ["tape", "most", "n", "some", "share", "one", "other"] ["tape", "most"] (defScope (top 15)) := ⟨rfl, rfl, rfl, by decide +kernel, rfl, by decide +kernel, by decide +kernel⟩
theorem sc__law_paint : FnScope ["tape", "n", "k", "place"] ["tape", "n", "k"] (defScope (top 17)) := ⟨rfl, rfl, rfl, by decide +kernel, rfl, by decide +kernel, by decide +kernel⟩
theorem sc__law_bent : FnScope ["tape", "text", "at", "ties", "odd", "spot", "some", "ahead", "back"] ["tape", "text"] (defScope (top 21)) := ⟨rfl, rfl, rfl, by decide +kernel, rfl, by decide +kernel, by decide +kernel⟩
theorem sc__law_is_web_right : FnScope ["tape", "web", "turn", "text", "due", "told", "none"] ["tape", "web"] (defScope (top 22)) := ⟨rfl, rfl, rfl, by decide +kernel, rfl, by decide +kernel, by decide +kernel⟩
theorem sc__law_is_paint_right : FnScope ["tape", "text", "at", "odd", "cases", "some", "due", "none"] ["tape"] (defScope (top 23)) := ⟨rfl, rfl, rfl, by decide +kernel, rfl, by decide +kernel, by decide +kernel⟩
theorem sc_law : FnScope ["script", "tape", "cases", "text", "due", "turn"] ["script"] (defScope (top 24)) := ⟨rfl, rfl, rfl, by decide +kernel, rfl, by decide +kernel, by decide +kernel⟩
section
variable {P : Program} {w : World} {K : PySem.W.Frag} {mg : Str → Option Value} {base : Heap} (T : Tx K mg) (tb : ∀ p ∈ T.cs, TabB base mg p.1 p.2) (SA : List Addr)
include tb
/-! tie_in -/
def b_tie_in : DS := dSeq (dIfS (dOr (dTest (d2 fNe (d1 fLen (dVar 1)) (dC (.int 3)))) (dOr (dTest (d2 fNe (d2 fIx (dVar 1) (dC (.int 1))) (dC (.str "-")))) (dOr (dTest (d2 (fIn true) (d2 fIx (dVar 1) (dC (.int 0))) (dC (.str "0123456789")))) (dTest (d2 (fIn true) (d2 fIx (dVar 1) (dC (.int 2))) (dC (.str "0123456789"))))))) (dRet (dC .none)) (dNx)) (dSeq (dSet 2 (dTup (dCons (d1 fInt (d2 fIx (dVar 1) (dC (.int 0)))) (dCons (d1 fInt (d2 fIx (dVar 1) (dC (.int 2)))) (dNil))))) (dRet (dIfE (dTest (dChain fLt fLt (d2 fIx (dVar 2) (dC (.int 0))) (d2 fIx (dVar 2) (dC (.int 1))) (dVar 0))) (dVar 2) (dC .none))))
def d_tie_in : List PyData → Store → R PyData := dFn false 3 b_tie_in
theorem ok_tie_in : FnOk P w K mg base (L2.CX P w) 1 T.A_tie_in T.D_tie_in ["n", "word"] (spD K mg (gW T.tabs SA) [.fz, .fz] false d_tie_in) := by
  refine fn_den (N := ["n", "word", "tie"]) (m1 := []) T.F_tie_in sc_tie_in rfl rfl (by decide) (fun cdv A outer s H E hr => ?_)
  have kx := kx_fn (g := gW T.tabs SA) (P := P) (w := w) (K := K) (mg := mg) (base := base) (N := ["n", "word", "tie"]) (qual := "tie_in") (st := top 8) (f := T.A_tie_in) (cdv := cdv) (A := A) (outer := outer) (s := s) (H := H) (E := E) (k := 0) sc_tie_in hr
  exact svs_cons (sv_if (m1 := [.fz, .fz, .fz]) (et_w (ew_or (t1 (rel_ne kx.ux) (EV.eb (ev_len rfl T.b_len (EV.eb (vv 1)))) (EV.eb (ev_int))) (ew_or (t1 (rel_ne kx.ux) (EV.eb (ev_ix (EV.eb (vv 1)) (EV.eb (ev_int)) (fun _ _ => rfl))) (EV.eb (ev_str))) (ew_or (t1 (rel_notIn kx.ux) (EV.eb (ev_ix (EV.eb (vv 1)) (EV.eb (ev_int)) (fun _ _ => rfl))) (EV.eb (ev_gstr rfl T.c_DIGITS))) (ew_or1 (t1 (rel_notIn kx.ux) (EV.eb (ev_ix (EV.eb (vv 1)) (EV.eb (ev_int)) (fun _ _ => rfl))) (EV.eb (ev_gstr rfl T.c_DIGITS)))))))) (svs_one (sv_ret (ev_non))) (svs_nil))
      (svs_cons (sv_set (i := 2) (ev_tup (ea_cons (ev_int_ rfl T.b_int (EV.eb (ev_ix (EV.eb (vv 1)) (EV.eb (ev_int)) (fun _ _ => rfl)))) (ea_cons (ev_int_ rfl T.b_int (EV.eb (ev_ix (EV.eb (vv 1)) (EV.eb (ev_int)) (fun _ _ => rfl)))) (ea_nil)))) (by decide) (ps_set kx.hN rfl (Or.inl rfl) we))
      (svs_one (sv_ret (ev_if (t2 (rel_lt kx.ux) (rel_lt kx.ux) (EV.eb (ev_ix (EV.eb (vv 2)) (EV.eb (ev_int)) (fun _ _ => rfl))) (EV.eb (ev_ix (EV.eb (vv 2)) (EV.eb (ev_int)) (fun _ _ => rfl))) (EV.eb (vv 0))) (vv 2) (ev_non)))))
/-! _law_tape -/
def b__law_tape : DS := dSeq (dSet 1 (dComp (dIt lstD (dSl fSlL (dVar 0) (pNo) (pSm (dC (.int 63))))) (.nm 2) (dYes) (d1 fAbs (d1 fInt (dVar 2))))) (dRet (dLst (dCons (dVar 1) (dCons (dC (.int 0)) (dCons (dC (.int 0)) (dCons (d2 fAdd (dC (.int 31)) (d1 fLen (dVar 1))) (dCons (dC (.int 0)) (dNil))))))))
def d__law_tape : List PyData → Store → R PyData := dFn true 3 b__law_tape
theorem ok__law_tape : FnOk P w K mg base (L2.CX P w) 1 T.A__law_tape T.D__law_tape ["script"] (spD K mg (gW T.tabs SA) [.cs] true d__law_tape) := by
  refine fn_den (N := ["script", "cells", "cell"]) (m1 := []) T.F__law_tape sc__law_tape rfl rfl (by decide) (fun cdv A outer s H E hr => ?_)
  have kx := kx_fn (g := gW T.tabs SA) (P := P) (w := w) (K := K) (mg := mg) (base := base) (N := ["script", "cells", "cell"]) (qual := "_law_tape") (st := top 12) (f := T.A__law_tape) (cdv := cdv) (A := A) (outer := outer) (s := s) (H := H) (E := E) (k := 0) sc__law_tape hr
  exact svs_cons (sv_lc (i := 1) (t := (.nm 2)) (own := [("cell", 2)]) (by decide) rfl rfl rfl kx.hc kx.hN (ic_list (EO.eb (eo_csSl (i := 0) rfl (pv 0) (ep_no) (ep_sm (ev_int))))) (blk_by (by show blkB ["script", "cells", "cell"] (defScope (top 12)) _ _ = true; decide +kernel)) (by decide) (by decide) (fun sc1 Hc1 Cc1 lc1 fc1 => pgn 2 (kx.inn _ sc1 Hc1 Cc1 lc1 fc1).hN) (fun sc1 Hc1 Cc1 lc1 fc1 => ev_abs rfl T.b_abs (EV.eb (ev_int_ rfl T.b_int (EV.eb (vv 2))))))
      (svs_freeze (j := 1) rfl (svs_one (sv_reto (eo_lst (ea_cons (vv 1) (ea_cons (ev_int) (ea_cons (ev_int) (ea_cons (ev_add (EV.eb (ev_int)) (EV.eb (ev_len rfl T.b_len (EV.eb (vv 1))))) (ea_cons (ev_int) (ea_nil))))))))))
/-! _law_pick -/
def b__law_pick : DS := dSeq (dIfS (dAnd (dTest (d2 fEq (dStIx 0 (dC (.int 2))) (dC (.int 0)))) (dTest (d2 fLt (dStIx 0 (dC (.int 1))) (d1 fLen (dStIx 0 (dC (.int 0))))))) (dSeq (dSet 2 (d2 fIx (dStIx 0 (dC (.int 0))) (dStIx 0 (dC (.int 1))))) (dSeq (dStSet 0 (dC (.int 1)) (d2 fAdd (dStIx 0 (dC (.int 1))) (dC (.int 1)))) (dSeq (dStSet 0 (dC (.int 3)) (d2 (fI cMod fun i j => i % j) (d1 fInt (d2 fAdd (d2 fAdd (d2 fTimes (dStIx 0 (dC (.int 3))) (dC (.int 69621))) (dVar 2)) (dC (.int 11)))) (dC (.int 2147483629)))) (dIfS (dTest (d2 fGe (dVar 2) (d2 (fI cPow fun i j => i ^ j.toNat) (dC (.int 10)) (dC (.int 18))))) (dStSet 0 (dC (.int 2)) (dVar 2)) (dNx))))) (dNx)) (dSeq (dIfS (dTest (d2 fGt (dStIx 0 (dC (.int 2))) (dC (.int 0)))) (dSeq (dSet 3 (d2 (fI cMod fun i j => i % j) (d1 fInt (dStIx 0 (dC (.int 2)))) (dVar 1))) (dSeq (dStSet 0 (dC (.int 2)) (d2 (fI cDiv fun i j => i / j) (dStIx 0 (dC (.int 2))) (dVar 1))) (dRet (dVar 3)))) (dNx)) (dSeq (dStSet 0 (dC (.int 4)) (d2 fAdd (dStIx 0 (dC (.int 4))) (dC (.int 1)))) (dSeq (dSet 4 (d2 (fI cMod fun i j => i % j) (d1 fInt (d2 fTimes (d1 fInt (d2 fAdd (dStIx 0 (dC (.int 3))) (d2 fTimes (dC (.int 7919)) (dStIx 0 (dC (.int 4)))))) (dC (.int 48271)))) (dC (.int 2147483647)))) (dSeq (dSet 4 (d2 (fI cMod fun i j => i % j) (d1 fInt (d2 fTimes (dVar 4) (d2 fAdd (d2 (fI cDiv fun i j => i / j) (dVar 4) (dC (.int 1009))) (dC (.int 69621))))) (dC (.int 2147483647)))) (dSeq (dSet 4 (d2 (fI cMod fun i j => i % j) (d1 fInt (d2 fTimes (dVar 4) (d2 fAdd (d2 (fI cDiv fun i j => i / j) (dVar 4) (dC (.int 2003))) (dC (.int 40692))))) (dC (.int 2147483399)))) (dRet (d2 (fI cMod fun i j => i % j) (d1 fInt (d2 (fI cDiv fun i j => i / j) (dVar 4) (dC (.int 16)))) (dVar 1))))))))
def d__law_pick : List PyData → Store → R PyData := dFn false 5 b__law_pick
theorem ok__law_pick : FnOk P w K mg base (L2.CX P w) 1 T.A__law_pick T.D__law_pick ["tape", "many"] (spD K mg (gW T.tabs SA) [.st 0, .fz] false d__law_pick) := by
  refine fn_den (N := ["tape", "many", "cell", "digit", "number"]) (m1 := []) T.F__law_pick sc__law_pick rfl rfl (by decide) (fun cdv A outer s H E hr => ?_)
  have kx := kx_fn (g := gW T.tabs SA) (P := P) (w := w) (K := K) (mg := mg) (base := base) (N := ["tape", "many", "cell", "digit", "number"]) (qual := "_law_pick") (st := top 13) (f := T.A__law_pick) (cdv := cdv) (A := A) (outer := outer) (s := s) (H := H) (E := E) (k := 0) sc__law_pick hr
  exact svs_cons (sv_if (m1 := [.st 0, .fz, .fz, .fz, .fz]) (et_w (ew_and (t1 (rel_eq kx.ux) (EV.eb (ev_stIx (k := 0) rfl (pv 0) (ev_int) (fun _ _ => rfl))) (EV.eb (ev_int))) (ew_and1 (t1 (rel_lt kx.ux) (EV.eb (ev_stIx (k := 0) rfl (pv 0) (ev_int) (fun _ _ => rfl))) (EV.eb (ev_len rfl T.b_len (EV.eb (ev_stIx (k := 0) rfl (pv 0) (ev_int) (fun _ _ => rfl))))))))) (svs_cons (sv_set (i := 2) (ev_ix (EV.eb (ev_stIx (k := 0) rfl (pv 0) (ev_int) (fun _ _ => rfl))) (EV.eb (ev_stIx (k := 0) rfl (pv 0) (ev_int) (fun _ _ => rfl))) (fun _ _ => rfl)) (by decide) (ps_set kx.hN rfl (Or.inl rfl) we))
      (svs_cons (sv_stSet (k := 0) rfl (pv 0) (ev_add (EV.eb (ev_stIx (k := 0) rfl (pv 0) (ev_int) (fun _ _ => rfl))) (EV.eb (ev_int))) (ev_int) (fun te g h1 h2 => ps_asg h1 h2))
      (svs_cons (sv_stSet (k := 0) rfl (pv 0) (ev_mod (EV.eb (ev_int_ rfl T.b_int (EV.eb (ev_add (EV.eb (ev_add (EV.eb (ev_times (EV.eb (ev_stIx (k := 0) rfl (pv 0) (ev_int) (fun _ _ => rfl))) (EV.eb (ev_int)))) (EV.eb (vv 2)))) (EV.eb (ev_int)))))) (EV.eb (ev_int))) (ev_int) (fun te g h1 h2 => ps_asg h1 h2))
      (svs_one (sv_if (m1 := [.st 0, .fz, .fz, .fz, .fz]) (t1 (rel_ge kx.ux) (EV.eb (vv 2)) (EV.eb (ev_pow (EV.eb (ev_int)) (EV.eb (ev_int))))) (svs_one (sv_stSet (k := 0) rfl (pv 0) (vv 2) (ev_int) (fun te g h1 h2 => ps_asg h1 h2))) (svs_nil)))))) (svs_nil))
      (svs_cons (sv_if (m1 := [.st 0, .fz, .fz, .fz, .fz]) (t1 (rel_gt kx.ux) (EV.eb (ev_stIx (k := 0) rfl (pv 0) (ev_int) (fun _ _ => rfl))) (EV.eb (ev_int))) (svs_cons (sv_set (i := 3) (ev_mod (EV.eb (ev_int_ rfl T.b_int (EV.eb (ev_stIx (k := 0) rfl (pv 0) (ev_int) (fun _ _ => rfl))))) (EV.eb (vv 1))) (by decide) (ps_set kx.hN rfl (Or.inl rfl) we))
      (svs_cons (sv_stSet (k := 0) rfl (pv 0) (ev_fdiv (EV.eb (ev_stIx (k := 0) rfl (pv 0) (ev_int) (fun _ _ => rfl))) (EV.eb (vv 1))) (ev_int) (fun te g h1 h2 => ps_asg h1 h2))
      (svs_one (sv_ret (vv 3))))) (svs_nil))
      (svs_cons (sv_stSet (k := 0) rfl (pv 0) (ev_add (EV.eb (ev_stIx (k := 0) rfl (pv 0) (ev_int) (fun _ _ => rfl))) (EV.eb (ev_int))) (ev_int) (fun te g h1 h2 => ps_asg h1 h2))
      (svs_cons (sv_set (i := 4) (ev_mod (EV.eb (ev_int_ rfl T.b_int (EV.eb (ev_times (EV.eb (ev_int_ rfl T.b_int (EV.eb (ev_add (EV.eb (ev_stIx (k := 0) rfl (pv 0) (ev_int) (fun _ _ => rfl))) (EV.eb (ev_times (EV.eb (ev_int)) (EV.eb (ev_stIx (k := 0) rfl (pv 0) (ev_int) (fun _ _ => rfl))))))))) (EV.eb (ev_int)))))) (EV.eb (ev_int))) (by decide) (ps_set kx.hN rfl (Or.inl rfl) we))
      (svs_cons (sv_set (i := 4) (ev_mod (EV.eb (ev_int_ rfl T.b_int (EV.eb (ev_times (EV.eb (vv 4)) (EV.eb (ev_add (EV.eb (ev_fdiv (EV.eb (vv 4)) (EV.eb (ev_int)))) (EV.eb (ev_int)))))))) (EV.eb (ev_int))) (by decide) (ps_set kx.hN rfl (Or.inl rfl) we))
      (svs_cons (sv_set (i := 4) (ev_mod (EV.eb (ev_int_ rfl T.b_int (EV.eb (ev_times (EV.eb (vv 4)) (EV.eb (ev_add (EV.eb (ev_fdiv (EV.eb (vv 4)) (EV.eb (ev_int)))) (EV.eb (ev_int)))))))) (EV.eb (ev_int))) (by decide) (ps_set kx.hN rfl (Or.inl rfl) we))
      (svs_one (sv_ret (ev_mod (EV.eb (ev_int_ rfl T.b_int (EV.eb (ev_fdiv (EV.eb (vv 4)) (EV.eb (ev_int)))))) (EV.eb (vv 1))))))))))
/-! _law_text -/
def b__law_text : DS := dSeq (dSet 1 (dM1 fJoin (dC (.str ",")) (dComp (dIt seqD (d2 fIx (dVar 0) (dC (.int 1)))) (.tup [2, 3]) (dYes) (d2 fAdd (d2 fAdd (d1 fStr (dVar 2)) (dC (.str "-"))) (d1 fStr (dVar 3)))))) (dRet (d2 fAdd (d2 fAdd (d1 fStr (d2 fIx (dVar 0) (dC (.int 0)))) (dC (.str " "))) (dIfE (dTest (d2 fGt (d1 fLen (d2 fIx (dVar 0) (dC (.int 1)))) (dC (.int 0)))) (dVar 1) (dC (.str "-")))))
def d__law_text : List PyData → Store → R PyData := dFn false 4 b__law_text
theorem ok__law_text : FnOk P w K mg base (L2.CX P w) 1 T.A__law_text T.D__law_text ["web"] (spD K mg (gW T.tabs SA) [.fz] false d__law_text) := by
  refine fn_den (N := ["web", "ties", "one", "other"]) (m1 := []) T.F__law_text sc__law_text rfl rfl (by decide) (fun cdv A outer s H E hr => ?_)
  have kx := kx_fn (g := gW T.tabs SA) (P := P) (w := w) (K := K) (mg := mg) (base := base) (N := ["web", "ties", "one", "other"]) (qual := "_law_text") (st := top 16) (f := T.A__law_text) (cdv := cdv) (A := A) (outer := outer) (s := s) (H := H) (E := E) (k := 0) sc__law_text hr
  exact svs_cons (sv_set (i := 1) (ev_join (ev_str) (EO.eb (eo_lc (t := (.tup [2, 3])) (own := [("one", 2), ("other", 3)]) kx.hc kx.hN (IFo.c (if_any (ev_ix (EV.eb (vv 0)) (EV.eb (ev_int)) (fun _ _ => rfl)))) (blk_by (by show blkB ["web", "ties", "one", "other"] (defScope (top 16)) _ _ = true; decide +kernel)) (by decide) (by decide) (fun sc1 Hc1 Cc1 lc1 fc1 => pg_tup (kx.inn _ sc1 Hc1 Cc1 lc1 fc1).hc (pgs_cons (pgn 2 (kx.inn _ sc1 Hc1 Cc1 lc1 fc1).hN) (pgs_cons (pgn 3 (kx.inn _ sc1 Hc1 Cc1 lc1 fc1).hN) (pgs_nil)))) (fun sc1 Hc1 Cc1 lc1 fc1 => ev_add (EV.eb (ev_add (EV.eb (ev_str_ rfl T.b_str (EV.eb (vv 2)))) (EV.eb (ev_str)))) (EV.eb (ev_str_ rfl T.b_str (EV.eb (vv 3)))))))) (by decide) (ps_set kx.hN rfl (Or.inl rfl) we))
      (svs_one (sv_ret (ev_add (EV.eb (ev_add (EV.eb (ev_str_ rfl T.b_str (EV.eb (ev_ix (EV.eb (vv 0)) (EV.eb (ev_int)) (fun _ _ => rfl))))) (EV.eb (ev_str)))) (eb_if (t1 (rel_gt kx.ux) (EV.eb (ev_len rfl T.b_len (EV.eb (ev_ix (EV.eb (vv 0)) (EV.eb (ev_int)) (fun _ _ => rfl))))) (EV.eb (ev_int))) (EV.eb (vv 1)) (EV.eb (ev_str))))))
/-! _law_paint_text -/
def b__law_paint_text : DS := dRet (dM1 fJoin (dC (.str "")) (dComp (dIt seqD (dVar 0)) (.nm 1) (dYes) (dIfE (dTest (d2 (fIsN false) (dVar 1) (dC .none))) (dC (.str ".")) (d1 fStr (dVar 1)))))
def d__law_paint_text : List PyData → Store → R PyData := dFn false 2 b__law_paint_text
theorem ok__law_paint_text : FnOk P w K mg base (L2.CX P w) 1 T.A__law_paint_text T.D__law_paint_text ["paint"] (spD K mg (gW T.tabs SA) [.fz] false d__law_paint_text) := by
  refine fn_den (N := ["paint", "colour"]) (m1 := []) T.F__law_paint_text sc__law_paint_text rfl rfl (by decide) (fun cdv A outer s H E hr => ?_)
  have kx := kx_fn (g := gW T.tabs SA) (P := P) (w := w) (K := K) (mg := mg) (base := base) (N := ["paint", "colour"]) (qual := "_law_paint_text") (st := top 18) (f := T.A__law_paint_text) (cdv := cdv) (A := A) (outer := outer) (s := s) (H := H) (E := E) (k := 0) sc__law_paint_text hr
  exact svs_one (sv_ret (ev_join (ev_str) (EO.eb (eo_lc (t := (.nm 1)) (own := [("colour", 1)]) kx.hc kx.hN (IFo.c (if_any (vv 0))) (blk_by (by show blkB ["paint", "colour"] (defScope (top 18)) _ _ = true; decide +kernel)) (by decide) (by decide) (fun sc1 Hc1 Cc1 lc1 fc1 => pgn 1 (kx.inn _ sc1 Hc1 Cc1 lc1 fc1).hN) (fun sc1 Hc1 Cc1 lc1 fc1 => ev_if (t1 (rel_is (kx.inn _ sc1 Hc1 Cc1 lc1 fc1).ux) (EV.eb (vv 1)) (EV.eb (ev_non))) (ev_str) (ev_str_ rfl T.b_str (EV.eb (vv 1))))))))
/-! _law_told -/
def bl__law_told (dl0 : Store → R PyData) : DS := dTry xcs (inS ["BadText"]) (dRet (dTup (dCons (dC (.str "told")) (dCons ((fun _ S => dl0 S)) (dNil))))) (fun xc => dRet (dIfE (dAnd (dTest (dXc (some (.bool (inS ["BadText"] xc.cls))))) (dTest (dXc (some (.bool (inS ["BadText"] xc.cls)))))) (dTup (dCons (dC (.str "text")) (dCons (dXc (xc.fs.lookup ("place" : Str))) (dNil)))) (dTup (dCons (dC (.str "other")) (dCons (dC .none) (dNil))))))
theorem lm__law_told : ∀ cdv, LamFn P w K mg base (gW T.tabs SA) "_law_told" "call" ["call", "e"] (defScope (top 19)) T.A__law_told cdv (defBody (top 19)) bl__law_told := by
  intro cdv A stack s H l dl0 hr act
  have kx := kx_nx (g := (gW T.tabs SA).withL l) (P := P) (w := w) (K := K) (mg := mg) (base := base) (Ng := ["call", "e"]) (x := "_law_told") (st := top 19) (gA := T.A__law_told) (cdg := cdv) (A := A) (stack := stack) (s := s) (H := H) sc__law_told hr
  exact ⟨[.lm, .un], svs_one (sv_tryAs (i := 1) (cs := xcs) (sub := inS ["BadText"]) (mh := [.lm, .fz]) (m' := [.lm, .un]) (m2 := [.lm, .ea]) rfl rfl kx.hN rfl rfl ⟨rfl, by decide, Or.inl T.g_ColourError⟩ kx.tk (by decide) T.exm_ColourError rfl (fun W pn xe ty1 py1 => svs_one (sv_ret (ev_tup (ea_cons (ev_str) (ea_cons (act _ _ _ _ _ _ ty1 rfl) (ea_nil)))))) (fun a oe d pn xc E hz hf hE hcs => svs_one (sv_ret (ev_if (et_w (ew_and (et_val (ev_isK 1 (cs := xcs) T.exc T.kit_BadText hz hf hE hcs T.g_BadText T.b_isinstance)) (ew_and1 (et_val (ev_isKb 1 (cs := xcs) T.exc T.kit_ValueError hz hf hE hcs T.b_ValueError rfl T.b_isinstance))))) (ev_tup (ea_cons (ev_str) (ea_cons (ev_fldK 1 (cs := xcs) T.exc T.nof_place hz hf hE hcs) (ea_nil)))) (ev_tup (ea_cons (ev_str) (ea_cons (ev_non) (ea_nil))))))) rfl rfl (by decide) rfl)⟩
/-! _law_due -/
def b__law_due : DS := dSeq (dIfS (dOr (dTest (d2 fLt (d1 fLen (dVar 0)) (dC (.int 2)))) (dOr (dTest (d2 (fIn true) (d2 fIx (dVar 0) (dC (.int 0))) (dC (.str "12345678")))) (dTest (d2 fNe (d2 fIx (dVar 0) (dC (.int 1))) (dC (.str " ")))))) (dRet (dC (.int 0))) (dNx)) (dSeq (dPar [1, 2] (dCons (d1 fInt (d2 fIx (dVar 0) (dC (.int 0)))) (dCons (dC .none) (dNil)))) (dSeq (dIfS (dTest (d2 fEq (dSl fSl (dVar 0) (pSm (dC (.int 2))) (pNo)) (dC (.str "-")))) (dRet (dC .none)) (dNx)) (dSeq (dFor (dIt (fEnum 0) (dM1 fSplit (dSl fSl (dVar 0) (pSm (dC (.int 2))) (pNo)) (dC (.str ",")))) (.tup [3, 4]) (dSeq (dIfS (dOr (dTest (d2 fNe (d1 fLen (dVar 4)) (dC (.int 3)))) (dOr (dTest (d2 (fIn true) (d2 fIx (dVar 4) (dC (.int 0))) (dC (.str "01234567")))) (dOr (dTest (d2 fNe (d2 fIx (dVar 4) (dC (.int 1))) (dC (.str "-")))) (dTest (d2 (fIn true) (d2 fIx (dVar 4) (dC (.int 2))) (dC (.str "01234567"))))))) (dRet (d2 fAdd (dVar 3) (dC (.int 1)))) (dNx)) (dSeq (dSet 5 (dTup (dCons (d1 fInt (d2 fIx (dVar 4) (dC (.int 0)))) (dCons (d1 fInt (d2 fIx (dVar 4) (dC (.int 2)))) (dNil))))) (dSeq (dIfS (dOr (dTest (d2 fGe (d2 fIx (dVar 5) (dC (.int 0))) (d2 fIx (dVar 5) (dC (.int 1))))) (dOr (dTest (d2 fGe (d2 fIx (dVar 5) (dC (.int 1))) (dVar 1))) (dAnd (dTest (d2 (fIsN true) (dVar 2) (dC .none))) (dTest (d2 fLe (dVar 5) (dVar 2)))))) (dRet (d2 fAdd (dVar 3) (dC (.int 1)))) (dNx)) (dSet 2 (dVar 5)))))) (dRet (dC .none)))))
def d__law_due : List PyData → Store → R PyData := dFn false 6 b__law_due
theorem ok__law_due : FnOk P w K mg base (L2.CX P w) 1 T.A__law_due T.D__law_due ["text"] (spD K mg (gW T.tabs SA) [.fz] false d__law_due) := by
  refine fn_den (N := ["text", "n", "last", "at", "tie", "pair"]) (m1 := []) T.F__law_due sc__law_due rfl rfl (by decide) (fun cdv A outer s H E hr => ?_)
  have kx := kx_fn (g := gW T.tabs SA) (P := P) (w := w) (K := K) (mg := mg) (base := base) (N := ["text", "n", "last", "at", "tie", "pair"]) (qual := "_law_due") (st := top 20) (f := T.A__law_due) (cdv := cdv) (A := A) (outer := outer) (s := s) (H := H) (E := E) (k := 0) sc__law_due hr
  exact svs_cons (sv_if (m1 := [.fz, .fz, .fz, .fz, .fz, .fz]) (et_w (ew_or (t1 (rel_lt kx.ux) (EV.eb (ev_len rfl T.b_len (EV.eb (vv 0)))) (EV.eb (ev_int))) (ew_or (t1 (rel_notIn kx.ux) (EV.eb (ev_ix (EV.eb (vv 0)) (EV.eb (ev_int)) (fun _ _ => rfl))) (EV.eb (ev_str))) (ew_or1 (t1 (rel_ne kx.ux) (EV.eb (ev_ix (EV.eb (vv 0)) (EV.eb (ev_int)) (fun _ _ => rfl))) (EV.eb (ev_str))))))) (svs_one (sv_ret (ev_int))) (svs_nil))
      (svs_cons (sv_par2 (i := 1) (j := 2) (eq_val (ev_int_ rfl T.b_int (EV.eb (ev_ix (EV.eb (vv 0)) (EV.eb (ev_int)) (fun _ _ => rfl)))) (eq_val (ev_non) (eq_nil))) (by decide) (fun ta h => ps_par rfl kx.hN rfl rfl (by decide) rfl rfl h rfl))
      (svs_cons (sv_if (m1 := [.fz, .fz, .fz, .fz, .fz, .fz]) (t1 (rel_eq kx.ux) (EV.eb (ev_sl (EV.eb (vv 0)) (ep_sm (ev_int)) (ep_no))) (EV.eb (ev_str))) (svs_one (sv_ret (ev_non))) (svs_nil))
      (svs_cons (sv_for (m := [.fz, .fz, .fz, .fz, .fz, .fz]) (t := (.tup [3, 4])) (passes_of rfl) kx.hc (if_enum rfl T.b_enumerate (EO.ev (eo_split (ev_sl (EV.eb (vv 0)) (ep_sm (ev_int)) (ep_no)) (ev_str)))) (by decide) (pg_tup kx.hc (pgs_cons (pgn 3 kx.hN) (pgs_cons (pgn 4 kx.hN) (pgs_nil)))) (svs_cons (sv_if (m1 := [.fz, .fz, .fz, .fz, .fz, .fz]) (et_w (ew_or (t1 (rel_ne kx.ux) (EV.eb (ev_len rfl T.b_len (EV.eb (vv 4)))) (EV.eb (ev_int))) (ew_or (t1 (rel_notIn kx.ux) (EV.eb (ev_ix (EV.eb (vv 4)) (EV.eb (ev_int)) (fun _ _ => rfl))) (EV.eb (ev_str))) (ew_or (t1 (rel_ne kx.ux) (EV.eb (ev_ix (EV.eb (vv 4)) (EV.eb (ev_int)) (fun _ _ => rfl))) (EV.eb (ev_str))) (ew_or1 (t1 (rel_notIn kx.ux) (EV.eb (ev_ix (EV.eb (vv 4)) (EV.eb (ev_int)) (fun _ _ => rfl))) (EV.eb (ev_str)))))))) (svs_one (sv_ret (ev_add (EV.eb (vv 3)) (EV.eb (ev_int))))) (svs_nil))
      (svs_cons (sv_set (i := 5) (ev_tup (ea_cons (ev_int_ rfl T.b_int (EV.eb (ev_ix (EV.eb (vv 4)) (EV.eb (ev_int)) (fun _ _ => rfl)))) (ea_cons (ev_int_ rfl T.b_int (EV.eb (ev_ix (EV.eb (vv 4)) (EV.eb (ev_int)) (fun _ _ => rfl)))) (ea_nil)))) (by decide) (ps_set kx.hN rfl (Or.inl rfl) we))
      (svs_cons (sv_if (m1 := [.fz, .fz, .fz, .fz, .fz, .fz]) (et_w (ew_or (t1 (rel_ge kx.ux) (EV.eb (ev_ix (EV.eb (vv 5)) (EV.eb (ev_int)) (fun _ _ => rfl))) (EV.eb (ev_ix (EV.eb (vv 5)) (EV.eb (ev_int)) (fun _ _ => rfl)))) (ew_or (t1 (rel_ge kx.ux) (EV.eb (ev_ix (EV.eb (vv 5)) (EV.eb (ev_int)) (fun _ _ => rfl))) (EV.eb (vv 1))) (ew_or1 (et_w (ew_and (t1 (rel_isNot kx.ux) (EV.eb (vv 2)) (EV.eb (ev_non))) (ew_and1 (t1 (rel_le kx.ux) (EV.eb (vv 5)) (EV.eb (vv 2)))))))))) (svs_one (sv_ret (ev_add (EV.eb (vv 3)) (EV.eb (ev_int))))) (svs_nil))
      (svs_one (sv_set (i := 2) (vv 5) (by decide) (ps_set kx.hN rfl (Or.inl rfl) we)))))))
      (svs_one (sv_ret (ev_non))))))
/-! _law_any -/
def b__law_any : DS := dRet (d2 fIx (dVar 1) (dCall d__law_pick (dCons dSt (dCons (d1 fLen (dVar 1)) (dNil)))))
def d__law_any : List PyData → Store → R PyData := dFn false 2 b__law_any
theorem ok__law_any : FnOk P w K mg base (L2.CX P w) 2 T.A__law_any T.D__law_any ["tape", "things"] (spD K mg (gW T.tabs SA) [.st 0, .fz] false d__law_any) := by
  refine fn_den (N := ["tape", "things"]) (m1 := []) T.F__law_any sc__law_any rfl rfl (by decide) (fun cdv A outer s H E hr => ?_)
  have kx := kx_fn (g := gW T.tabs SA) (P := P) (w := w) (K := K) (mg := mg) (base := base) (N := ["tape", "things"]) (qual := "_law_any") (st := top 14) (f := T.A__law_any) (cdv := cdv) (A := A) (outer := outer) (s := s) (H := H) (E := E) (k := 1) sc__law_any hr
  exact svs_one (sv_ret (ev_ix (EV.eb (vv 1)) (EV.eb (ev_call (ok__law_pick T tb _) (kx.hr.mono (by decide)) rfl (at_mk T.F__law_pick T.G__law_pick T.B__law_pick) kx.tk (em_st (k := 0) (i := 0) rfl (pv 0) (em_val (ev_len rfl T.b_len (EV.eb (vv 1))) (em_nil))))) (fun _ _ => rfl)))
/-! read_web -/
def b_read_web : DS := dSeq (dIfS (dOr (dNot (dTest (d1 (fun d => some (.bool (isT "str" d))) (dVar 0)))) (dOr (dTest (d2 (fIn true) (dSl fSl (dVar 0) (pNo) (pSm (dC (.int 1)))) (d1 fTuple (dC (.str "12345678"))))) (dTest (d2 fNe (dSl fSl (dVar 0) (pSm (dC (.int 1))) (pSm (dC (.int 2)))) (dC (.str " ")))))) (dRaise1 "BadText" "place" (dC (.int 0))) (dNx)) (dSeq (dPar [1, 2] (dCons (d1 fInt (d2 fIx (dVar 0) (dC (.int 0)))) (dCons (dLst (dNil)) (dNil)))) (dSeq (dSet 3 (dIfE (dTest (d2 fEq (dSl fSl (dVar 0) (pSm (dC (.int 2))) (pNo)) (dC (.str "-")))) (dLst (dNil)) (dM1 fSplit (dSl fSl (dVar 0) (pSm (dC (.int 2))) (pNo)) (dC (.str ","))))) (dSeq (dFor (dIt2 fEnum2 (dVar 3) (dC (.int 1))) (.tup [4, 5]) (dSeq (dSet 6 (dCall d_tie_in (dCons (dVar 1) (dCons (dVar 5) (dNil))))) (dSeq (dIfS (dOr (dTest (d2 (fIsN false) (dVar 6) (dC .none))) (dAnd (dTest (d2 fGt (d1 fLen (dVar 2)) (dC (.int 0)))) (dTest (d2 fLe (dVar 6) (d2 fIx (dVar 2) (d1 fNeg (dC (.int 1)))))))) (dRaise1 "BadText" "place" (dVar 4)) (dNx)) (dApp 2 (dVar 6))))) (dRet (dTup (dCons (dVar 1) (dCons (d1 fTuple (dVar 2)) (dNil))))))))
def d_read_web : List PyData → Store → R PyData := dFn false 7 b_read_web
theorem ok_read_web : FnOk P w K mg base (L2.CX P w) 3 T.A_read_web T.D_read_web ["text"] (spD K mg (gW T.tabs SA) [.fz] false d_read_web) := by
  refine fn_den (N := ["text", "n", "found", "words", "number", "word", "tie"]) (m1 := []) T.F_read_web sc_read_web rfl rfl (by decide) (fun cdv A outer s H E hr => ?_)
  have kx := kx_fn (g := gW T.tabs SA) (P := P) (w := w) (K := K) (mg := mg) (base := base) (N := ["text", "n", "found", "words", "number", "word", "tie"]) (qual := "read_web") (st := top 9) (f := T.A_read_web) (cdv := cdv) (A := A) (outer := outer) (s := s) (H := H) (E := E) (k := 2) sc_read_web hr
  exact svs_cons (sv_if (m1 := [.fz, .fz, .fz, .fz, .fz, .fz, .fz]) (et_w (ew_or (et_not (et_val (ev_isi isT_str rfl rfl T.b_isinstance rfl T.b_str (vv 0)))) (ew_or (t1 (rel_notIn kx.ux) (EV.eb (ev_sl (EV.eb (vv 0)) (ep_no) (ep_sm (ev_int)))) (EV.eb (ev_tuple kx.hc rfl T.b_tuple (EV.eb (ev_str))))) (ew_or1 (t1 (rel_ne kx.ux) (EV.eb (ev_sl (EV.eb (vv 0)) (ep_sm (ev_int)) (ep_sm (ev_int)))) (EV.eb (ev_str))))))) (svs_one (sv_raise1 (x1_BadText T).x (kx.hr.mono (by decide)) kx.hc kx.tk rfl (ev_int))) (svs_nil))
      (svs_cons (sv_par2 (i := 1) (j := 2) (eq_val (ev_int_ rfl T.b_int (EV.eb (ev_ix (EV.eb (vv 0)) (EV.eb (ev_int)) (fun _ _ => rfl)))) (eq_own (eo_lst (ea_nil)) (eq_nil))) (by decide) (fun ta h => ps_par rfl kx.hN rfl rfl (by decide) rfl rfl h rfl))
      (svs_cons (sv_set (i := 3) (EO.ev (eo_if (t1 (rel_eq kx.ux) (EV.eb (ev_sl (EV.eb (vv 0)) (ep_sm (ev_int)) (ep_no))) (EV.eb (ev_gstr rfl T.c_EMPTY))) (eo_lst (ea_nil)) (eo_split (ev_sl (EV.eb (vv 0)) (ep_sm (ev_int)) (ep_no)) (ev_str)))) (by decide) (ps_set kx.hN rfl (Or.inl rfl) we))
      (svs_cons (sv_for (m := [.fz, .fz, .own, .fz, .fz, .fz, .fz]) (t := (.tup [4, 5])) (passes_of rfl) kx.hc (if_enum2 rfl T.b_enumerate (vv 3) (ev_int)) (by decide) (pg_tup kx.hc (pgs_cons (pgn 4 kx.hN) (pgs_cons (pgn 5 kx.hN) (pgs_nil)))) (svs_cons (sv_set (i := 6) (ev_call (ok_tie_in T tb _) (kx.hr.mono (by decide)) rfl (at_mk T.F_tie_in T.G_tie_in T.B_tie_in) kx.tk (em_val (vv 1) (em_val (vv 5) (em_nil)))) (by decide) (ps_set kx.hN rfl (Or.inl rfl) we))
      (svs_cons (sv_if (m1 := [.fz, .fz, .own, .fz, .fz, .fz, .fz]) (et_w (ew_or (t1 (rel_is kx.ux) (EV.eb (vv 6)) (EV.eb (ev_non))) (ew_or1 (et_w (ew_and (t1 (rel_gt kx.ux) (EV.eb (ev_len rfl T.b_len (vo 2))) (EV.eb (ev_int))) (ew_and1 (t1 (rel_le kx.ux) (EV.eb (vv 6)) (EV.eb (ev_ix (vo 2) (EV.eb (ev_neg (ev_int))) (fun _ _ => rfl)))))))))) (svs_one (sv_raise1 (x1_BadText T).x (kx.hr.mono (by decide)) kx.hc kx.tk rfl (vv 4))) (svs_nil))
      (svs_one (sv_append rfl (vv 6) (pv 2))))))
      (svs_one (sv_ret (ev_tup (ea_cons (vv 1) (ea_cons (ev_tuple kx.hc rfl T.b_tuple (vo 2)) (ea_nil)))))))))
/-! read_paint -/
def b_read_paint : DS := dSeq (dIfS (dOr (dNot (dTest (d1 (fun d => some (.bool (isT "str" d))) (dVar 0)))) (dNot (dTest (dChain fLe fLe (dC (.int 1)) (d1 fLen (dVar 0)) (dC (.int 8)))))) (dRaise1 "BadText" "place" (dC (.int 0))) (dNx)) (dSeq (dSet 1 (dLst (dNil))) (dSeq (dFor (dIt2 fEnum2 (dVar 0) (dC (.int 1))) (.tup [2, 3]) (dSeq (dIfS (dAnd (dTest (d2 fNe (dVar 3) (dC (.str ".")))) (dTest (d2 (fIn true) (dVar 3) (dSl fSl (dC (.str "0123456789")) (pNo) (pSm (dC (.int 8))))))) (dRaise1 "BadText" "place" (dVar 2)) (dNx)) (dApp 1 (dIfE (dTest (d2 fEq (dVar 3) (dC (.str ".")))) (dC .none) (d1 fInt (dVar 3)))))) (dRet (d1 fTuple (dVar 1)))))
def d_read_paint : List PyData → Store → R PyData := dFn false 4 b_read_paint
theorem ok_read_paint : FnOk P w K mg base (L2.CX P w) 3 T.A_read_paint T.D_read_paint ["text"] (spD K mg (gW T.tabs SA) [.fz] false d_read_paint) := by
  refine fn_den (N := ["text", "found", "number", "sign"]) (m1 := []) T.F_read_paint sc_read_paint rfl rfl (by decide) (fun cdv A outer s H E hr => ?_)
  have kx := kx_fn (g := gW T.tabs SA) (P := P) (w := w) (K := K) (mg := mg) (base := base) (N := ["text", "found", "number", "sign"]) (qual := "read_paint") (st := top 10) (f := T.A_read_paint) (cdv := cdv) (A := A) (outer := outer) (s := s) (H := H) (E := E) (k := 2) sc_read_paint hr
  exact svs_cons (sv_if (m1 := [.fz, .fz, .fz, .fz]) (et_w (ew_or (et_not (et_val (ev_isi isT_str rfl rfl T.b_isinstance rfl T.b_str (vv 0)))) (ew_or1 (et_not (t2 (rel_le kx.ux) (rel_le kx.ux) (EV.eb (ev_int)) (EV.eb (ev_len rfl T.b_len (EV.eb (vv 0)))) (EV.eb (ev_gint rfl T.c_MOST_PLACES))))))) (svs_one (sv_raise1 (x1_BadText T).x (kx.hr.mono (by decide)) kx.hc kx.tk rfl (ev_int))) (svs_nil))
      (svs_cons (sv_seto (i := 1) (eo_lst (ea_nil)) (by decide) (ps_set kx.hN rfl (Or.inl rfl) we))
      (svs_cons (sv_for (m := [.fz, .own, .fz, .fz]) (t := (.tup [2, 3])) (passes_of rfl) kx.hc (if_enum2 rfl T.b_enumerate (vv 0) (ev_int)) (by decide) (pg_tup kx.hc (pgs_cons (pgn 2 kx.hN) (pgs_cons (pgn 3 kx.hN) (pgs_nil)))) (svs_cons (sv_if (m1 := [.fz, .own, .fz, .fz]) (et_w (ew_and (t1 (rel_ne kx.ux) (EV.eb (vv 3)) (EV.eb (ev_gstr rfl T.c_BARE))) (ew_and1 (t1 (rel_notIn kx.ux) (EV.eb (vv 3)) (EV.eb (ev_sl (EV.eb (ev_gstr rfl T.c_DIGITS)) (ep_no) (ep_sm (ev_gint rfl T.c_MOST_PLACES)))))))) (svs_one (sv_raise1 (x1_BadText T).x (kx.hr.mono (by decide)) kx.hc kx.tk rfl (vv 2))) (svs_nil))
      (svs_one (sv_append rfl (ev_if (t1 (rel_eq kx.ux) (EV.eb (vv 3)) (EV.eb (ev_gstr rfl T.c_BARE))) (ev_non) (ev_int_ rfl T.b_int (EV.eb (vv 3)))) (pv 1)))))
      (svs_one (sv_ret (ev_tuple kx.hc rfl T.b_tuple (vo 1))))))
/-! _law_web -/
def b__law_web : DS := dSeq (dPar [2, 3, 4] (dCons (d2 fAdd (dC (.int 1)) (dCall d__law_pick (dCons dSt (dCons (dVar 1) (dNil))))) (dCons (dLst (dNil)) (dCons (dCall d__law_any (dCons dSt (dCons (dLst (dCons (dC (.int 2)) (dCons (dC (.int 2)) (dCons (dC (.int 3)) (dCons (dC (.int 9)) (dNil)))))) (dNil)))) (dNil))))) (dSeq (dFor (dRng1 (dVar 2)) (.nm 5) (dExt 3 (dComp (dRng2 (d2 fAdd (dVar 5) (dC (.int 1))) (dVar 2)) (.nm 6) (dTest (d2 fEq (dCall d__law_pick (dCons dSt (dCons (dVar 4) (dNil)))) (dC (.int 0)))) (dTup (dCons (dVar 5) (dCons (dVar 6) (dNil))))))) (dRet (dTup (dCons (dVar 2) (dCons (d1 fTuple (dVar 3)) (dNil))))))
def d__law_web : List PyData → Store → R PyData := dFn false 7 b__law_web
theorem ok__law_web : FnOk P w K mg base (L2.CX P w) 3 T.A__law_web T.D__law_web ["tape", "most"] (spD K mg (gW T.tabs SA) [.st 0, .fz] false d__law_web) := by
  refine fn_den (N := ["tape", "most", "n", "some", "share", "one", "other"]) (m1 := []) T.F__law_web sc__law_web rfl rfl (by decide) (fun cdv A outer s H E hr => ?_)
  have kx := kx_fn (g := gW T.tabs SA) (P := P) (w := w) (K := K) (mg := mg) (base := base) (N := ["tape", "most", "n", "some", "share", "one", "other"]) (qual := "_law_web") (st := top 15) (f := T.A__law_web) (cdv := cdv) (A := A) (outer := outer) (s := s) (H := H) (E := E) (k := 2) sc__law_web hr
  exact svs_cons (sv_parT (is := [2, 3, 4]) (eq_val (ev_add (EV.eb (ev_int)) (EV.eb (ev_call (ok__law_pick T tb _) (kx.hr.mono (by decide)) rfl (at_mk T.F__law_pick T.G__law_pick T.B__law_pick) kx.tk (em_st (k := 0) (i := 0) rfl (pv 0) (em_val (vv 1) (em_nil)))))) (eq_own (eo_lst (ea_nil)) (eq_val (ev_call (ok__law_any T tb _) (kx.hr.mono (by decide)) rfl (at_mk T.F__law_any T.G__law_any T.B__law_any) kx.tk (em_st (k := 0) (i := 0) rfl (pv 0) (em_val (EO.ev (eo_lst (ea_cons (ev_int) (ea_cons (ev_int) (ea_cons (ev_int) (ea_cons (ev_int) (ea_nil))))))) (em_nil)))) (eq_nil)))) (by decide) rfl (by decide) (fun ta h => ps_asg (pe_tup h) (pg_tup kx.hc (pgs_cons (pgn 2 kx.hN) (pgs_cons (pgn 3 kx.hN) (pgs_cons (pgn 4 kx.hN) (pgs_nil)))))))
      (svs_cons (sv_for (m := [.st 0, .fz, .fz, .own, .fz, .fz, .fz]) (t := (.nm 5)) (passes_of rfl) kx.hc (if_rng1 rfl T.b_range (vv 2)) (by decide) (pgn 5 kx.hN) (svs_one (sv_extend rfl (EO.eb (eo_lcIf (t := (.nm 6)) (own := [("other", 6)]) kx.hc kx.hN (IFo.c (if_rng2 rfl T.b_range (ev_add (EV.eb (vv 5)) (EV.eb (ev_int))) (vv 2))) (blk_by (by show blkB ["tape", "most", "n", "some", "share", "one", "other"] (defScope (top 15)) _ _ = true; decide +kernel)) (by decide) (by decide) (fun sc1 Hc1 Cc1 lc1 fc1 => pgn 6 (kx.inn _ sc1 Hc1 Cc1 lc1 fc1).hN) (fun sc1 Hc1 Cc1 lc1 fc1 => t1 (rel_eq (kx.inn _ sc1 Hc1 Cc1 lc1 fc1).ux) (EV.eb (ev_call (ok__law_pick T tb _) ((kx.inn _ sc1 Hc1 Cc1 lc1 fc1).hr.mono (by decide)) rfl (at_mk T.F__law_pick T.G__law_pick T.B__law_pick) (kx.inn _ sc1 Hc1 Cc1 lc1 fc1).tk (em_st (k := 0) (i := 0) rfl (pv 0) (em_val (vv 4) (em_nil))))) (EV.eb (ev_int))) (fun sc1 Hc1 Cc1 lc1 fc1 => ev_tup (ea_cons (vv 5) (ea_cons (vv 6) (ea_nil)))))) (pv 3))))
      (svs_one (sv_ret (ev_tup (ea_cons (vv 2) (ea_cons (ev_tuple kx.hc rfl T.b_tuple (vo 3)) (ea_nil)))))))
/-! _law_paint -/
def b__law_paint : DS := dRet (d1 fTuple (dComp (dRng1 (dVar 1)) (.nm 3) (dYes) (dCall d__law_any (dCons dSt (dCons (dLst (dCons (dC .none) (dCons (dCall d__law_pick (dCons dSt (dCons (dVar 2) (dNil)))) (dNil)))) (dNil))))))
def d__law_paint : List PyData → Store → R PyData := dFn false 4 b__law_paint
theorem ok__law_paint : FnOk P w K mg base (L2.CX P w) 3 T.A__law_paint T.D__law_paint ["tape", "n", "k"] (spD K mg (gW T.tabs SA) [.st 0, .fz, .fz] false d__law_paint) := by
  refine fn_den (N := ["tape", "n", "k", "place"]) (m1 := []) T.F__law_paint sc__law_paint rfl rfl (by decide) (fun cdv A outer s H E hr => ?_)
  have kx := kx_fn (g := gW T.tabs SA) (P := P) (w := w) (K := K) (mg := mg) (base := base) (N := ["tape", "n", "k", "place"]) (qual := "_law_paint") (st := top 17) (f := T.A__law_paint) (cdv := cdv) (A := A) (outer := outer) (s := s) (H := H) (E := E) (k := 2) sc__law_paint hr
  exact svs_one (sv_ret (ev_tuple kx.hc rfl T.b_tuple (EO.eb (eo_lc (t := (.nm 3)) (own := [("place", 3)]) kx.hc kx.hN (IFo.c (if_rng1 rfl T.b_range (vv 1))) (blk_by (by show blkB ["tape", "n", "k", "place"] (defScope (top 17)) _ _ = true; decide +kernel)) (by decide) (by decide) (fun sc1 Hc1 Cc1 lc1 fc1 => pgn 3 (kx.inn _ sc1 Hc1 Cc1 lc1 fc1).hN) (fun sc1 Hc1 Cc1 lc1 fc1 => ev_call (ok__law_any T tb _) ((kx.inn _ sc1 Hc1 Cc1 lc1 fc1).hr.mono (by decide)) rfl (at_mk T.F__law_any T.G__law_any T.B__law_any) (kx.inn _ sc1 Hc1 Cc1 lc1 fc1).tk (em_st (k := 0) (i := 0) rfl (pv 0) (em_val (EO.ev (eo_lst (ea_cons (ev_non) (ea_cons (ev_call (ok__law_pick T tb _) ((kx.inn _ sc1 Hc1 Cc1 lc1 fc1).hr.mono (by decide)) rfl (at_mk T.F__law_pick T.G__law_pick T.B__law_pick) (kx.inn _ sc1 Hc1 Cc1 lc1 fc1).tk (em_st (k := 0) (i := 0) rfl (pv 0) (em_val (vv 2) (em_nil)))) (ea_nil))))) (em_nil))))))))
/-! _law_bent -/
def b__law_bent : DS := dSeq (dPar [2, 3] (dCons (dCall d__law_pick (dCons dSt (dCons (d2 fAdd (d1 fLen (dVar 1)) (dC (.int 1))) (dNil)))) (dCons (dM1 fSplit (dSl fSl (dVar 1) (pSm (dC (.int 2))) (pNo)) (dC (.str ","))) (dNil)))) (dSeq (dSet 4 (dCall d__law_any (dCons dSt (dCons (dLst (dCons (dC (.str "0")) (dCons (dC (.str "1")) (dCons (dC (.str "9")) (dCons (dC (.str "-")) (dCons (dC (.str ",")) (dCons (dC (.str " ")) (dCons (dC (.str "")) (dCons (dC (.str "x")) (dCons (dC (.str "00")) (dCons (dC (.str "--")) (dCons (dC (.str "0-1")) (dNil))))))))))))) (dNil))))) (dSeq (dSet 5 (dCall d__law_pick (dCons dSt (dCons (d1 fLen (dVar 3)) (dNil))))) (dSeq (dSet 6 (d2 fRepL (dLst (dCons (d2 fAdd (d2 fAdd (dSl fSl (dVar 1) (pNo) (pSm (dVar 2))) (dVar 4)) (dSl fSl (dVar 1) (pSm (d2 fAdd (dVar 2) (dC (.int 1)))) (pNo))) (dNil))) (dC (.int 4)))) (dSeq (dSet 6 (d2 fAddL (dVar 6) (dLst (dCons (d2 fAdd (d2 fAdd (dSl fSl (dVar 1) (pNo) (pSm (dVar 2))) (dVar 4)) (dSl fSl (dVar 1) (pSm (dVar 2)) (pNo))) (dCons (dSl fSl (dVar 1) (pSm (dC (.int 2))) (pNo)) (dCons (d2 fAdd (dVar 1) (dC (.str ","))) (dCons (d2 fAdd (dVar 1) (dC (.str " "))) (dCons (d2 fAdd (dC (.str " ")) (dVar 1)) (dCons (dSl fSl (dVar 1) (pNo) (pSm (dC (.int 2)))) (dNil)))))))))) (dSeq (dSet 6 (d2 fAddL (dVar 6) (dLst (dCons (d2 fAdd (dSl fSl (dVar 1) (pNo) (pSm (dC (.int 2)))) (dM1 fJoin (dC (.str ",")) (d1 fRevA (dVar 3)))) (dCons (d2 fAdd (dC (.str "9")) (dSl fSl (dVar 1) (pSm (dC (.int 1))) (pNo))) (dCons (d2 fAdd (dC (.str "0")) (dSl fSl (dVar 1) (pSm (dC (.int 1))) (pNo))) (dCons (dC (.str "1 0-1")) (dNil)))))))) (dSeq (dPar [7, 8] (dCons (dSl fSl (dVar 3) (pNo) (pSm (dVar 5))) (dCons (dLst (dCons (d1 fRevA (d2 fIx (dVar 3) (dVar 5))) (dNil))) (dNil)))) (dSeq (dApp 6 (d2 fAdd (dSl fSl (dVar 1) (pNo) (pSm (dC (.int 2)))) (dM1 fJoin (dC (.str ",")) (d2 fAdd (d2 fAdd (dVar 7) (dSl fSl (dSl fSl (dVar 3) (pSm (dVar 5)) (pNo)) (pNo) (pSm (dC (.int 1))))) (dSl fSl (dVar 3) (pSm (dVar 5)) (pNo)))))) (dSeq (dApp 6 (d2 fAdd (dSl fSl (dVar 1) (pNo) (pSm (dC (.int 2)))) (dM1 fJoin (dC (.str ",")) (d2 fAdd (d2 fAdd (dVar 7) (dVar 8)) (dSl fSl (dVar 3) (pSm (d2 fAdd (dVar 5) (dC (.int 1)))) (pNo)))))) (dRet (dCall d__law_any (dCons dSt (dCons (d2 fAddL (dVar 6) (dLst (dCons (dSl fSl (dVar 1) (pNo) (pSm (dC (.int 1)))) (dCons (d2 fAdd (dSl fSl (dVar 1) (pNo) (pSm (dC (.int 1)))) (dSl fSl (dVar 1) (pSm (dC (.int 2))) (pNo))) (dCons (dC (.str "")) (dCons (d2 fAdd (dVar 1) (dC (.str "\n"))) (dCons (d2 fAdd (dSl fSl (dVar 1) (pNo) (pSm (dC (.int 2)))) (dC (.str "-,0-1"))) (dCons (dVar 1) (dNil))))))))) (dNil)))))))))))))
def d__law_bent : List PyData → Store → R PyData := dFn false 9 b__law_bent
theorem ok__law_bent : FnOk P w K mg base (L2.CX P w) 3 T.A__law_bent T.D__law_bent ["tape", "text"] (spD K mg (gW T.tabs SA) [.st 0, .fz] false d__law_bent) := by
  refine fn_den (N := ["tape", "text", "at", "ties", "odd", "spot", "some", "ahead", "back"]) (m1 := []) T.F__law_bent sc__law_bent rfl rfl (by decide) (fun cdv A outer s H E hr => ?_)
  have kx := kx_fn (g := gW T.tabs SA) (P := P) (w := w) (K := K) (mg := mg) (base := base) (N := ["tape", "text", "at", "ties", "odd", "spot", "some", "ahead", "back"]) (qual := "_law_bent") (st := top 21) (f := T.A__law_bent) (cdv := cdv) (A := A) (outer := outer) (s := s) (H := H) (E := E) (k := 2) sc__law_bent hr
  exact svs_cons (sv_par2 (i := 2) (j := 3) (eq_val (ev_call (ok__law_pick T tb _) (kx.hr.mono (by decide)) rfl (at_mk T.F__law_pick T.G__law_pick T.B__law_pick) kx.tk (em_st (k := 0) (i := 0) rfl (pv 0) (em_val (ev_add (EV.eb (ev_len rfl T.b_len (EV.eb (vv 1)))) (EV.eb (ev_int))) (em_nil)))) (eq_val (EO.ev (eo_split (ev_sl (EV.eb (vv 1)) (ep_sm (ev_int)) (ep_no)) (ev_str))) (eq_nil))) (by decide) (fun ta h => ps_par rfl kx.hN rfl rfl (by decide) rfl rfl h rfl))
      (svs_cons (sv_set (i := 4) (ev_call (ok__law_any T tb _) (kx.hr.mono (by decide)) rfl (at_mk T.F__law_any T.G__law_any T.B__law_any) kx.tk (em_st (k := 0) (i := 0) rfl (pv 0) (em_val (EO.ev (eo_lst (ea_cons (ev_str) (ea_cons (ev_str) (ea_cons (ev_str) (ea_cons (ev_str) (ea_cons (ev_str) (ea_cons (ev_str) (ea_cons (ev_str) (ea_cons (ev_str) (ea_cons (ev_str) (ea_cons (ev_str) (ea_cons (ev_str) (ea_nil)))))))))))))) (em_nil)))) (by decide) (ps_set kx.hN rfl (Or.inl rfl) we))
      (svs_cons (sv_set (i := 5) (ev_call (ok__law_pick T tb _) (kx.hr.mono (by decide)) rfl (at_mk T.F__law_pick T.G__law_pick T.B__law_pick) kx.tk (em_st (k := 0) (i := 0) rfl (pv 0) (em_val (ev_len rfl T.b_len (EV.eb (vv 3))) (em_nil)))) (by decide) (ps_set kx.hN rfl (Or.inl rfl) we))
      (svs_cons (sv_seto (i := 6) (eo_mul (EO.eb (eo_lst (ea_cons (ev_add (EV.eb (ev_add (EV.eb (ev_sl (EV.eb (vv 1)) (ep_no) (ep_sm (vv 2)))) (EV.eb (vv 4)))) (EV.eb (ev_sl (EV.eb (vv 1)) (ep_sm (ev_add (EV.eb (vv 2)) (EV.eb (ev_int)))) (ep_no)))) (ea_nil)))) (EV.eb (ev_int))) (by decide) (ps_set kx.hN rfl (Or.inl rfl) we))
      (svs_cons (sv_seto (i := 6) (eo_add (vo 6) (EO.eb (eo_lst (ea_cons (ev_add (EV.eb (ev_add (EV.eb (ev_sl (EV.eb (vv 1)) (ep_no) (ep_sm (vv 2)))) (EV.eb (vv 4)))) (EV.eb (ev_sl (EV.eb (vv 1)) (ep_sm (vv 2)) (ep_no)))) (ea_cons (ev_sl (EV.eb (vv 1)) (ep_sm (ev_int)) (ep_no)) (ea_cons (ev_add (EV.eb (vv 1)) (EV.eb (ev_str))) (ea_cons (ev_add (EV.eb (vv 1)) (EV.eb (ev_str))) (ea_cons (ev_add (EV.eb (ev_str)) (EV.eb (vv 1))) (ea_cons (ev_sl (EV.eb (vv 1)) (ep_no) (ep_sm (ev_int))) (ea_nil)))))))))) (by decide) (ps_set kx.hN rfl (Or.inl rfl) we))
      (svs_cons (sv_seto (i := 6) (eo_add (vo 6) (EO.eb (eo_lst (ea_cons (ev_add (EV.eb (ev_sl (EV.eb (vv 1)) (ep_no) (ep_sm (ev_int)))) (EV.eb (ev_join (ev_str) (EV.eb (ev_revA (vv 3)))))) (ea_cons (ev_add (EV.eb (ev_str)) (EV.eb (ev_sl (EV.eb (vv 1)) (ep_sm (ev_int)) (ep_no)))) (ea_cons (ev_add (EV.eb (ev_str)) (EV.eb (ev_sl (EV.eb (vv 1)) (ep_sm (ev_int)) (ep_no)))) (ea_cons (ev_str) (ea_nil)))))))) (by decide) (ps_set kx.hN rfl (Or.inl rfl) we))
      (svs_cons (sv_par2 (i := 7) (j := 8) (eq_val (ev_sl (EV.eb (vv 3)) (ep_no) (ep_sm (vv 5))) (eq_val (EO.ev (eo_lst (ea_cons (ev_revA (ev_ix (EV.eb (vv 3)) (EV.eb (vv 5)) (fun _ _ => rfl))) (ea_nil)))) (eq_nil))) (by decide) (fun ta h => ps_par rfl kx.hN rfl rfl (by decide) rfl rfl h rfl))
      (svs_cons (sv_append rfl (ev_add (EV.eb (ev_sl (EV.eb (vv 1)) (ep_no) (ep_sm (ev_int)))) (EV.eb (ev_join (ev_str) (EV.eb (ev_add (EV.eb (ev_add (EV.eb (vv 7)) (EV.eb (ev_sl (EV.eb (ev_sl (EV.eb (vv 3)) (ep_sm (vv 5)) (ep_no))) (ep_no) (ep_sm (ev_int)))))) (EV.eb (ev_sl (EV.eb (vv 3)) (ep_sm (vv 5)) (ep_no)))))))) (pv 6))
      (svs_cons (sv_append rfl (ev_add (EV.eb (ev_sl (EV.eb (vv 1)) (ep_no) (ep_sm (ev_int)))) (EV.eb (ev_join (ev_str) (EV.eb (ev_add (EV.eb (ev_add (EV.eb (vv 7)) (EV.eb (vv 8)))) (EV.eb (ev_sl (EV.eb (vv 3)) (ep_sm (ev_add (EV.eb (vv 5)) (EV.eb (ev_int)))) (ep_no)))))))) (pv 6))
      (svs_one (sv_ret (ev_call (ok__law_any T tb _) (kx.hr.mono (by decide)) rfl (at_mk T.F__law_any T.G__law_any T.B__law_any) kx.tk (em_st (k := 0) (i := 0) rfl (pv 0) (em_val (EO.ev (eo_add (vo 6) (EO.eb (eo_lst (ea_cons (ev_sl (EV.eb (vv 1)) (ep_no) (ep_sm (ev_int))) (ea_cons (ev_add (EV.eb (ev_sl (EV.eb (vv 1)) (ep_no) (ep_sm (ev_int)))) (EV.eb (ev_sl (EV.eb (vv 1)) (ep_sm (ev_int)) (ep_no)))) (ea_cons (ev_str) (ea_cons (ev_add (EV.eb (vv 1)) (EV.eb (ev_str))) (ea_cons (ev_add (EV.eb (ev_sl (EV.eb (vv 1)) (ep_no) (ep_sm (ev_int)))) (EV.eb (ev_str))) (ea_cons (vv 1) (ea_nil))))))))))) (em_nil))))))))))))))
/-! _law_is_web_right -/
def b__law_is_web_right : DS := dSeq (dFor (dRng1 (dC (.int 8))) (.nm 2) (dSeq (dSet 3 (dCall d__law_bent (dCons dSt (dCons (dCall d__law_text (dCons (dVar 1) (dNil))) (dNil))))) (dSeq (dPar [4, 5] (dCons (dCall d__law_due (dCons (dVar 3) (dNil))) (dCons (dLam 2 bl__law_told (dCall d_read_web (dCons (dVar 3) (dNil)))) (dNil)))) (dSeq (dIfS (dOr (dAnd (dTest (d2 (fIsN true) (dVar 4) (dC .none))) (dTest (d2 fNe (dVar 5) (dTup (dCons (dC (.str "text")) (dCons (dVar 4) (dNil))))))) (dAnd (dTest (d2 (fIsN false) (dVar 4) (dC .none))) (dTest (d2 fNe (d2 fIx (dVar 5) (dC (.int 0))) (dC (.str "told")))))) (dRet (dC (.bool false))) (dNx)) (dIfS (dAnd (dTest (d2 (fIsN false) (dVar 4) (dC .none))) (dTest (d2 fNe (dCall d__law_text (dCons (d2 fIx (dVar 5) (dC (.int 1))) (dNil))) (dVar 3)))) (dRet (dC (.bool false))) (dNx)))))) (dSeq (dSet 6 (dCall d__law_any (dCons dSt (dCons (dLst (dCons (dC .none) (dCons (dC (.int 0)) (dCons (dLst (dCons (dC (.str "1 -")) (dNil))) (dCons (dTup (dCons (dC (.str "1 -")) (dNil))) (dCons (dC (.dict [])) (dCons (dC (.bool true)) (dNil)))))))) (dNil))))) (dRet (d2 fEq (dLam 2 bl__law_told (dCall d_read_web (dCons (dVar 6) (dNil)))) (dTup (dCons (dC (.str "text")) (dCons (dC (.int 0)) (dNil)))))))
def d__law_is_web_right : List PyData → Store → R PyData := dFn false 7 b__law_is_web_right
theorem ok__law_is_web_right : FnOk P w K mg base (L2.CX P w) 7 T.A__law_is_web_right T.D__law_is_web_right ["tape", "web"] (spD K mg (gW T.tabs SA) [.st 0, .fz] false d__law_is_web_right) := by
  refine fn_denC (N := ["tape", "web", "turn", "text", "due", "told", "none"]) (m1 := []) T.F__law_is_web_right sc__law_is_web_right rfl rfl (by decide) (fun A outer s H E hr => ?_)
  have kx := kx_fn (g := gW T.tabs SA) (P := P) (w := w) (K := K) (mg := mg) (base := base) (N := ["tape", "web", "turn", "text", "due", "told", "none"]) (qual := "_law_is_web_right") (st := top 22) (f := T.A__law_is_web_right) (cdv := .ref T.cA__law_is_web_right) (A := A) (outer := outer) (s := s) (H := H) (E := E) (k := 6) sc__law_is_web_right hr
  exact svs_cons (sv_for (m := [.st 0, .fz, .fz, .fz, .fz, .fz, .fz]) (t := (.nm 2)) (passes_of rfl) kx.hc (if_rng1 rfl T.b_range (ev_int)) (by decide) (pgn 2 kx.hN) (svs_cons (sv_set (i := 3) (ev_call (ok__law_bent T tb _) (kx.hr.mono (by decide)) rfl (at_mk T.F__law_bent T.G__law_bent T.B__law_bent) kx.tk (em_st (k := 0) (i := 0) rfl (pv 0) (em_val (ev_call (ok__law_text T tb _) (kx.hr.mono (by decide)) rfl (at_mk T.F__law_text T.G__law_text T.B__law_text) kx.tk (em_val (vv 1) (em_nil))) (em_nil)))) (by decide) (ps_set kx.hN rfl (Or.inr rfl) we))
      (svs_cons (sv_par2 (i := 4) (j := 5) (eq_val (ev_call (ok__law_due T tb _) (kx.hr.mono (by decide)) rfl (at_mk T.F__law_due T.G__law_due T.B__law_due) kx.tk (em_val (vv 3) (em_nil))) (eq_val (ev_lamF (k := 3) (m' := [.st 0, .fz, .fz, .fz, .fz, .fz, .fz]) T.F__law_told T.B__law_told T.G__law_told sc__law_told rfl (by first | exact Or.inl rfl | exact Or.inr (Or.inl rfl)) (lm__law_told T tb _) (tb (T.cA__law_is_web_right, T.P__law_is_web_right) (List.Mem.head _)) (List.Mem.head _) T.nd rfl rfl rfl rfl rfl (kx.hr.mono (by decide)) (lamS_by (by show lamSB (defScope (top 22)) _ = true; decide +kernel)) (fun Al1 ol1 sl1 Hl1 El1 fl1 cl1 hrl1 => ev_call (ok_read_web T tb _) ((kx_lam kx hrl1).hr.mono (by decide)) rfl (at_mk T.F_read_web T.G_read_web T.B_read_web) (kx_lam kx hrl1).tk (em_val (vv 3) (em_nil)))) (eq_nil))) (by decide) (fun ta h => ps_par rfl kx.hN rfl rfl (by decide) rfl rfl h rfl))
      (svs_cons (sv_if (m1 := [.st 0, .fz, .fz, .fz, .fz, .fz, .fz]) (et_w (ew_or (et_w (ew_and (t1 (rel_isNot kx.ux) (EV.eb (vv 4)) (EV.eb (ev_non))) (ew_and1 (t1 (rel_ne kx.ux) (EV.eb (vv 5)) (EV.eb (ev_tup (ea_cons (ev_str) (ea_cons (vv 4) (ea_nil))))))))) (ew_or1 (et_w (ew_and (t1 (rel_is kx.ux) (EV.eb (vv 4)) (EV.eb (ev_non))) (ew_and1 (t1 (rel_ne kx.ux) (EV.eb (ev_ix (EV.eb (vv 5)) (EV.eb (ev_int)) (fun _ _ => rfl))) (EV.eb (ev_str))))))))) (svs_one (sv_ret (ev_bl))) (svs_nil))
      (svs_one (sv_if (m1 := [.st 0, .fz, .fz, .fz, .fz, .fz, .fz]) (et_w (ew_and (t1 (rel_is kx.ux) (EV.eb (vv 4)) (EV.eb (ev_non))) (ew_and1 (t1 (rel_ne kx.ux) (EV.eb (ev_call (ok__law_text T tb _) (kx.hr.mono (by decide)) rfl (at_mk T.F__law_text T.G__law_text T.B__law_text) kx.tk (em_val (ev_ix (EV.eb (vv 5)) (EV.eb (ev_int)) (fun _ _ => rfl)) (em_nil)))) (EV.eb (vv 3)))))) (svs_one (sv_ret (ev_bl))) (svs_nil)))))))
      (svs_cons (sv_set (i := 6) (ev_call (ok__law_any T tb _) (kx.hr.mono (by decide)) rfl (at_mk T.F__law_any T.G__law_any T.B__law_any) kx.tk (em_st (k := 0) (i := 0) rfl (pv 0) (em_val (EO.ev (eo_lst (ea_cons (ev_non) (ea_cons (ev_int) (ea_cons (EO.ev (eo_lst (ea_cons (ev_str) (ea_nil)))) (ea_cons (ev_tup (ea_cons (ev_str) (ea_nil))) (ea_cons (EO.ev (eo_dnew)) (ea_cons (ev_bl) (ea_nil))))))))) (em_nil)))) (by decide) (ps_set kx.hN rfl (Or.inr rfl) we))
      (svs_one (sv_ret (c1 (rel_eq kx.ux) (EV.eb (ev_lamF (k := 3) (m' := [.st 0, .fz, .fz, .fz, .fz, .fz, .fz]) T.F__law_told T.B__law_told T.G__law_told sc__law_told rfl (by first | exact Or.inl rfl | exact Or.inr (Or.inl rfl)) (lm__law_told T tb _) (tb (T.cA__law_is_web_right, T.P__law_is_web_right) (List.Mem.head _)) (List.Mem.head _) T.nd rfl rfl rfl rfl rfl (kx.hr.mono (by decide)) (lamS_by (by show lamSB (defScope (top 22)) _ = true; decide +kernel)) (fun Al2 ol2 sl2 Hl2 El2 fl2 cl2 hrl2 => ev_call (ok_read_web T tb _) ((kx_lam kx hrl2).hr.mono (by decide)) rfl (at_mk T.F_read_web T.G_read_web T.B_read_web) (kx_lam kx hrl2).tk (em_val (vv 6) (em_nil))))) (EV.eb (ev_tup (ea_cons (ev_str) (ea_cons (ev_int) (ea_nil)))))))))
/-! _law_is_paint_right -/
def b__law_is_paint_right : DS := dSeq (dSet 1 (dCall d__law_paint_text (dCons (dCall d__law_paint (dCons dSt (dCons (d2 fAdd (dC (.int 1)) (dCall d__law_pick (dCons dSt (dCons (dC (.int 8)) (dNil))))) (dCons (dC (.int 8)) (dNil))))) (dNil)))) (dSeq (dSet 2 (dCall d__law_pick (dCons dSt (dCons (d1 fLen (dVar 1)) (dNil))))) (dSeq (dSet 3 (dCall d__law_any (dCons dSt (dCons (dLst (dCons (dC (.str "8")) (dCons (dC (.str "9")) (dCons (dC (.str "x")) (dCons (dC (.str " ")) (dCons (dC (.str "-")) (dCons (dC (.str ",")) (dCons (dC (.str "\n")) (dNil))))))))) (dNil))))) (dSeq (dSet 4 (dLst (dCons (dTup (dCons (d2 fAdd (d2 fAdd (dSl fSl (dVar 1) (pNo) (pSm (dVar 2))) (dVar 3)) (dSl fSl (dVar 1) (pSm (d2 fAdd (dVar 2) (dC (.int 1)))) (pNo))) (dCons (d2 fAdd (dVar 2) (dC (.int 1))) (dNil)))) (dCons (dTup (dCons (d2 fAdd (dSl fSl (dVar 1) (pNo) (pSm (dVar 2))) (d2 fTimes (dVar 3) (d2 (fI (fun _ _ => true) fun i j => i - j) (d1 fLen (dVar 1)) (dVar 2)))) (dCons (d2 fAdd (dVar 2) (dC (.int 1))) (dNil)))) (dNil))))) (dSeq (dFor (dIt seqD (d2 fAddL (dVar 4) (dLst (dCons (dTup (dCons (dC (.str "")) (dCons (dC (.int 0)) (dNil)))) (dCons (dTup (dCons (d2 fTimes (dC (.str "0")) (dC (.int 9))) (dCons (dC (.int 0)) (dNil)))) (dCons (dTup (dCons (d2 fTimes (dC (.str "x")) (dC (.int 9))) (dCons (dC (.int 0)) (dNil)))) (dNil))))))) (.tup [5, 6]) (dIfS (dTest (d2 fNe (dLam 2 bl__law_told (dCall d_read_paint (dCons (dVar 5) (dNil)))) (dTup (dCons (dC (.str "text")) (dCons (dVar 6) (dNil)))))) (dRet (dC (.bool false))) (dNx))) (dSeq (dSet 7 (dCall d__law_any (dCons dSt (dCons (dLst (dCons (dC .none) (dCons (dC (.int 0)) (dCons (dLst (dCons (dC (.str "0")) (dNil))) (dCons (dTup (dCons (dC (.str "0")) (dNil))) (dCons (dC (.dict [])) (dCons (dC (.bool true)) (dNil)))))))) (dNil))))) (dRet (d2 fEq (dLam 2 bl__law_told (dCall d_read_paint (dCons (dVar 7) (dNil)))) (dTup (dCons (dC (.str "text")) (dCons (dC (.int 0)) (dNil)))))))))))
def d__law_is_paint_right : List PyData → Store → R PyData := dFn false 8 b__law_is_paint_right
theorem ok__law_is_paint_right : FnOk P w K mg base (L2.CX P w) 7 T.A__law_is_paint_right T.D__law_is_paint_right ["tape"] (spD K mg (gW T.tabs SA) [.st 0] false d__law_is_paint_right) := by
  refine fn_denC (N := ["tape", "text", "at", "odd", "cases", "some", "due", "none"]) (m1 := []) T.F__law_is_paint_right sc__law_is_paint_right rfl rfl (by decide) (fun A outer s H E hr => ?_)
  have kx := kx_fn (g := gW T.tabs SA) (P := P) (w := w) (K := K) (mg := mg) (base := base) (N := ["tape", "text", "at", "odd", "cases", "some", "due", "none"]) (qual := "_law_is_paint_right") (st := top 23) (f := T.A__law_is_paint_right) (cdv := .ref T.cA__law_is_paint_right) (A := A) (outer := outer) (s := s) (H := H) (E := E) (k := 6) sc__law_is_paint_right hr
  exact svs_cons (sv_set (i := 1) (ev_call (ok__law_paint_text T tb _) (kx.hr.mono (by decide)) rfl (at_mk T.F__law_paint_text T.G__law_paint_text T.B__law_paint_text) kx.tk (em_val (ev_call (ok__law_paint T tb _) (kx.hr.mono (by decide)) rfl (at_mk T.F__law_paint T.G__law_paint T.B__law_paint) kx.tk (em_st (k := 0) (i := 0) rfl (pv 0) (em_val (ev_add (EV.eb (ev_int)) (EV.eb (ev_call (ok__law_pick T tb _) (kx.hr.mono (by decide)) rfl (at_mk T.F__law_pick T.G__law_pick T.B__law_pick) kx.tk (em_st (k := 0) (i := 0) rfl (pv 0) (em_val (ev_int) (em_nil)))))) (em_val (ev_int) (em_nil))))) (em_nil))) (by decide) (ps_set kx.hN rfl (Or.inl rfl) we))
      (svs_cons (sv_set (i := 2) (ev_call (ok__law_pick T tb _) (kx.hr.mono (by decide)) rfl (at_mk T.F__law_pick T.G__law_pick T.B__law_pick) kx.tk (em_st (k := 0) (i := 0) rfl (pv 0) (em_val (ev_len rfl T.b_len (EV.eb (vv 1))) (em_nil)))) (by decide) (ps_set kx.hN rfl (Or.inl rfl) we))
      (svs_cons (sv_set (i := 3) (ev_call (ok__law_any T tb _) (kx.hr.mono (by decide)) rfl (at_mk T.F__law_any T.G__law_any T.B__law_any) kx.tk (em_st (k := 0) (i := 0) rfl (pv 0) (em_val (EO.ev (eo_lst (ea_cons (ev_str) (ea_cons (ev_str) (ea_cons (ev_str) (ea_cons (ev_str) (ea_cons (ev_str) (ea_cons (ev_str) (ea_cons (ev_str) (ea_nil)))))))))) (em_nil)))) (by decide) (ps_set kx.hN rfl (Or.inl rfl) we))
      (svs_cons (sv_set (i := 4) (EO.ev (eo_lst (ea_cons (ev_tup (ea_cons (ev_add (EV.eb (ev_add (EV.eb (ev_sl (EV.eb (vv 1)) (ep_no) (ep_sm (vv 2)))) (EV.eb (vv 3)))) (EV.eb (ev_sl (EV.eb (vv 1)) (ep_sm (ev_add (EV.eb (vv 2)) (EV.eb (ev_int)))) (ep_no)))) (ea_cons (ev_add (EV.eb (vv 2)) (EV.eb (ev_int))) (ea_nil)))) (ea_cons (ev_tup (ea_cons (ev_add (EV.eb (ev_sl (EV.eb (vv 1)) (ep_no) (ep_sm (vv 2)))) (EV.eb (ev_times (EV.eb (vv 3)) (EV.eb (ev_sub (EV.eb (ev_len rfl T.b_len (EV.eb (vv 1)))) (EV.eb (vv 2))))))) (ea_cons (ev_add (EV.eb (vv 2)) (EV.eb (ev_int))) (ea_nil)))) (ea_nil))))) (by decide) (ps_set kx.hN rfl (Or.inl rfl) we))
      (svs_cons (sv_for (m := [.st 0, .fz, .fz, .fz, .fz, .fz, .fz, .fz]) (t := (.tup [5, 6])) (passes_of rfl) kx.hc (if_any (EO.ev (eo_add (EV.eb (vv 4)) (EO.eb (eo_lst (ea_cons (ev_tup (ea_cons (ev_str) (ea_cons (ev_int) (ea_nil)))) (ea_cons (ev_tup (ea_cons (ev_times (EV.eb (ev_str)) (EV.eb (ev_int))) (ea_cons (ev_int) (ea_nil)))) (ea_cons (ev_tup (ea_cons (ev_times (EV.eb (ev_str)) (EV.eb (ev_int))) (ea_cons (ev_int) (ea_nil)))) (ea_nil))))))))) (by decide) (pg_tup kx.hc (pgs_cons (pgn 5 kx.hN) (pgs_cons (pgn 6 kx.hN) (pgs_nil)))) (svs_one (sv_if (m1 := [.st 0, .fz, .fz, .fz, .fz, .fz, .fz, .fz]) (t1 (rel_ne kx.ux) (EV.eb (ev_lamF (k := 3) (m' := [.st 0, .fz, .fz, .fz, .fz, .fz, .fz, .fz]) T.F__law_told T.B__law_told T.G__law_told sc__law_told rfl (by first | exact Or.inl rfl | exact Or.inr (Or.inl rfl)) (lm__law_told T tb _) (tb (T.cA__law_is_paint_right, T.P__law_is_paint_right) (List.Mem.tail _ (List.Mem.head _))) (List.Mem.tail _ (List.Mem.head _)) T.nd rfl rfl rfl rfl rfl (kx.hr.mono (by decide)) (lamS_by (by show lamSB (defScope (top 23)) _ = true; decide +kernel)) (fun Al1 ol1 sl1 Hl1 El1 fl1 cl1 hrl1 => ev_call (ok_read_paint T tb _) ((kx_lam kx hrl1).hr.mono (by decide)) rfl (at_mk T.F_read_paint T.G_read_paint T.B_read_paint) (kx_lam kx hrl1).tk (em_val (vv 5) (em_nil))))) (EV.eb (ev_tup (ea_cons (ev_str) (ea_cons (vv 6) (ea_nil)))))) (svs_one (sv_ret (ev_bl))) (svs_nil))))
      (svs_cons (sv_set (i := 7) (ev_call (ok__law_any T tb _) (kx.hr.mono (by decide)) rfl (at_mk T.F__law_any T.G__law_any T.B__law_any) kx.tk (em_st (k := 0) (i := 0) rfl (pv 0) (em_val (EO.ev (eo_lst (ea_cons (ev_non) (ea_cons (ev_int) (ea_cons (EO.ev (eo_lst (ea_cons (ev_str) (ea_nil)))) (ea_cons (ev_tup (ea_cons (ev_str) (ea_nil))) (ea_cons (EO.ev (eo_dnew)) (ea_cons (ev_bl) (ea_nil))))))))) (em_nil)))) (by decide) (ps_set kx.hN rfl (Or.inr rfl) we))
      (svs_one (sv_ret (c1 (rel_eq kx.ux) (EV.eb (ev_lamF (k := 3) (m' := [.st 0, .fz, .fz, .fz, .fz, .fz, .fz, .fz]) T.F__law_told T.B__law_told T.G__law_told sc__law_told rfl (by first | exact Or.inl rfl | exact Or.inr (Or.inl rfl)) (lm__law_told T tb _) (tb (T.cA__law_is_paint_right, T.P__law_is_paint_right) (List.Mem.tail _ (List.Mem.head _))) (List.Mem.tail _ (List.Mem.head _)) T.nd rfl rfl rfl rfl rfl (kx.hr.mono (by decide)) (lamS_by (by show lamSB (defScope (top 23)) _ = true; decide +kernel)) (fun Al2 ol2 sl2 Hl2 El2 fl2 cl2 hrl2 => ev_call (ok_read_paint T tb _) ((kx_lam kx hrl2).hr.mono (by decide)) rfl (at_mk T.F_read_paint T.G_read_paint T.B_read_paint) (kx_lam kx hrl2).tk (em_val (vv 7) (em_nil))))) (EV.eb (ev_tup (ea_cons (ev_str) (ea_cons (ev_int) (ea_nil)))))))))))))
/-! law -/
def dt_law : DE := dCall d__law_tape (dCons (dVar 0) (dNil))
def dr_law : DS := dSeq (dSet 2 (dLst (dCons (dTup (dCons (dC (.str "3 0-1,0-1")) (dCons (dC (.int 2)) (dNil)))) (dCons (dTup (dCons (dC (.str "3 1-0")) (dCons (dC (.int 1)) (dNil)))) (dCons (dTup (dCons (dC (.str "2 0-2")) (dCons (dC (.int 1)) (dNil)))) (dCons (dTup (dCons (dC (.str "3 ")) (dCons (dC (.int 1)) (dNil)))) (dCons (dTup (dCons (dC (.str "3")) (dCons (dC (.int 0)) (dNil)))) (dCons (dTup (dCons (dC (.str "9 -")) (dCons (dC (.int 0)) (dNil)))) (dCons (dTup (dCons (dC (.str "3 0-1,")) (dCons (dC (.int 2)) (dNil)))) (dNil)))))))))) (dSeq (dFor (dIt seqD (d2 fAddL (dVar 2) (dLst (dCons (dTup (dCons (dC (.str "3 -,0-1")) (dCons (dC (.int 1)) (dNil)))) (dCons (dTup (dCons (dC (.str "03 -")) (dCons (dC (.int 0)) (dNil)))) (dNil)))))) (.tup [3, 4]) (dIfS (dTest (d2 fNe (dLam 2 bl__law_told (dCall d_read_web (dCons (dVar 3) (dNil)))) (dTup (dCons (dC (.str "text")) (dCons (dVar 4) (dNil)))))) (dRet (dC (.bool false))) (dNx))) (dSeq (dFor (dRng1 (dC (.int 4))) (.nm 5) (dIfS (dOr (dNot (dTest (dCall d__law_is_web_right (dCons dSt (dCons (dCall d__law_web (dCons dSt (dCons (dC (.int 8)) (dNil)))) (dNil)))))) (dNot (dTest (dCall d__law_is_paint_right (dCons dSt (dNil)))))) (dRet (dC (.bool false))) (dNx))) (dRet (dC (.bool true)))))
theorem ok_law (pure : ∀ ns : List Int, ns.length ≤ 63 → (∀ z ∈ ns, Builtin.Int.intBits z ≤ 1048576) → ∃ S', (dAdopt 1 dt_law dr_law (env0 6 [.list (ns.map .int)]) []).fin false = .ok (.bool true) S') :
    FnOk P w K mg base (L2.CX P w) 8 T.A_law T.D_law ["script"] (spLaw K (gW T.tabs []) 63) := by
  have hz : 63 ≤ sizeLine := by rw [sizeLine_eq]; decide
  refine law_ok (g := gW T.tabs []) (n := 63) (k := 7) (st := top 24) (f := T.A_law) (fd := T.D_law) (cA := T.cA_law) (N := ["script", "tape", "cases", "text", "due", "turn"]) (i := 1) (m2 := []) (a := dt_law) (dr := dr_law) rfl rfl T.ndT hz T.F_law sc_law (by decide) (by decide) rfl (fun A outer s H E hr => ?_) pure
  have kx := kx_fn (g := gW T.tabs []) (P := P) (w := w) (K := K) (mg := mg) (base := base) (N := ["script", "tape", "cases", "text", "due", "turn"]) (qual := "law") (st := top 24) (f := T.A_law) (cdv := .ref T.cA_law) (A := A) (outer := outer) (s := s) (H := H) (E := E) (k := 7) sc_law hr
  refine ⟨eo_call (ok__law_tape T tb _) (kx.hr.mono (by decide)) rfl (at_mk T.F__law_tape T.G__law_tape T.B__law_tape) kx.tk (em_cs (i := 0) rfl (pv 0) (em_nil)), ps_set kx.hN rfl (by first | exact Or.inl rfl | exact Or.inr rfl) we, fun p => ?_⟩
  have kx := kx_fn (g := gW T.tabs [p]) (P := P) (w := w) (K := K) (mg := mg) (base := base) (N := ["script", "tape", "cases", "text", "due", "turn"]) (qual := "law") (st := top 24) (f := T.A_law) (cdv := .ref T.cA_law) (A := A) (outer := outer) (s := s) (H := H) (E := E) (k := 7) sc_law hr
  have key : SVs (fnC (gW T.tabs [p]) P w K mg base ["script", "tape", "cases", "text", "due", "turn"] "law" (top 24) T.A_law (.ref T.cA_law) A outer s H E) ⟨false, [], none⟩ [.cs, .st 0, .fz, .fz, .fz, .fz] [] (defBody (top 24)).tail dr_law := svs_cons (sv_set (i := 2) (EO.ev (eo_lst (ea_cons (ev_tup (ea_cons (ev_str) (ea_cons (ev_int) (ea_nil)))) (ea_cons (ev_tup (ea_cons (ev_str) (ea_cons (ev_int) (ea_nil)))) (ea_cons (ev_tup (ea_cons (ev_str) (ea_cons (ev_int) (ea_nil)))) (ea_cons (ev_tup (ea_cons (ev_str) (ea_cons (ev_int) (ea_nil)))) (ea_cons (ev_tup (ea_cons (ev_str) (ea_cons (ev_int) (ea_nil)))) (ea_cons (ev_tup (ea_cons (ev_str) (ea_cons (ev_int) (ea_nil)))) (ea_cons (ev_tup (ea_cons (ev_str) (ea_cons (ev_int) (ea_nil)))) (ea_nil)))))))))) (by decide) (ps_set kx.hN rfl (Or.inl rfl) we))
      (svs_cons (sv_for (m := [.cs, .st 0, .fz, .fz, .fz, .fz]) (t := (.tup [3, 4])) (passes_of rfl) kx.hc (if_any (EO.ev (eo_add (EV.eb (vv 2)) (EO.eb (eo_lst (ea_cons (ev_tup (ea_cons (ev_str) (ea_cons (ev_int) (ea_nil)))) (ea_cons (ev_tup (ea_cons (ev_str) (ea_cons (ev_int) (ea_nil)))) (ea_nil)))))))) (by decide) (pg_tup kx.hc (pgs_cons (pgn 3 kx.hN) (pgs_cons (pgn 4 kx.hN) (pgs_nil)))) (svs_one (sv_if (m1 := [.cs, .st 0, .fz, .fz, .fz, .fz]) (t1 (rel_ne kx.ux) (EV.eb (ev_lamF (k := 3) (m' := [.cs, .st 0, .fz, .fz, .fz, .fz]) T.F__law_told T.B__law_told T.G__law_told sc__law_told rfl (by first | exact Or.inl rfl | exact Or.inr (Or.inl rfl)) (lm__law_told T tb _) (tb (T.cA_law, T.P_law) (List.Mem.tail _ (List.Mem.tail _ (List.Mem.head _)))) (List.Mem.tail _ (List.Mem.tail _ (List.Mem.head _))) T.nd rfl rfl rfl rfl rfl (kx.hr.mono (by decide)) (lamS_by (by show lamSB (defScope (top 24)) _ = true; decide +kernel)) (fun Al1 ol1 sl1 Hl1 El1 fl1 cl1 hrl1 => ev_call (ok_read_web T tb _) ((kx_lam kx hrl1).hr.mono (by decide)) rfl (at_mk T.F_read_web T.G_read_web T.B_read_web) (kx_lam kx hrl1).tk (em_val (vv 3) (em_nil))))) (EV.eb (ev_tup (ea_cons (ev_str) (ea_cons (vv 4) (ea_nil)))))) (svs_one (sv_ret (ev_bl))) (svs_nil))))
      (svs_cons (sv_for (m := [.cs, .st 0, .fz, .fz, .fz, .fz]) (t := (.nm 5)) (passes_of rfl) kx.hc (if_rng1 rfl T.b_range (ev_int)) (by decide) (pgn 5 kx.hN) (svs_one (sv_if (m1 := [.cs, .st 0, .fz, .fz, .fz, .fz]) (et_w (ew_or (et_not (et_val (ev_call (ok__law_is_web_right T tb _) (kx.hr.mono (by decide)) rfl (at_mk T.F__law_is_web_right.fn T.G__law_is_web_right T.B__law_is_web_right) kx.tk (em_st (k := 0) (i := 1) rfl (pv 1) (em_val (ev_call (ok__law_web T tb _) (kx.hr.mono (by decide)) rfl (at_mk T.F__law_web T.G__law_web T.B__law_web) kx.tk (em_st (k := 0) (i := 1) rfl (pv 1) (em_val (ev_int) (em_nil)))) (em_nil)))))) (ew_or1 (et_not (et_val (ev_call (ok__law_is_paint_right T tb _) (kx.hr.mono (by decide)) rfl (at_mk T.F__law_is_paint_right.fn T.G__law_is_paint_right T.B__law_is_paint_right) kx.tk (em_st (k := 0) (i := 1) rfl (pv 1) (em_nil)))))))) (svs_one (sv_ret (ev_bl))) (svs_nil))))
      (svs_one (sv_ret (ev_bl)))))
  exact key
end
def Pure : Prop := ∀ ns : List Int, ns.length ≤ 63 → (∀ z ∈ ns, Builtin.Int.intBits z ≤ 1048576) → ∃ S', (dAdopt 1 dt_law dr_law (env0 6 [.list (ns.map .int)]) []).fin false = .ok (.bool true) S'
end K77
namespace K77
open PySem PySem.Spec PyProof.Rows L2 PD
/-- the tape as it may stand -/
def tapeS (cells : List Int) (a b c e : Int) : Store := [[.list (cells.map .int), .int a, .int b, .int c, .int e]]
def TapeOk (S : Store) : Prop := ∃ (cells : List Int) (a : Nat) (b c e : Int), S = tapeS cells a b c e ∧ (∀ z ∈ cells, 0 ≤ z) ∧ 0 ≤ b
@[simp] theorem ix0 {x y z u v : PyData} : fIx (.list [x, y, z, u, v]) (.int 0) = some x := rfl
@[simp] theorem ix1 {x y z u v : PyData} : fIx (.list [x, y, z, u, v]) (.int 1) = some y := rfl
@[simp] theorem ix2 {x y z u v : PyData} : fIx (.list [x, y, z, u, v]) (.int 2) = some z := rfl
@[simp] theorem ix3 {x y z u v : PyData} : fIx (.list [x, y, z, u, v]) (.int 3) = some u := rfl
@[simp] theorem ix4 {x y z u v : PyData} : fIx (.list [x, y, z, u, v]) (.int 4) = some v := rfl
@[simp] theorem si1 {x y z u v d : PyData} : fSetI [x, y, z, u, v] (.int 1) d = some (.list [x, d, z, u, v]) := rfl
@[simp] theorem si2 {x y z u v d : PyData} : fSetI [x, y, z, u, v] (.int 2) d = some (.list [x, y, d, u, v]) := rfl
@[simp] theorem si3 {x y z u v d : PyData} : fSetI [x, y, z, u, v] (.int 3) d = some (.list [x, y, z, d, v]) := rfl
@[simp] theorem si4 {x y z u v d : PyData} : fSetI [x, y, z, u, v] (.int 4) d = some (.list [x, y, z, u, d]) := rfl
@[simp] theorem eqI {i j : Int} : fEq (.int i) (.int j) = some (.bool (decide (i = j))) := by
  have h : ∀ i : Int, SeqAt.shaped (.int i) = true := fun i => rfl
  unfold fEq orF fEqS fEqD
  simp only [h, Bool.and_self, if_true]
  rw [show PyData.eqv (.int i) (.int j) = (i == j) from rfl]
  rfl
theorem ixN_nat {n i : Nat} (h : i < n) : ixN n (i : Int) = some i := by
  unfold ixN
  rw [if_pos (by omega), if_pos (by omega)]
  rfl
theorem ix_nat {xs : List PyData} {i : Nat} {d : PyData} (h : xs[i]? = some d) : fIx (.list xs) (.int (i : Int)) = some d := by
  show L2.atI xs (i : Int) = some d
  unfold L2.atI
  rw [ixN_nat (List.getElem?_eq_some_iff.mp h).1]
  exact h
/-- what comes of the seed and the count -/
def draw (c e n : Int) : Int :=
  let x := ((c + 7919 * e) * 48271) % 2147483647
  let y := (x * (x / 1009 + 69621)) % 2147483647
  let z := (y * (y / 2003 + 40692)) % 2147483399
  (z / 16) % n
theorem draw_lt (c e : Int) {n : Int} (h : 1 ≤ n) : 0 ≤ draw c e n ∧ draw c e n < n := ⟨Int.emod_nonneg _ (by omega), Int.emod_lt_of_pos _ (by omega)⟩
/-- behind the carry -/
theorem tail_ok {n c e : Int} {a : Nat} {b : Int} {cells : List Int} {o : Option PyData} (hc : ∀ z ∈ cells, 0 ≤ z) (hb : 0 ≤ b) (h1 : 1 ≤ n) (h2 : n < 2 ^ 62) : ∃ (r : Int) (S' : Store),
    ((dSeq
              (dIfS (dTest (d2 fGt (dStIx 0 (dC (PyData.int 2))) (dC (PyData.int 0))))
                (dSeq (dSet 3 (d2 (fI cMod fun i j => i % j) (d1 fInt (dStIx 0 (dC (PyData.int 2)))) (dVar 1)))
                  (dSeq
                    (dStSet 0 (dC (PyData.int 2))
                      (d2 (fI cDiv fun i j => i / j) (dStIx 0 (dC (PyData.int 2))) (dVar 1)))
                    (dRet (dVar 3))))
                dNx)
              (dSeq (dStSet 0 (dC (PyData.int 4)) (d2 fAdd (dStIx 0 (dC (PyData.int 4))) (dC (PyData.int 1))))
                (dSeq
                  (dSet 4
                    (d2 (fI cMod fun i j => i % j)
                      (d1 fInt
                        (d2 fTimes
                          (d1 fInt
                            (d2 fAdd (dStIx 0 (dC (PyData.int 3)))
                              (d2 fTimes (dC (PyData.int 7919)) (dStIx 0 (dC (PyData.int 4))))))
                          (dC (PyData.int 48271))))
                      (dC (PyData.int 2147483647))))
                  (dSeq
                    (dSet 4
                      (d2 (fI cMod fun i j => i % j)
                        (d1 fInt
                          (d2 fTimes (dVar 4)
                            (d2 fAdd (d2 (fI cDiv fun i j => i / j) (dVar 4) (dC (PyData.int 1009)))
                              (dC (PyData.int 69621)))))
                        (dC (PyData.int 2147483647))))
                    (dSeq
                      (dSet 4
                        (d2 (fI cMod fun i j => i % j)
                          (d1 fInt
                            (d2 fTimes (dVar 4)
                              (d2 fAdd (d2 (fI cDiv fun i j => i / j) (dVar 4) (dC (PyData.int 2003)))
                                (dC (PyData.int 40692)))))
                          (dC (PyData.int 2147483399))))
                      (dRet
                        (d2 (fI cMod fun i j => i % j)
                          (d1 fInt (d2 (fI cDiv fun i j => i / j) (dVar 4) (dC (PyData.int 16)))) (dVar 1))))))))
      [some .none, some (.int n), o, none, none] (tapeS cells a b c e)).fin false = .ok (.int r) S' ∧ TapeOk S' ∧ 0 ≤ r ∧ r < n := by
  have hn : n.natAbs.log2 < 9000 := by
    have h3 : n.natAbs < 2 ^ 62 := by omega
    have h4 : n.natAbs ≠ 0 := by omega
    have := (Nat.log2_lt h4).mpr h3
    omega
  have hd : cDiv b n = true := by unfold cDiv; simp [hn]; omega
  have hm : ∀ i, cMod i n = true := fun i => by unfold cMod; simp; omega
  by_cases hb0 : 0 < b
  · refine ⟨b % n, tapeS cells a (b / n) c e, ?_, ⟨cells, a, b / n, c, e, rfl, hc, Int.ediv_nonneg hb (by omega)⟩, Int.emod_nonneg _ (by omega), Int.emod_lt_of_pos _ (by omega)⟩
    simp [tapeS, hb0, hd, hm, RS.fin]
  · refine ⟨draw c (e + 1) n, tapeS cells a b c (e + 1), ?_, ⟨cells, a, b, c, e + 1, rfl, hc, hb⟩, (draw_lt _ _ h1).1, (draw_lt _ _ h1).2⟩
    have m1 : ∀ i, cMod i 2147483647 = true := fun i => rfl
    have m2 : ∀ i, cMod i 2147483399 = true := fun i => rfl
    have v1 : ∀ i, cDiv i 1009 = true := fun i => by unfold cDiv; decide
    have v2 : ∀ i, cDiv i 2003 = true := fun i => by unfold cDiv; decide
    have v3 : ∀ i, cDiv i 16 = true := fun i => by unfold cDiv; decide
    have t1 : ∀ i, fTimes (.int 7919) (.int i) = some (.int (7919 * i)) := fun i => f_times (cMul_l (by decide) (by decide))
    have t2 : ∀ i, fTimes (.int i) (.int 48271) = some (.int (i * 48271)) := fun i => f_times (cMul_r (by decide) (by decide))
    have t3 : ∀ (i j : Int), fTimes (.int (i % 2147483647)) (.int j) = some (.int (i % 2147483647 * j)) := fun i j => f_times (cMul_l (by omega) (by omega))
    simp [tapeS, hb0, hm, m1, m2, v1, v2, v3, t1, t2, t3, RS.fin, draw]
theorem pick_ok {S : Store} {n : Int} (h : TapeOk S) (h1 : 1 ≤ n) (h2 : n < 2 ^ 62) : ∃ (r : Int) (S' : Store), d__law_pick [.none, .int n] S = .ok (.int r) S' ∧ TapeOk S' ∧ 0 ≤ r ∧ r < n := by
  obtain ⟨cells, a, b, c, e, rfl, hc, hb⟩ := h
  unfold d__law_pick dFn b__law_pick env0
  simp only [tapeS]
  by_cases hb0 : b = 0
  · by_cases ha : a < cells.length
    · have hx : ((cells.map PyData.int))[a]? = some (.int cells[a]) := by rw [List.getElem?_map, List.getElem?_eq_getElem ha]; rfl
      have t1 : ∀ i, fTimes (.int i) (.int 69621) = some (.int (i * 69621)) := fun i => f_times (cMul_r (by decide) (by decide))
      have m1 : ∀ i, cMod i 2147483629 = true := fun i => rfl
      have p1 : cPow 10 18 = true := by unfold cPow; decide
      have hcell : 0 ≤ cells[a] := hc _ (List.getElem_mem ha)
      by_cases hbig : (1000000000000000000 : Int) ≤ cells[a]
      · obtain ⟨r, S', q⟩ := tail_ok (a := a + 1) (b := cells[a]) (c := (c * 69621 + cells[a] + 11) % 2147483629) (e := e) (o := some (.int cells[a])) hc hcell h1 h2
        refine ⟨r, S', ?_, q.2⟩
        rw [← q.1]
        simp [hb0, ha, ix_nat hx, t1, m1, p1, hbig, tapeS]
      · obtain ⟨r, S', q⟩ := tail_ok (a := a + 1) (b := b) (c := (c * 69621 + cells[a] + 11) % 2147483629) (e := e) (o := some (.int cells[a])) hc hb h1 h2
        refine ⟨r, S', ?_, q.2⟩
        rw [← q.1]
        simp [hb0, ha, ix_nat hx, t1, m1, p1, hbig, tapeS]
    · obtain ⟨r, S', q⟩ := tail_ok (a := a) (b := b) (c := c) (e := e) (o := none) hc hb h1 h2
      refine ⟨r, S', ?_, q.2⟩
      rw [← q.1]
      simp [hb0, ha, tapeS]
  · obtain ⟨r, S', q⟩ := tail_ok (a := a) (b := b) (c := c) (e := e) (o := none) hc hb h1 h2
    refine ⟨r, S', ?_, q.2⟩
    rw [← q.1]
    simp [hb0, tapeS]
theorem any_ok {S : Store} {xs : List PyData} (h : TapeOk S) (hx : xs ≠ []) (hl : xs.length < 2 ^ 62) : ∃ (x : PyData) (S' : Store), d__law_any [.none, .list xs] S = .ok x S' ∧ TapeOk S' ∧ x ∈ xs := by
  have h0 : 0 < xs.length := List.length_pos_iff.mpr hx
  obtain ⟨r, S', q, ht, r0, r1⟩ := pick_ok (n := xs.length) h (by omega) (by omega)
  obtain ⟨j, rfl⟩ : ∃ j : Nat, r = j := ⟨r.toNat, by omega⟩
  have hj : j < xs.length := by omega
  refine ⟨xs[j], S', ?_, ht, List.getElem_mem hj⟩
  unfold d__law_any dFn b__law_any env0
  simp [q, ix_nat (List.getElem?_eq_getElem hj), RS.fin]
end K77
namespace K77
open PySem PySem.Spec PyProof.Rows L2 PD
/-! ### texts by their signs -/
def sL (l : List Nat) : Str := ⟨l.toArray⟩
theorem sL_of (z : Str) : z = sL z.cps.toList := by unfold sL; rw [Array.toArray_toList]
@[simp] theorem sL_list (l : List Nat) : (sL l).cps.toList = l := rfl
@[simp] theorem sL_len (l : List Nat) : (sL l).length = l.length := by show l.toArray.size = _; simp
theorem sL_inj {l m : List Nat} : sL l = sL m ↔ l = m := ⟨fun h => by
  have := congrArg (fun z : Str => z.cps.toList) h
  simpa using this, fun h => by rw [h]⟩
theorem sL_app (l m : List Nat) : sL l ++ sL m = sL (l ++ m) := by
  show (⟨l.toArray ++ m.toArray⟩ : Str) = _
  unfold sL
  rw [List.append_toArray]
theorem cut_sL (l : List Nat) (lo hi : Option Int) : cutS (sL l) lo hi = sL (cutA l lo hi) := by
  unfold cutS cutA
  simp only [sL_list, sL_len]
  rfl
theorem cutA_take {α : Type} (l : List α) (k : Nat) : cutA l none (some (k : Int)) = l.take k := by
  unfold cutA
  rw [show HT.sIx l.length 0 none = 0 from rfl, show HT.sIx l.length l.length (some (k : Int)) = min k l.length from HT.sIx_nat ..]
  simp
theorem cutA_drop {α : Type} (l : List α) (k : Nat) : cutA l (some (k : Int)) none = l.drop k := by
  unfold cutA
  rw [show HT.sIx l.length l.length none = l.length from rfl, show HT.sIx l.length 0 (some (k : Int)) = min k l.length from HT.sIx_nat ..]
  by_cases h : k ≤ l.length
  · rw [Nat.min_eq_left h]
    exact List.take_of_length_le (by simp)
  · rw [Nat.min_eq_right (by omega)]
    simp
    omega
theorem cutA_mid {α : Type} (l : List α) (j k : Nat) (h : j ≤ k) : cutA l (some (j : Int)) (some (k : Int)) = (l.drop j).take (k - j) := by
  unfold cutA
  rw [show HT.sIx l.length l.length (some (k : Int)) = min k l.length from HT.sIx_nat .., show HT.sIx l.length 0 (some (j : Int)) = min j l.length from HT.sIx_nat ..]
  by_cases h1 : j ≤ l.length
  · rw [Nat.min_eq_left h1]
    by_cases h2 : k ≤ l.length
    · rw [Nat.min_eq_left h2]
    · rw [Nat.min_eq_right (by omega), List.take_of_length_le (by simp), List.take_of_length_le (by simp; omega)]
  · rw [List.drop_of_length_le (show l.length ≤ min j l.length by omega), List.drop_of_length_le (show l.length ≤ j by omega)]
    simp
/-! the values of texts -/
@[simp] theorem sz_small {n : Nat} (h : n ≤ 10000) : sz n = true := by
  unfold sz
  rw [decide_eq_true_iff, sizeLine_eq]
  omega
theorem f_lenS {l : List Nat} (h : l.length ≤ 10000) : fLen (.str (sL l)) = some (.int l.length) := by
  show (if sz (sL l).length then some (PyData.int (sL l).length) else none) = _
  rw [sL_len, sz_small h]
  rfl
theorem f_slS {l : List Nat} (h : l.length ≤ 10000) (lo hi : Option Int) : fSl (.str (sL l)) lo hi = some (.str (sL (cutA l lo hi))) := by
  show (if sz (sL l).length then some (PyData.str (cutS (sL l) lo hi)) else none) = _
  rw [sL_len, sz_small h, cut_sL]
  rfl
theorem f_ixS {l : List Nat} (h : l.length ≤ 10000) {i : Nat} {c : Nat} (hc : l[i]? = some c) : fIx (.str (sL l)) (.int (i : Int)) = some (.str (sL [c])) := by
  show (if sz (sL l).length then (L2.atI (sL l).cps.toList (i : Int)).map fun c => PyData.str ⟨#[c]⟩ else none) = _
  rw [sL_len, sz_small h, sL_list]
  unfold L2.atI
  rw [ixN_nat (List.getElem?_eq_some_iff.mp hc).1]
  simp [hc]
  rfl
theorem f_addS {l m : List Nat} (h : l.length + m.length ≤ 10000) : fAdd (.str (sL l)) (.str (sL m)) = some (.str (sL (l ++ m))) := by
  show (if sz ((sL l).length + (sL m).length) then some (PyData.str (sL l ++ sL m)) else none) = _
  rw [sL_len, sL_len, sz_small h, sL_app]
  rfl
theorem f_eqS {l m : List Nat} : fEq (.str (sL l)) (.str (sL m)) = some (.bool (decide (l = m))) := by
  show some (PyData.bool (decide (sL l = sL m))) = _
  simp only [sL_inj]
theorem f_neS {l m : List Nat} : fNe (.str (sL l)) (.str (sL m)) = some (.bool (!decide (l = m))) := by
  show some (PyData.bool (!decide (sL l = sL m))) = _
  simp only [sL_inj]
theorem f_inS {c : Nat} {l : List Nat} : fIn false (.str (sL [c])) (.str (sL l)) = some (.bool (decide (c ∈ l))) := rfl
theorem f_notInS {c : Nat} {l : List Nat} : fIn true (.str (sL [c])) (.str (sL l)) = some (.bool (!decide (c ∈ l))) := rfl
/-! ### a tie's text, told by its signs -/
def dig (c : Nat) : Bool := decide (48 ≤ c ∧ c ≤ 57)
/-- the tie that a word tells, among n places -/
def tieOf (n : Int) (w : List Nat) : Option (Int × Int) := match w with
  | [a, m, b] => if m = 45 ∧ dig a = true ∧ dig b = true ∧ (a : Int) < b ∧ (b : Int) - 48 < n then some ((a : Int) - 48, (b : Int) - 48) else none
  | _ => none
def tieD (p : Int × Int) : PyData := .tuple [.int p.1, .int p.2]
def notUp (last : Option (Int × Int)) (p : Int × Int) : Bool := match last with
  | none => false
  | some q => decide (p.1 < q.1 ∨ (p.1 = q.1 ∧ p.2 ≤ q.2))
/-- the first word that tells no tie, or none that rises -/
def goDue (n : Int) (last : Option (Int × Int)) (k : Int) : List (List Nat) → Option Int
  | [] => none
  | w :: r => match tieOf n w with
    | none => some (k + 1)
    | some p => if notUp last p = true then some (k + 1) else goDue n (some p) (k + 1) r
theorem intText_dig {c : Nat} (h : dig c = true) : PySem.intText? (sL [c]) = some ((c : Int) - 48) := by
  have h := of_decide_eq_true h
  have : c = 48 ∨ c = 49 ∨ c = 50 ∨ c = 51 ∨ c = 52 ∨ c = 53 ∨ c = 54 ∨ c = 55 ∨ c = 56 ∨ c = 57 := by omega
  rcases this with rfl | rfl | rfl | rfl | rfl | rfl | rfl | rfl | rfl | rfl <;> decide +kernel
theorem int_dig {c : Nat} (h : dig c = true) : fInt (.str (sL [c])) = some (.int ((c : Int) - 48)) := by
  show (if decide ((sL [c]).length ≤ 640) then (PySem.intText? (sL [c])).map PyData.int else none) = _
  rw [intText_dig h, sL_len]
  rfl
theorem s_digits : (Str.ofString "0123456789") = sL [48, 49, 50, 51, 52, 53, 54, 55, 56, 57] := by decide +kernel
theorem s_eight : (Str.ofString "01234567") = sL [48, 49, 50, 51, 52, 53, 54, 55] := by decide +kernel
theorem s_dash : (Str.ofString "-") = sL [45] := by decide +kernel
theorem mem_digits {c : Nat} : decide (c ∈ [48, 49, 50, 51, 52, 53, 54, 55, 56, 57]) = dig c := by
  unfold dig
  rw [decide_eq_decide]
  simp
  omega
theorem ixT0 {x y : PyData} : fIx (.tuple [x, y]) (.int 0) = some x := rfl
theorem ixT1 {x y : PyData} : fIx (.tuple [x, y]) (.int 1) = some y := rfl
theorem neI {i j : Int} : fNe (.int i) (.int j) = some (.bool (!decide (i = j))) := by
  have h : ∀ i : Int, SeqAt.shaped (.int i) = true := fun i => rfl
  unfold fNe orF fNeS fNeD
  simp only [h, Bool.and_self, if_true]
  rw [show PyData.eqv (.int i) (.int j) = (i == j) from rfl]
  rfl
def tieO (o : Option (Int × Int)) : PyData := match o with | some p => tieD p | none => .none
theorem tie_in_ok {n : Int} {w : List Nat} {S : Store} (hw : w.length ≤ 10000) : d_tie_in [.int n, .str (sL w)] S = .ok (tieO (tieOf n w)) S := by
  unfold d_tie_in dFn b_tie_in env0
  by_cases h3 : w.length = 3
  · obtain ⟨a, m, b, rfl⟩ : ∃ a m b, w = [a, m, b] := by
      match w, h3 with
      | [a, m, b], _ => exact ⟨a, m, b, rfl⟩
    have i0 : fIx (.str (sL [a, m, b])) (.int 0) = some (.str (sL [a])) := f_ixS hw (i := 0) rfl
    have i1 : fIx (.str (sL [a, m, b])) (.int 1) = some (.str (sL [m])) := f_ixS hw (i := 1) rfl
    have i2 : fIx (.str (sL [a, m, b])) (.int 2) = some (.str (sL [b])) := f_ixS hw (i := 2) rfl
    have l3 : fLen (.str (sL [a, m, b])) = some (.int 3) := f_lenS hw
    have ed : ∀ c, fIn true (.str (sL [c])) (.str (Str.ofString "0123456789")) = some (.bool (!dig c)) := fun c => by
      rw [s_digits, f_notInS, mem_digits]
    have em : fNe (.str (sL [m])) (.str (Str.ofString "-")) = some (.bool (!decide (m = 45))) := by
      rw [s_dash, f_neS]
      simp
    by_cases hm : m = 45
    · subst hm
      cases ha : dig a with
      | false =>
        simp [tieOf, l3, i0, i1, i2, ed, em, neI, ha, RS.fin, tieO]
      | true =>
        cases hb : dig b with
        | false => simp [tieOf, l3, i0, i1, i2, ed, em, neI, ha, hb, RS.fin, tieO]
        | true =>
          have n0 := int_dig ha
          have n1 := int_dig hb
          by_cases h1 : a < b
          · by_cases h2 : (b : Int) - 48 < n
            · have h1' : (a : Int) - 48 < (b : Int) - 48 := by omega
              simp [tieOf, l3, i0, i1, i2, ed, em, neI, ha, hb, n0, n1, ixT0, ixT1, sz_small, h1, h2, h1', RS.fin, tieO, tieD]
            · have h1' : (a : Int) - 48 < (b : Int) - 48 := by omega
              simp [tieOf, l3, i0, i1, i2, ed, em, neI, ha, hb, n0, n1, ixT0, ixT1, sz_small, h1, h2, h1', RS.fin, tieO, tieD]
          · have h1' : ¬ (a : Int) - 48 < (b : Int) - 48 := by omega
            simp [tieOf, l3, i0, i1, i2, ed, em, neI, ha, hb, n0, n1, ixT0, ixT1, sz_small, h1, h1', RS.fin, tieO, tieD]
    · simp [tieOf, l3, i0, i1, i2, ed, em, neI, hm, RS.fin, tieO]
  · have l3 := f_lenS hw
    have e : tieOf n w = none := by
      unfold tieOf
      split
      · exact absurd rfl h3
      · rfl
    rw [e]
    have h3' : ¬ ((w.length : Int) = 3) := by omega
    simp [l3, neI, h3', RS.fin, tieO]
/-! ### read_web's loop -/
def rbody : DS := dSeq (dSet 6 (dCall d_tie_in (dCons (dVar 1) (dCons (dVar 5) (dNil))))) (dSeq (dIfS (dOr (dTest (d2 (fIsN false) (dVar 6) (dC .none))) (dAnd (dTest (d2 fGt (d1 fLen (dVar 2)) (dC (.int 0)))) (dTest (d2 fLe (dVar 6) (d2 fIx (dVar 2) (d1 fNeg (dC (.int 1)))))))) (dRaise1 "BadText" "place" (dVar 4)) (dNx)) (dApp 2 (dVar 6)))
def badAt (j : Int) : Xc := ⟨"BadText", [("place", .int j)]⟩
theorem ix_last {xs : List PyData} {x : PyData} : fIx (.list (xs ++ [x])) (.int (-1)) = some x := by
  show L2.atI (xs ++ [x]) (-1) = some x
  unfold L2.atI ixN
  have h1 : ((xs ++ [x]).length : Int) = (xs.length : Int) + 1 := by simp
  rw [if_neg (by decide), if_pos (by rw [h1]; omega)]
  have h2 : (-1 + ((xs ++ [x]).length : Int)).toNat = xs.length := by rw [h1]; omega
  simp only [Option.bind_some, h2]
  simp
theorem le_tie {p q : Int × Int} : fLe (tieD p) (tieD q) = some (.bool (decide (p.1 < q.1 ∨ (p.1 = q.1 ∧ p.2 ≤ q.2)))) := by
  show some (PyData.bool (lexLeI [p.1, p.2] [q.1, q.2])) = _
  congr 2
  simp only [lexLeI]
  by_cases h : p.1 = q.1
  · rw [if_pos h]
    by_cases h2 : p.2 = q.2
    · rw [if_pos h2]
      symm
      rw [decide_eq_true_iff]
      omega
    · rw [if_neg h2, decide_eq_decide]
      omega
  · rw [if_neg h, decide_eq_decide]
    omega
def tiesOf (n : Int) (ws : List (List Nat)) : List (Int × Int) := ws.filterMap (tieOf n)
theorem last_map {fs : List (Int × Int)} : fs = [] ∨ ∃ gs g, fs = gs ++ [g] := by
  rcases List.eq_nil_or_concat fs with h | ⟨gs, g, h⟩
  · exact .inl h
  · exact .inr ⟨gs, g, by simpa using h⟩
theorem f_neg1 : fNeg (.int 1) = some (.int (-1)) := rfl
theorem fApp_ok {xs : List PyData} {d : PyData} (h : xs.length < 10000) : fApp xs d = some (.list (xs ++ [d])) := by
  unfold fApp
  rw [if_pos (by rw [decide_eq_true_iff, sizeLine_eq]; omega)]
/-- one turn -/
theorem read_turn {n : Int} {t : PyData} {o3 o6 : Option PyData} {S : Store} {fs : List (Int × Int)} {k : Int} {w : List Nat} (hw : w.length ≤ 10000) (hl : fs.length < 10000) :
    rbody [some t, some (.int n), some (.list (fs.map tieD)), o3, some (.int (k + 1)), some (.str (sL w)), o6] S = match tieOf n w with
      | none => .exc (badAt (k + 1)) [some t, some (.int n), some (.list (fs.map tieD)), o3, some (.int (k + 1)), some (.str (sL w)), some .none] S
      | some p => if notUp fs.getLast? p = true then .exc (badAt (k + 1)) [some t, some (.int n), some (.list (fs.map tieD)), o3, some (.int (k + 1)), some (.str (sL w)), some (tieD p)] S
        else .nx [some t, some (.int n), some (.list ((fs ++ [p]).map tieD)), o3, some (.int (k + 1)), some (.str (sL w)), some (tieD p)] S := by
  have ht := tie_in_ok (n := n) (S := S) hw
  have r1 : ∀ ρ S, dRaise1 "BadText" "place" (dVar 4) ρ S = (dVar 4 ρ S).st ρ fun d S1 => .exc ⟨"BadText", [("place", d)]⟩ ρ S1 := fun _ _ => rfl
  unfold rbody
  cases e : tieOf n w with
  | none =>
    rw [e] at ht
    simp [ht, tieO, fIsN, isNone, r1, badAt]
  | some p =>
    rw [e] at ht
    have hp : fIsN false (tieD p) .none = some (.bool false) := rfl
    rcases last_map (fs := fs) with rfl | ⟨gs, g, rfl⟩
    · simp [ht, tieO, hp, r1, badAt, notUp, onLst, putO, fApp_ok]
    · have hx : fIx (.list ((gs ++ [g]).map tieD)) (.int (-1)) = some (tieD g) := by rw [List.map_append]; exact ix_last
      have hlen : (0 : Int) < ((gs ++ [g]).map tieD).length := by
        rw [List.length_map, List.length_append, List.length_singleton]
        omega
      have ha : fApp ((gs ++ [g]).map tieD) (tieD p) = some (.list ((gs ++ [g]).map tieD ++ [tieD p])) := fApp_ok (by simpa using hl)
      have hgl : (gs ++ [g]).getLast? = some g := by simp
      rw [hgl]
      dsimp only
      by_cases hb : notUp (some g) p = true
      · have hb' := hb
        unfold notUp at hb'
        simp only at hb'
        rw [if_pos hb]
        simp [ht, tieO, hp, r1, badAt, f_neg1, hx, hlen, le_tie, hb', -List.map_append]
      · have hb' := hb
        unfold notUp at hb'
        simp only at hb'
        rw [if_neg hb]
        simp [ht, tieO, hp, r1, badAt, f_neg1, hx, hlen, le_tie, hb', onLst, putO, ha, -List.map_append]
        simp
theorem read_loop {n : Int} {t : PyData} {o3 : Option PyData} {S : Store} : ∀ (ws : List (List Nat)) (fs : List (Int × Int)) (k : Int) (o4 o5 o6 : Option PyData), (∀ w ∈ ws, w.length ≤ 10000) → fs.length + ws.length ≤ 10000 →
    (∀ j, goDue n fs.getLast? k ws = some j → ∃ ρ', forL (.tup [4, 5]) rbody (enumD (k + 1) (ws.map fun w => .str (sL w))) [some t, some (.int n), some (.list (fs.map tieD)), o3, o4, o5, o6] S = .exc (badAt j) ρ' S) ∧
    (goDue n fs.getLast? k ws = none → ∃ a b c, forL (.tup [4, 5]) rbody (enumD (k + 1) (ws.map fun w => .str (sL w))) [some t, some (.int n), some (.list (fs.map tieD)), o3, o4, o5, o6] S = .nx [some t, some (.int n), some (.list ((fs ++ tiesOf n ws).map tieD)), o3, a, b, c] S)
  | [], fs, k, o4, o5, o6, _, _ => ⟨fun j h => (by cases h), fun _ => ⟨o4, o5, o6, by simp [enumD, forL_nil, tiesOf]⟩⟩
  | w :: ws, fs, k, o4, o5, o6, hw, hl => by
    have hl1 : fs.length < 10000 := by simp at hl; omega
    have hturn := read_turn (n := n) (t := t) (o3 := o3) (o6 := o6) (S := S) (fs := fs) (k := k) (hw w (List.mem_cons_self ..)) hl1
    have hstep : ∀ o4 o5, forL (.tup [4, 5]) rbody (enumD (k + 1) ((w :: ws).map fun w => .str (sL w))) [some t, some (.int n), some (.list (fs.map tieD)), o3, o4, o5, o6] S =
        (match rbody [some t, some (.int n), some (.list (fs.map tieD)), o3, some (.int (k + 1)), some (.str (sL w)), o6] S with
          | .nx ρ2 S2 => forL (.tup [4, 5]) rbody (enumD (k + 1 + 1) (ws.map fun w => .str (sL w))) ρ2 S2
          | .brk ρ2 S2 => .nx ρ2 S2
          | r => r) := fun o4 o5 => rfl
    rw [hstep, hturn]
    unfold goDue
    cases e : tieOf n w with
    | none => exact ⟨fun j h => by cases h; exact ⟨_, rfl⟩, fun h => by cases h⟩
    | some p =>
      dsimp only
      by_cases hb : notUp fs.getLast? p = true
      · rw [if_pos hb, if_pos hb]
        exact ⟨fun j h => by cases h; exact ⟨_, rfl⟩, fun h => by cases h⟩
      · rw [if_neg hb, if_neg hb]
        obtain ⟨q1, q2⟩ := read_loop ws (fs ++ [p]) (k + 1) (some (.int (k + 1))) (some (.str (sL w))) (some (tieD p)) (fun v hv => hw v (List.mem_cons_of_mem _ hv)) (by simp at hl ⊢; omega)
        rw [show (fs ++ [p]).getLast? = some p by simp] at q1 q2
        refine ⟨q1, fun h => ?_⟩
        obtain ⟨a, b, c, q⟩ := q2 h
        refine ⟨a, b, c, ?_⟩
        dsimp only
        rw [q]
        unfold tiesOf
        rw [List.filterMap_cons, e]
        simp
/-! ### the words between the commas -/
theorem join_part {sep w : Str} : ∀ {ws : List Str}, w ∈ ws → w.length ≤ (Str.join sep ws).length
  | [], h => by cases h
  | [x], h => by rw [List.mem_singleton.mp h]; exact Nat.le_refl _
  | x :: y :: r, h => by
    show _ ≤ (x ++ sep ++ Str.join sep (y :: r)).length
    rw [Str.length_append, Str.length_append]
    rcases List.mem_cons.mp h with rfl | h
    · omega
    · have := join_part (sep := sep) h
      omega
def comma : Str := sL [44]
theorem s_comma : (Str.ofString ",") = comma := by decide +kernel
def wordsOf (r : List Nat) : List (List Nat) := (Txt.split (sL r) comma).map fun z => z.cps.toList
theorem words_map (r : List Nat) : (wordsOf r).map (fun w => PyData.str (sL w)) = (Txt.split (sL r) comma).map PyData.str := by
  unfold wordsOf
  rw [List.map_map]
  apply List.map_congr_left
  intro z _
  show PyData.str (sL z.cps.toList) = _
  rw [← sL_of]
theorem words_len {r : List Nat} (h : r.length ≤ 5000) : (wordsOf r).length ≤ 5002 := by
  unfold wordsOf
  rw [List.length_map]
  have := PyProof.Rows.split_le (sL r) comma
  rw [sL_len] at this
  omega
theorem words_part {r : List Nat} (h : r.length ≤ 5000) : ∀ w ∈ wordsOf r, w.length ≤ 10000 := by
  intro w hw
  unfold wordsOf at hw
  obtain ⟨z, hz, rfl⟩ := List.mem_map.mp hw
  have h1 := join_part (sep := comma) hz
  rw [StrLaws.join_split, sL_len] at h1
  have : z.cps.toList.length = z.length := by simp [Str.length]
  omega
theorem f_split {r : List Nat} (h : r.length ≤ 5000) : fSplit (sL r) (.str comma) = some (.list ((wordsOf r).map fun w => PyData.str (sL w))) := by
  rw [words_map]
  show (if (comma.length != 0 && decide ((sL r).length + 2 ≤ sizeLine)) = true then _ else none) = _
  rw [if_pos]
  rw [Bool.and_eq_true]
  refine ⟨rfl, ?_⟩
  rw [decide_eq_true_iff, sizeLine_eq, sL_len]
  omega
end K77
namespace K77
open PySem PySem.Spec PyProof.Rows L2 PD
/-! ### reading a web -/
/-- the place at which a text is refused -/
def dueOf (l : List Nat) : Option Int := match l with
  | a :: b :: r => if 49 ≤ a ∧ a ≤ 56 ∧ b = 32 then (if r = [45] then none else goDue ((a : Int) - 48) none 0 (wordsOf r)) else some 0
  | _ => some 0
def webD (n : Int) (ts : List (Int × Int)) : PyData := .tuple [.int n, .tuple (ts.map tieD)]
/-- the web that a text tells -/
def webOf (l : List Nat) : Int × List (Int × Int) := match l with
  | a :: _ :: r => ((a : Int) - 48, if r = [45] then [] else tiesOf ((a : Int) - 48) (wordsOf r))
  | _ => (0, [])
theorem s_blank : (Str.ofString " ") = sL [32] := by decide +kernel
theorem s_18 : (Str.ofString "12345678") = sL [49, 50, 51, 52, 53, 54, 55, 56] := by decide +kernel
theorem signs18 : signsD (Str.ofString "12345678") = [49, 50, 51, 52, 53, 54, 55, 56].map fun c => PyData.str (sL [c]) := by
  rw [s_18]
  rfl
def h18 : List Nat → Bool
  | [c] => decide (49 ≤ c ∧ c ≤ 56)
  | _ => false
theorem h18_iff {l : List Nat} : h18 l = true ↔ ∃ c, l = [c] ∧ 49 ≤ c ∧ c ≤ 56 := by
  match l with
  | [] => simp [h18]
  | [c] => simp [h18]
  | a :: b :: r => simp [h18]
@[simp] theorem fTupleL {xs : List PyData} : fTuple (.list xs) = some (.tuple xs) := rfl
theorem eqv_sL {l m : List Nat} : PyData.eqv (.str (sL l)) (.str (sL m)) = decide (l = m) := by
  rw [show PyData.eqv (.str (sL l)) (.str (sL m)) = (sL l == sL m) from rfl]
  by_cases h : l = m
  · subst h; simp
  · have : ¬ sL l = sL m := fun e => h (sL_inj.mp e)
    rw [decide_eq_false h]
    simpa using this
theorem fTuple18 : fTuple (.str (Str.ofString "12345678")) = some (.tuple (signsD (Str.ofString "12345678"))) := by
  show (if sz (Str.ofString "12345678").length then _ else none) = _
  rw [show (Str.ofString "12345678").length = 8 from by decide +kernel, sz_small (by decide)]
  rfl
theorem in18 (l : List Nat) : fIn true (.str (sL l)) (.tuple (signsD (Str.ofString "12345678"))) = some (.bool (!h18 l)) := by
  rw [signs18]
  have e : inOk (.str (sL l)) ([49, 50, 51, 52, 53, 54, 55, 56].map fun c => PyData.str (sL [c])) = true := rfl
  show (if inOk (.str (sL l)) ([49, 50, 51, 52, 53, 54, 55, 56].map fun c => PyData.str (sL [c])) = true then _ else none) = _
  rw [e, if_pos rfl]
  simp only [if_true]
  congr 3
  unfold inD
  rw [List.any_map]
  simp only [Function.comp_def, eqv_sL]
  rw [Bool.eq_iff_iff, h18_iff]
  simp only [List.any_eq_true, decide_eq_true_eq]
  constructor
  · rintro ⟨c, hc, rfl⟩
    refine ⟨c, rfl, ?_⟩
    simp at hc
    omega
  · rintro ⟨c, rfl, h1, h2⟩
    refine ⟨c, ?_, rfl⟩
    simp
    omega
theorem head18 {a : Nat} (h : 49 ≤ a ∧ a ≤ 56) : dig a = true := by
  unfold dig
  rw [decide_eq_true_iff]
  omega
def rloop : DS := dFor (dIt2 fEnum2 (dVar 3) (dC (.int 1))) (.tup [4, 5]) rbody
theorem enum2_ok (xs : List PyData) : fEnum2 (.list xs) (.int 1) = some (enumD 1 xs) := rfl
theorem read_ok {l : List Nat} (hl : l.length ≤ 5000) (S : Store) :
    (∀ j, dueOf l = some j → d_read_web [.str (sL l)] S = .exc (badAt j) S) ∧
    (dueOf l = none → d_read_web [.str (sL l)] S = .ok (webD (webOf l).1 (webOf l).2) S) := by
  have r1 : ∀ ρ S, dRaise1 "BadText" "place" (dC (.int 0)) ρ S = .exc (badAt 0) ρ S := fun _ _ => rfl
  have t0 : fSl (.str (sL l)) none (some 1) = some (.str (sL (l.take 1))) := by
    rw [f_slS (by omega), show (1 : Int) = ((1 : Nat) : Int) from rfl, cutA_take]
  have t1 : fSl (.str (sL l)) (some 1) (some 2) = some (.str (sL ((l.drop 1).take 1))) := by
    rw [f_slS (by omega), show (1 : Int) = ((1 : Nat) : Int) from rfl, show (2 : Int) = ((2 : Nat) : Int) from rfl, cutA_mid _ _ _ (by omega)]
  have t2 : fSl (.str (sL l)) (some 2) none = some (.str (sL (l.drop 2))) := by
    rw [f_slS (by omega), show (2 : Int) = ((2 : Nat) : Int) from rfl, cutA_drop]
  have ts : isT "str" (.str (sL l)) = true := rfl
  unfold d_read_web dFn b_read_web env0
  by_cases h : ∃ a b r, l = a :: b :: r ∧ 49 ≤ a ∧ a ≤ 56 ∧ b = 32
  · obtain ⟨a, b, r, rfl, h1, h2, rfl⟩ := h
    have i0 : fIx (.str (sL (a :: 32 :: r))) (.int 0) = some (.str (sL [a])) := f_ixS (by omega) (i := 0) rfl
    have n0 := int_dig (head18 ⟨h1, h2⟩)
    have c1 : h18 [a] = true := h18_iff.mpr ⟨a, rfl, h1, h2⟩
    simp only [List.take_succ_cons, List.take_zero, List.drop_succ_cons, List.drop_zero] at t0 t1 t2
    simp only [dueOf, webOf, h1, h2, and_self, if_true]
    have e2 : fEq (.str (sL r)) (.str (Str.ofString "-")) = some (.bool (decide (r = [45]))) := by rw [s_dash, f_eqS]
    have hb : fNe (.str (sL [32])) (.str (Str.ofString " ")) = some (.bool false) := by rw [s_blank, f_neS]; rfl
    have hrl : r.length ≤ 5000 := by simp at hl; omega
    by_cases hr : r = [45]
    · subst hr
      have q := fun o4 o5 o6 => (read_loop (n := (a : Int) - 48) (t := .str (sL [a, 32, 45])) (o3 := some (.list [])) (S := S) [] [] 0 o4 o5 o6 (fun w hw => by cases hw) (by simp)).2 rfl
      refine ⟨fun j hj => by simp at hj, fun _ => ?_⟩
      obtain ⟨x, y, z, q⟩ := q none none none
      simp only [rbody, List.map_nil, enumD] at q
      simp [ts, t0, t1, t2, fTuple18, in18, c1, h1, h2, hb, i0, n0, e2, sz_small, setAll, enum2_ok, enumD, forL_nil, RS.fin, webD]
    · have e3 : fSplit (sL r) (.str (Str.ofString ",")) = some (.list ((wordsOf r).map fun w => PyData.str (sL w))) := by rw [s_comma, f_split hrl]
      have hw := words_len hrl
      obtain ⟨q1, q2⟩ := read_loop (n := (a : Int) - 48) (t := .str (sL (a :: 32 :: r))) (o3 := some (.list ((wordsOf r).map fun w => PyData.str (sL w)))) (S := S) (wordsOf r) [] 0 none none none (words_part hrl) (by simp; omega)
      simp only [List.getLast?_nil, List.map_nil, List.nil_append, Int.zero_add] at q1 q2
      refine ⟨fun j hj => ?_, fun hj => ?_⟩
      · rw [if_neg hr] at hj
        obtain ⟨ρ', q⟩ := q1 j hj
        unfold rbody at q
        simp [ts, t0, t1, t2, fTuple18, in18, c1, h1, h2, hb, i0, n0, e2, e3, hr, sz_small, setAll, enum2_ok, RS.fin, q]
      · rw [if_neg hr] at hj
        obtain ⟨x, y, z, q⟩ := q2 hj
        have htl : (tiesOf ((a : Int) - 48) (wordsOf r)).length ≤ 10000 := by
          unfold tiesOf
          have := List.length_filterMap_le (tieOf ((a : Int) - 48)) (wordsOf r)
          omega
        unfold rbody at q
        simp [ts, t0, t1, t2, fTuple18, in18, c1, h1, h2, hb, i0, n0, e2, e3, hr, sz_small, setAll, enum2_ok, RS.fin, q, webD]
  · have hd : dueOf l = some 0 := by
      unfold dueOf
      split
      · rename_i a b r
        rw [if_neg]
        rintro ⟨h1, h2, h3⟩
        exact h ⟨a, b, r, rfl, h1, h2, h3⟩
      · rfl
    rw [hd]
    refine ⟨fun j hj => ?_, fun hj => by cases hj⟩
    cases hj
    by_cases hc : h18 (l.take 1) = true
    · have hn : ¬ (l.drop 1).take 1 = [32] := by
        rintro e
        obtain ⟨c, e1, h1, h2⟩ := h18_iff.mp hc
        match l, e1, e with
        | a :: b :: r, e1, e =>
          simp at e1 e
          exact h ⟨a, b, r, rfl, by omega, by omega, e⟩
        | [a], e1, e => simp at e
      have hb : fNe (.str (sL ((l.drop 1).take 1))) (.str (Str.ofString " ")) = some (.bool true) := by
        rw [s_blank, f_neS, decide_eq_false hn]
        rfl
      simp only [ap_seq, ap_ifs, ap_or, ap_not, ap_test, ap_d1, ap_d2, ap_sl, ap_pno, ap_psm, ap_c, ap_var, List.getD_cons_zero, List.map_cons, List.map_nil, List.cons_append, R.bind_ok, ofO_some, ts, t0, t1, fTuple18, in18, hc, hb, Bool.not_true, if_true, Bool.false_eq_true, if_false, R.st_ok, r1, RS.bind_exc, RS.fin]
    · simp only [ap_seq, ap_ifs, ap_or, ap_not, ap_test, ap_d1, ap_d2, ap_sl, ap_pno, ap_psm, ap_c, ap_var, List.getD_cons_zero, List.map_cons, List.map_nil, List.cons_append, R.bind_ok, ofO_some, ts, t0, t1, fTuple18, in18, Bool.eq_false_iff.mpr hc, Bool.not_true, Bool.not_false, if_true, Bool.false_eq_true, if_false, R.st_ok, r1, RS.bind_exc, RS.fin]
end K77
namespace K77
open PySem PySem.Spec PyProof.Rows L2 PD
/-! ### the law's own account of a text -/
def lbody : DS := dSeq (dIfS (dOr (dTest (d2 fNe (d1 fLen (dVar 4)) (dC (.int 3)))) (dOr (dTest (d2 (fIn true) (d2 fIx (dVar 4) (dC (.int 0))) (dC (.str "01234567")))) (dOr (dTest (d2 fNe (d2 fIx (dVar 4) (dC (.int 1))) (dC (.str "-")))) (dTest (d2 (fIn true) (d2 fIx (dVar 4) (dC (.int 2))) (dC (.str "01234567"))))))) (dRet (d2 fAdd (dVar 3) (dC (.int 1)))) (dNx)) (dSeq (dSet 5 (dTup (dCons (d1 fInt (d2 fIx (dVar 4) (dC (.int 0)))) (dCons (d1 fInt (d2 fIx (dVar 4) (dC (.int 2)))) (dNil))))) (dSeq (dIfS (dOr (dTest (d2 fGe (d2 fIx (dVar 5) (dC (.int 0))) (d2 fIx (dVar 5) (dC (.int 1))))) (dOr (dTest (d2 fGe (d2 fIx (dVar 5) (dC (.int 1))) (dVar 1))) (dAnd (dTest (d2 (fIsN true) (dVar 2) (dC .none))) (dTest (d2 fLe (dVar 5) (dVar 2)))))) (dRet (d2 fAdd (dVar 3) (dC (.int 1)))) (dNx)) (dSet 2 (dVar 5))))
def dig8 (c : Nat) : Bool := decide (48 ≤ c ∧ c ≤ 55)
theorem mem_eight {c : Nat} : decide (c ∈ [48, 49, 50, 51, 52, 53, 54, 55]) = dig8 c := by
  unfold dig8
  rw [decide_eq_decide]
  simp
  omega
theorem tieOf3 (n : Int) (a m b : Nat) : tieOf n [a, m, b] = if m = 45 ∧ dig a = true ∧ dig b = true ∧ (a : Int) < b ∧ (b : Int) - 48 < n then some ((a : Int) - 48, (b : Int) - 48) else none := rfl
theorem due_turn {n k : Int} {t : PyData} {last : Option (Int × Int)} {o5 : Option PyData} {S : Store} {w : List Nat} (hn : n ≤ 8) (hw : w.length ≤ 10000) :
    lbody [some t, some (.int n), some (tieO last), some (.int k), some (.str (sL w)), o5] S = match tieOf n w with
      | none => .ret (.int (k + 1)) S
      | some p => if notUp last p = true then .ret (.int (k + 1)) S else .nx [some t, some (.int n), some (tieO (some p)), some (.int k), some (.str (sL w)), some (tieD p)] S := by
  unfold lbody
  by_cases h3 : w.length = 3
  · obtain ⟨a, m, b, rfl⟩ : ∃ a m b, w = [a, m, b] := by
      match w, h3 with
      | [a, m, b], _ => exact ⟨a, m, b, rfl⟩
    have i0 : fIx (.str (sL [a, m, b])) (.int 0) = some (.str (sL [a])) := f_ixS hw (i := 0) rfl
    have i1 : fIx (.str (sL [a, m, b])) (.int 1) = some (.str (sL [m])) := f_ixS hw (i := 1) rfl
    have i2 : fIx (.str (sL [a, m, b])) (.int 2) = some (.str (sL [b])) := f_ixS hw (i := 2) rfl
    have l3 : fLen (.str (sL [a, m, b])) = some (.int 3) := f_lenS hw
    have ed : ∀ c, fIn true (.str (sL [c])) (.str (Str.ofString "01234567")) = some (.bool (!dig8 c)) := fun c => by
      rw [s_eight, f_notInS, mem_eight]
    have em : fNe (.str (sL [m])) (.str (Str.ofString "-")) = some (.bool (!decide (m = 45))) := by
      rw [s_dash, f_neS]
      simp
    cases ha : dig8 a with
    | false =>
      have e : tieOf n [a, m, b] = none := by
        rw [tieOf3, if_neg]
        rintro ⟨h1, h2, h3, h4, h5⟩
        unfold dig at h2
        unfold dig8 at ha
        have h2 := of_decide_eq_true h2
        have ha := of_decide_eq_false ha
        omega
      rw [e]
      simp [l3, i0, i1, i2, ed, em, neI, ha]
    | true =>
      by_cases hm : m = 45
      · subst hm
        cases hb : dig8 b with
        | false =>
          have e : tieOf n [a, 45, b] = none := by
            rw [tieOf3, if_neg]
            rintro ⟨h1, h2, h3, h4, h5⟩
            unfold dig at h3
            unfold dig8 at hb
            have h3 := of_decide_eq_true h3
            have hb := of_decide_eq_false hb
            omega
          rw [e]
          simp [l3, i0, i1, i2, ed, em, neI, ha, hb]
        | true =>
          have ha' := of_decide_eq_true ha
          have hb' := of_decide_eq_true hb
          have da : dig a = true := decide_eq_true (by omega)
          have db : dig b = true := decide_eq_true (by omega)
          have n0 := int_dig da
          have n1 := int_dig db
          by_cases h1 : a < b
          · have h1' : ¬ (b : Int) - 48 ≤ (a : Int) - 48 := by omega
            by_cases h2 : (b : Int) - 48 < n
            · have h2' : ¬ n ≤ (b : Int) - 48 := by omega
              have e : tieOf n [a, 45, b] = some ((a : Int) - 48, (b : Int) - 48) := by
                rw [tieOf3, if_pos ⟨rfl, da, db, by omega, h2⟩]
              rw [e]
              dsimp only
              cases last with
              | none => simp [l3, i0, i1, i2, ed, em, neI, ha, hb, n0, n1, ixT0, ixT1, h1', h2', fIsN, isNone, tieO, notUp, tieD]
              | some q =>
                have hle := le_tie (p := ((a : Int) - 48, (b : Int) - 48)) (q := q)
                have hN : isNone (tieD q) = false := rfl
                by_cases hu : notUp (some q) ((a : Int) - 48, (b : Int) - 48) = true
                · rw [if_pos hu]
                  have hu' := hu
                  unfold notUp at hu'
                  simp only at hu'
                  rw [hu'] at hle
                  unfold tieD at hle
                  simp [l3, i0, i1, i2, ed, em, neI, ha, hb, n0, n1, ixT0, ixT1, h1', h2', fIsN, hN, tieO]
                  simp [tieD] at hle ⊢
                  simp [hle]
                · rw [if_neg hu]
                  have hu' := hu
                  unfold notUp at hu'
                  simp only [Bool.not_eq_true] at hu'
                  rw [hu'] at hle
                  simp [l3, i0, i1, i2, ed, em, neI, ha, hb, n0, n1, ixT0, ixT1, h1', h2', fIsN, hN, tieO]
                  simp [tieD] at hle ⊢
                  simp [hle]
            · have h2' : n ≤ (b : Int) - 48 := by omega
              have e : tieOf n [a, 45, b] = none := by
                rw [tieOf3, if_neg]
                rintro ⟨_, _, _, _, h5⟩
                exact h2 h5
              rw [e]
              simp [l3, i0, i1, i2, ed, em, neI, ha, hb, n0, n1, ixT0, ixT1, h1', h2']
          · have h1' : (b : Int) - 48 ≤ (a : Int) - 48 := by omega
            have e : tieOf n [a, 45, b] = none := by
              rw [tieOf3, if_neg]
              rintro ⟨_, _, _, h4, _⟩
              omega
            rw [e]
            simp [l3, i0, i1, i2, ed, em, neI, ha, hb, n0, n1, ixT0, ixT1, h1']
      · have e : tieOf n [a, m, b] = none := by
          rw [tieOf3, if_neg]
          rintro ⟨h1, _⟩
          exact hm h1
        rw [e]
        simp [l3, i0, i1, i2, ed, em, neI, ha, hm]
  · have l3 := f_lenS hw
    have e : tieOf n w = none := by
      unfold tieOf
      split
      · exact absurd rfl h3
      · rfl
    rw [e]
    have h3' : ¬ ((w.length : Int) = 3) := by omega
    simp [l3, neI, h3']
theorem due_loop {n : Int} {t : PyData} {S : Store} (hn : n ≤ 8) : ∀ (ws : List (List Nat)) (last : Option (Int × Int)) (k : Int) (o3 o4 o5 : Option PyData), (∀ w ∈ ws, w.length ≤ 10000) →
    (∀ j, goDue n last k ws = some j → forL (.tup [3, 4]) lbody (enumD k (ws.map fun w => .str (sL w))) [some t, some (.int n), some (tieO last), o3, o4, o5] S = .ret (.int j) S) ∧
    (goDue n last k ws = none → ∃ ρ', forL (.tup [3, 4]) lbody (enumD k (ws.map fun w => .str (sL w))) [some t, some (.int n), some (tieO last), o3, o4, o5] S = .nx ρ' S)
  | [], last, k, o3, o4, o5, _ => ⟨fun j h => (by cases h), fun _ => ⟨_, rfl⟩⟩
  | w :: ws, last, k, o3, o4, o5, hw => by
    have hturn := due_turn (n := n) (k := k) (t := t) (last := last) (o5 := o5) (S := S) hn (hw w (List.mem_cons_self ..))
    have hstep : ∀ o3 o4, forL (.tup [3, 4]) lbody (enumD k ((w :: ws).map fun w => .str (sL w))) [some t, some (.int n), some (tieO last), o3, o4, o5] S =
        (match lbody [some t, some (.int n), some (tieO last), some (.int k), some (.str (sL w)), o5] S with
          | .nx ρ2 S2 => forL (.tup [3, 4]) lbody (enumD (k + 1) (ws.map fun w => .str (sL w))) ρ2 S2
          | .brk ρ2 S2 => .nx ρ2 S2
          | r => r) := fun o3 o4 => rfl
    rw [hstep, hturn]
    unfold goDue
    cases e : tieOf n w with
    | none => exact ⟨fun j h => by cases h; rfl, fun h => by cases h⟩
    | some p =>
      dsimp only
      by_cases hb : notUp last p = true
      · rw [if_pos hb, if_pos hb]
        exact ⟨fun j h => by cases h; rfl, fun h => by cases h⟩
      · rw [if_neg hb, if_neg hb]
        exact due_loop hn ws (some p) (k + 1) (some (.int k)) (some (.str (sL w))) (some (tieD p)) fun v hv => hw v (List.mem_cons_of_mem _ hv)
def dueD (o : Option Int) : PyData := match o with | some j => .int j | none => .none
theorem enum0_ok (xs : List PyData) : fEnum 0 (.list xs) = some (enumD 0 xs) := rfl
theorem due_ok {l : List Nat} (hl : l.length ≤ 5000) (S : Store) : d__law_due [.str (sL l)] S = .ok (dueD (dueOf l)) S := by
  have hlen : fLen (.str (sL l)) = some (.int l.length) := f_lenS (by omega)
  have t2 : fSl (.str (sL l)) (some 2) none = some (.str (sL (l.drop 2))) := by
    rw [f_slS (by omega), show (2 : Int) = ((2 : Nat) : Int) from rfl, cutA_drop]
  have e18 : ∀ c, fIn true (.str (sL [c])) (.str (Str.ofString "12345678")) = some (.bool (!decide (49 ≤ c ∧ c ≤ 56))) := fun c => by
    rw [s_18, f_notInS]
    congr 3
    rw [decide_eq_decide]
    simp
    omega
  unfold d__law_due dFn b__law_due env0
  match l, hl, hlen, t2 with
  | [], hl, hlen, t2 => simp [hlen, RS.fin, dueOf, dueD]
  | [a], hl, hlen, t2 => simp [hlen, RS.fin, dueOf, dueD]
  | a :: b :: r, hl, hlen, t2 =>
    have i0 : fIx (.str (sL (a :: b :: r))) (.int 0) = some (.str (sL [a])) := f_ixS (by omega) (i := 0) rfl
    have i1 : fIx (.str (sL (a :: b :: r))) (.int 1) = some (.str (sL [b])) := f_ixS (by omega) (i := 1) rfl
    have hlt : ¬ ((r.length : Int) + 1 + 1 < 2) := by omega
    simp only [List.length_cons, Int.natCast_add, Int.cast_ofNat_Int] at hlen
    have hrl : r.length ≤ 5000 := by simp at hl; omega
    have hb : fNe (.str (sL [b])) (.str (Str.ofString " ")) = some (.bool (!decide (b = 32))) := by
      rw [s_blank, f_neS]
      simp
    by_cases ha : 49 ≤ a ∧ a ≤ 56
    · by_cases h32 : b = 32
      · subst h32
        have n0 := int_dig (head18 ha)
        have e2 : fEq (.str (sL r)) (.str (Str.ofString "-")) = some (.bool (decide (r = [45]))) := by rw [s_dash, f_eqS]
        simp only [List.drop_succ_cons, List.drop_zero] at t2
        have hd : dueOf (a :: 32 :: r) = if r = [45] then none else goDue ((a : Int) - 48) none 0 (wordsOf r) := by
          show (if 49 ≤ a ∧ a ≤ 56 ∧ (32 : Nat) = 32 then _ else _) = _
          rw [if_pos ⟨ha.1, ha.2, rfl⟩]
        rw [hd]
        by_cases hr : r = [45]
        · subst hr
          simp [hlen, hlt, i0, i1, e18, ha, hb, n0, setAll, t2, e2, RS.fin, dueD]
        · rw [if_neg hr]
          have e3 : fSplit (sL r) (.str (Str.ofString ",")) = some (.list ((wordsOf r).map fun w => PyData.str (sL w))) := by rw [s_comma, f_split hrl]
          obtain ⟨q1, q2⟩ := due_loop (n := (a : Int) - 48) (t := .str (sL (a :: 32 :: r))) (S := S) (by omega) (wordsOf r) none 0 none none none (words_part hrl)
          unfold lbody at q1 q2
          simp only [tieO] at q1 q2
          cases hg : goDue ((a : Int) - 48) none 0 (wordsOf r) with
          | none =>
            obtain ⟨ρ', q⟩ := q2 hg
            simp [hlen, hlt, i0, i1, e18, ha, hb, n0, setAll, t2, e2, hr, e3, enum0_ok, q, RS.fin, dueD]
          | some j =>
            have q := q1 j hg
            simp [hlen, hlt, i0, i1, e18, ha, hb, n0, setAll, t2, e2, hr, e3, enum0_ok, q, RS.fin, dueD]
      · have hd : dueOf (a :: b :: r) = some 0 := by
          show (if 49 ≤ a ∧ a ≤ 56 ∧ b = 32 then _ else _) = _
          rw [if_neg (fun h => h32 h.2.2)]
        rw [hd]
        simp [hlen, hlt, i0, i1, e18, ha, hb, h32, RS.fin, dueD]
    · have hd : dueOf (a :: b :: r) = some 0 := by
        show (if 49 ≤ a ∧ a ≤ 56 ∧ b = 32 then _ else _) = _
        rw [if_neg (fun h => ha ⟨h.1, h.2.1⟩)]
      rw [hd]
      simp [hlen, hlt, i0, i1, e18, ha, hb, RS.fin, dueD]
end K77
namespace K77
open PySem PySem.Spec PyProof.Rows L2 PD
/-! ### joined words -/
def joinL : List (List Nat) → List Nat
  | [] => []
  | [w] => w
  | w :: v :: r => w ++ 44 :: joinL (v :: r)
def wt (ws : List (List Nat)) : Nat := (ws.map fun w => w.length + 1).sum
@[simp] theorem wt_nil : wt [] = 0 := rfl
@[simp] theorem wt_cons (w : List Nat) (ws : List (List Nat)) : wt (w :: ws) = w.length + 1 + wt ws := by simp [wt]
@[simp] theorem wt_app (a b : List (List Nat)) : wt (a ++ b) = wt a + wt b := by simp [wt]
theorem wt_take (n : Nat) (ws : List (List Nat)) : wt (ws.take n) ≤ wt ws := by
  have := congrArg wt (List.take_append_drop n ws)
  rw [wt_app] at this
  omega
theorem wt_drop (n : Nat) (ws : List (List Nat)) : wt (ws.drop n) ≤ wt ws := by
  have := congrArg wt (List.take_append_drop n ws)
  rw [wt_app] at this
  omega
theorem wt_rev (ws : List (List Nat)) : wt ws.reverse = wt ws := by
  induction ws with
  | nil => rfl
  | cons w r ih => rw [List.reverse_cons, wt_app, ih]; simp; omega
theorem wt_len (ws : List (List Nat)) : ws.length ≤ wt ws := by
  induction ws with
  | nil => simp
  | cons w r ih => simp; omega
theorem joinL_len : ∀ ws : List (List Nat), ws ≠ [] → (joinL ws).length + 1 = wt ws
  | [], h => absurd rfl h
  | [w], _ => by simp [joinL]
  | w :: v :: r, _ => by
    have := joinL_len (v :: r) (by simp)
    simp only [joinL, List.length_append, List.length_cons, wt_cons] at this ⊢
    omega
theorem joinL_le (ws : List (List Nat)) : (joinL ws).length ≤ wt ws := by
  cases ws with
  | nil => simp [joinL]
  | cons w r =>
    have := joinL_len (w :: r) (by simp)
    omega
theorem join_sL : ∀ ws : List (List Nat), Txt.join comma (ws.map sL) = sL (joinL ws) := by
  intro ws
  show Builtin.Str.glued comma _ = _
  rw [StrLaws.glued_eq_join]
  induction ws with
  | nil => rfl
  | cons w r ih =>
    cases r with
    | nil => rfl
    | cons v r =>
      show sL w ++ comma ++ Str.join comma (sL v :: r.map sL) = _
      rw [show (sL v :: r.map sL) = (v :: r).map sL from rfl, ih, comma, sL_app, sL_app]
      simp [joinL]
theorem join_words (r : List Nat) : joinL (wordsOf r) = r := by
  have h := join_sL (wordsOf r)
  have e : (wordsOf r).map sL = Txt.split (sL r) comma := by
    unfold wordsOf
    rw [List.map_map]
    conv => rhs; rw [← List.map_id (Txt.split (sL r) comma)]
    apply List.map_congr_left
    intro z _
    exact (sL_of z).symm
  rw [e] at h
  have h2 : Txt.join comma (Txt.split (sL r) comma) = sL r := by
    show Builtin.Str.glued comma _ = _
    rw [StrLaws.glued_eq_join, StrLaws.join_split]
  rw [h2] at h
  exact (sL_inj.mp h).symm
theorem words_ne (r : List Nat) : wordsOf r ≠ [] := by
  intro h
  have e : Txt.split (sL r) comma = [] := by
    unfold wordsOf at h
    exact List.map_eq_nil_iff.mp h
  have hj := join_words r
  rw [h] at hj
  cases r with
  | cons a r => simp [joinL] at hj
  | nil =>
    rw [show Txt.split (sL []) comma = [sL []] from rfl] at e
    cases e
theorem words_wt (r : List Nat) : wt (wordsOf r) = r.length + 1 := by
  have h := joinL_len (wordsOf r) (words_ne r)
  rw [join_words] at h
  omega
def strL (ws : List (List Nat)) : PyData := .list (ws.map fun w => .str (sL w))
theorem f_joinL {ws : List (List Nat)} (h : wt ws ≤ 10000) : fJoin (Str.ofString ",") (strL ws) = some (.str (sL (joinL ws))) := by
  unfold strL
  rw [show (ws.map fun w => PyData.str (sL w)) = (ws.map sL).map PyData.str by rw [List.map_map]; rfl]
  show ((strsOf ((ws.map sL).map PyData.str)).bind fun ys => _) = _
  rw [strsOf_strs]
  simp only [Option.bind_some]
  rw [if_pos, s_comma, join_sL]
  rw [decide_eq_true_iff]
  have e : (((ws.map sL).map fun z => z.length).sum + (ws.map sL).length * (Str.ofString ",").length) = wt ws := by
    rw [s_comma]
    clear h
    induction ws with
    | nil => rfl
    | cons w r ih =>
      have hc : comma.length = 1 := rfl
      simp only [List.map_cons, List.sum_cons, List.length_cons, wt_cons, sL_len, hc, List.length_map] at ih ⊢
      omega
  rw [e]
  omega
/-! ### the law's own writing -/
def tieT (p : Int × Int) : List Nat := [48 + p.1.toNat, 45, 48 + p.2.toNat]
def Few (p : Int × Int) : Prop := 0 ≤ p.1 ∧ p.1 ≤ 9 ∧ 0 ≤ p.2 ∧ p.2 ≤ 9
def textL (n : Int) (ts : List (Int × Int)) : List Nat := (48 + n.toNat) :: 32 :: (if ts = [] then [45] else joinL (ts.map tieT))
theorem f_strI {i : Int} (h0 : 0 ≤ i) (h1 : i ≤ 9) : fStr (.int i) = some (.str (sL [48 + i.toNat])) := by
  have h : i = 0 ∨ i = 1 ∨ i = 2 ∨ i = 3 ∨ i = 4 ∨ i = 5 ∨ i = 6 ∨ i = 7 ∨ i = 8 ∨ i = 9 := by omega
  have e : ∀ i : Int, i.natAbs.log2 < 1920 → Str.ofString (toString i) = sL [48 + i.toNat] → fStr (.int i) = some (.str (sL [48 + i.toNat])) := fun i h1 h2 => by
    show (if decide (i.natAbs.log2 < 1920) then _ else none) = _
    rw [if_pos (decide_eq_true h1), h2]
  rcases h with rfl | rfl | rfl | rfl | rfl | rfl | rfl | rfl | rfl | rfl <;> exact e _ (by decide +kernel) (by decide +kernel)
theorem wt_ties (ts : List (Int × Int)) : wt (ts.map tieT) = 4 * ts.length := by
  induction ts with
  | nil => rfl
  | cons p r ih => simp [ih, tieT]; omega
def tieF (d : PyData) : PyData := match d with | .tuple [.int a, .int b] => .str (sL (tieT (a, b))) | _ => .none
theorem text_ok {n : Int} {ts : List (Int × Int)} (hn : 0 ≤ n ∧ n ≤ 9) (ht : ∀ p ∈ ts, Few p) (hl : ts.length ≤ 2000) (S : Store) : d__law_text [webD n ts] S = .ok (.str (sL (textL n ts))) S := by
  unfold d__law_text dFn b__law_text env0
  have i0 : fIx (webD n ts) (.int 0) = some (.int n) := rfl
  have i1 : fIx (webD n ts) (.int 1) = some (.tuple (ts.map tieD)) := rfl
  have hseq : seqD (.tuple (ts.map tieD)) = some (ts.map tieD) := rfl
  have hc := comp_map (t := .tup [2, 3]) (de := (d2 fAdd (d2 fAdd (d1 fStr (dVar 2)) (dC (.str "-"))) (d1 fStr (dVar 3)))) (ρ := [some (webD n ts), none, none, none]) (S := S) (f := tieF) (ds := ts.map tieD) (acc := []) (fun d hd => by
    obtain ⟨p, hp, rfl⟩ := List.mem_map.mp hd
    obtain ⟨h1, h2, h3, h4⟩ := ht p hp
    refine ⟨[some (webD n ts), none, some (.int p.1), some (.int p.2)], rfl, ?_⟩
    have a1 : fAdd (.str (sL [48 + p.1.toNat])) (.str (Str.ofString "-")) = some (.str (sL [48 + p.1.toNat, 45])) := by rw [s_dash, f_addS (by simp)]; rfl
    have a2 : fAdd (.str (sL [48 + p.1.toNat, 45])) (.str (sL [48 + p.2.toNat])) = some (.str (sL (tieT p))) := by rw [f_addS (by simp)]; rfl
    simp [f_strI h1 h2, f_strI h3 h4, a1, a2, tieF, tieD])
  have hm : (ts.map tieD).map tieF = (ts.map tieT).map fun w => PyData.str (sL w) := by
    rw [List.map_map, List.map_map]
    rfl
  rw [List.nil_append, hm] at hc
  have hw : wt (ts.map tieT) ≤ 8000 := by rw [wt_ties]; omega
  have hj := f_joinL (ws := ts.map tieT) (by omega)
  unfold strL at hj
  have hjl := joinL_le (ts.map tieT)
  have a1 : fAdd (.str (sL [48 + n.toNat])) (.str (Str.ofString " ")) = some (.str (sL [48 + n.toNat, 32])) := by rw [s_blank, f_addS (by simp)]; rfl
  by_cases h0 : ts = []
  · subst h0
    have a2 : fAdd (.str (sL [48 + n.toNat, 32])) (.str (Str.ofString "-")) = some (.str (sL (textL n []))) := by rw [s_dash, f_addS (by simp)]; rfl
    simp only [List.map_nil] at hc hj i1 hseq
    simp [i0, i1, hseq, hc, hj, f_strI hn.1 hn.2, a1, a2, RS.fin]
  · have a2 : fAdd (.str (sL [48 + n.toNat, 32])) (.str (sL (joinL (ts.map tieT)))) = some (.str (sL (textL n ts))) := by
      rw [f_addS (by simp; omega)]
      unfold textL
      rw [if_neg h0]
      rfl
    have hpos : 0 < ts.length := List.length_pos_iff.mpr h0
    simp only [List.map_map] at hc hj
    simp [i0, i1, hseq, hc, hj, f_strI hn.1 hn.2, a1, a2, hpos, RS.fin]
theorem textL_len (n : Int) (ts : List (Int × Int)) : (textL n ts).length ≤ 3 + 4 * ts.length := by
  unfold textL
  split
  · simp
  · have := joinL_le (ts.map tieT)
    rw [wt_ties] at this
    simp
    omega
/-! ### what is read is written the same -/
theorem tieOf_back {n : Int} {w : List Nat} {p : Int × Int} (h : tieOf n w = some p) : tieT p = w ∧ Few p ∧ p.2 < n := by
  unfold tieOf at h
  split at h
  · rename_i a m b
    split at h
    · rename_i hc
      cases h
      obtain ⟨rfl, h2, h3, h4, h5⟩ := hc
      have h2 := of_decide_eq_true h2
      have h3 := of_decide_eq_true h3
      refine ⟨?_, ⟨?_, ?_, ?_, ?_⟩, ?_⟩
      · unfold tieT
        simp
        omega
      all_goals (simp; omega)
    · cases h
  · cases h
theorem goDue_none {n : Int} : ∀ {ws : List (List Nat)} {last : Option (Int × Int)} {k : Int}, goDue n last k ws = none → (tiesOf n ws).map tieT = ws ∧ (∀ p ∈ tiesOf n ws, Few p) ∧ (tiesOf n ws).length = ws.length
  | [], _, _, _ => ⟨rfl, (fun p hp => by cases hp), rfl⟩
  | w :: ws, last, k, h => by
    unfold goDue at h
    cases e : tieOf n w with
    | none => rw [e] at h; cases h
    | some p =>
      rw [e] at h
      dsimp only at h
      split at h
      · cases h
      · obtain ⟨q1, q2, q3⟩ := goDue_none h
        obtain ⟨b1, b2, _⟩ := tieOf_back e
        unfold tiesOf at q1 q2 q3 ⊢
        rw [List.filterMap_cons, e]
        refine ⟨by simp [b1, q1], fun q hq => ?_, by simp [q3]⟩
        rcases List.mem_cons.mp hq with rfl | hq
        · exact b2
        · exact q2 q hq
theorem web_back {l : List Nat} (hl : l.length ≤ 1900) (h : dueOf l = none) : (0 ≤ (webOf l).1 ∧ (webOf l).1 ≤ 9) ∧ (∀ p ∈ (webOf l).2, Few p) ∧ (webOf l).2.length ≤ 2000 ∧ textL (webOf l).1 (webOf l).2 = l := by
  match l, hl, h with
  | [], hl, h => cases h
  | [a], hl, h => cases h
  | a :: b :: r, hl, h =>
    have h' : (if 49 ≤ a ∧ a ≤ 56 ∧ b = 32 then (if r = [45] then none else goDue ((a : Int) - 48) none 0 (wordsOf r)) else some 0) = none := h
    by_cases hc : 49 ≤ a ∧ a ≤ 56 ∧ b = 32
    · rw [if_pos hc] at h'
      obtain ⟨h1, h2, rfl⟩ := hc
      have ea : 48 + ((a : Int) - 48).toNat = a := by omega
      refine ⟨by simp only [webOf]; omega, ?_⟩
      by_cases hr : r = [45]
      · subst hr
        simp only [webOf, if_true]
        exact ⟨fun p hp => (by cases hp), by simp, by unfold textL; rw [if_pos rfl, ea]⟩
      · rw [if_neg hr] at h'
        obtain ⟨q1, q2, q3⟩ := goDue_none h'
        simp only [webOf, if_neg hr]
        have hwl := wt_len (wordsOf r)
        rw [words_wt] at hwl
        refine ⟨q2, by rw [q3]; simp at hl; omega, ?_⟩
        unfold textL
        rw [if_neg, q1, join_words, ea]
        intro e
        rw [e] at q3
        exact words_ne r (List.length_eq_zero_iff.mp q3.symm)
    · rw [if_neg hc] at h'
      cases h'
/-! ### the tape -/
theorem tape_ok {ns : List Int} (hl : ns.length ≤ 63) : d__law_tape [.list (ns.map .int)] [] = .ok (.list [.list ((ns.map fun i => if i < 0 then -i else i).map .int), .int 0, .int 0, .int (31 + ns.length), .int 0]) [] := by
  unfold d__law_tape dFn b__law_tape env0
  have hs : fSlL (.list (ns.map .int)) none (some 63) = some (.list (ns.map .int)) := by
    show some (PyData.list (cutA _ _ _)) = _
    rw [show (63 : Int) = ((63 : Nat) : Int) from rfl, cutA_take, List.take_of_length_le (by simpa using hl)]
  have hc := comp_map (t := .nm 2) (de := (d1 fAbs (d1 fInt (dVar 2)))) (ρ := [some (.list (ns.map .int)), none, none]) (S := []) (f := fun d => match d with | .int i => .int (if i < 0 then -i else i) | d => d) (ds := ns.map .int) (acc := []) (fun d hd => by
    obtain ⟨i, hi, rfl⟩ := List.mem_map.mp hd
    refine ⟨[some (.list (ns.map .int)), none, some (.int i)], rfl, ?_⟩
    have : fAbs (.int i) = some (.int (if i < 0 then -i else i)) := rfl
    simp [this])
  rw [List.nil_append, List.map_map] at hc
  have hl' : lstD (.list (ns.map .int)) = some (ns.map .int) := rfl
  have e : (ns.map ((fun d => match d with | .int i => PyData.int (if i < 0 then -i else i) | d => d) ∘ PyData.int)) = (ns.map fun i => if i < 0 then -i else i).map .int := by rw [List.map_map]; rfl
  rw [e] at hc
  simp [hs, hl', hc, RS.fin]
theorem tape0 (ns : List Int) : TapeOk [[.list ((ns.map fun i => if i < 0 then -i else i).map .int), .int 0, .int 0, .int (31 + ns.length), .int 0]] :=
  ⟨_, 0, 0, _, 0, rfl, fun z hz => by
    obtain ⟨i, _, rfl⟩ := List.mem_map.mp hz
    split <;> omega, by omega⟩
end K77
namespace K77
open PySem PySem.Spec PyProof.Rows L2 PD
/-! ### a drawn web -/
theorem all_map {α : Type} {f : α → PyData} {P : α → Prop} : ∀ {xs : List PyData}, (∀ x ∈ xs, ∃ a, x = f a ∧ P a) → ∃ as : List α, xs = as.map f ∧ ∀ a ∈ as, P a
  | [], _ => ⟨[], rfl, fun a h => by cases h⟩
  | x :: xs, h => by
    obtain ⟨a, rfl, ha⟩ := h x (List.mem_cons_self ..)
    obtain ⟨as, rfl, hs⟩ := all_map (xs := xs) fun y hy => h y (List.mem_cons_of_mem _ hy)
    exact ⟨a :: as, rfl, fun b hb => by
      rcases List.mem_cons.mp hb with rfl | hb
      · exact ha
      · exact hs b hb⟩
theorem for_invN {t : Tg} {body : DS} {I : Nat → PD.Env → Store → Prop} : ∀ {ds : List PyData} {k : Nat} {ρ : PD.Env} {S : Store}, I k ρ S → (∀ j d, ds[j]? = some d → ∀ ρ S, I (k + j) ρ S → ∃ ρ1, t.bind d ρ = some ρ1 ∧ ∃ ρ2 S2, body ρ1 S = .nx ρ2 S2 ∧ I (k + j + 1) ρ2 S2) → ∃ ρ' S', forL t body ds ρ S = .nx ρ' S' ∧ I (k + ds.length) ρ' S'
  | [], k, ρ, S, hi, _ => ⟨ρ, S, forL_nil .., hi⟩
  | d :: ds, k, ρ, S, hi, h => by
    obtain ⟨ρ1, e1, ρ2, S2, e2, i2⟩ := h 0 d rfl ρ S hi
    rw [forL_cons, e1]
    simp only [e2]
    obtain ⟨ρ', S', q1, q2⟩ := for_invN (k := k + 1) i2 fun j d' hd ρ S hi => by
      have := h (j + 1) d' (by simpa using hd) ρ S (by rw [show k + (j + 1) = k + 1 + j from by omega]; exact hi)
      rw [show k + (j + 1) + 1 = k + 1 + j + 1 from by omega] at this
      exact this
    exact ⟨ρ', S', q1, by rw [List.length_cons, show k + (ds.length + 1) = k + 1 + ds.length from by omega]; exact q2⟩
def Tie (n : Int) (p : Int × Int) : Prop := 0 ≤ p.1 ∧ p.1 < p.2 ∧ p.2 < n
theorem rngD_get {lo : Int} {n j : Nat} {d : PyData} (h : (rngD lo n)[j]? = some d) : d = .int (lo + j) ∧ j < n := by
  unfold rngD at h
  rw [List.getElem?_map] at h
  cases e : (List.range n)[j]? with
  | none => rw [e] at h; cases h
  | some i =>
    rw [e] at h
    have := List.getElem?_eq_some_iff.mp e
    obtain ⟨h1, h2⟩ := this
    rw [List.getElem_range] at h2
    subst h2
    rw [List.length_range] at h1
    exact ⟨(Option.some.inj h).symm, h1⟩
theorem rngD_mem {lo : Int} {n : Nat} {d : PyData} (h : d ∈ rngD lo n) : ∃ i : Int, d = .int i ∧ lo ≤ i ∧ i < lo + n := by
  unfold rngD at h
  obtain ⟨i, hi, rfl⟩ := List.mem_map.mp h
  have := List.mem_range.mp hi
  exact ⟨lo + i, rfl, by omega, by omega⟩
@[simp] theorem rngD_len {lo : Int} {n : Nat} : (rngD lo n).length = n := by simp [rngD]
theorem cR_small {i : Int} (h1 : -1000 ≤ i) (h2 : i ≤ 1000) : cR i = true := by
  unfold cR
  rw [decide_eq_true_iff]
  omega
@[simp] theorem ap_rng1 {a : DE} {ρ : PD.Env} {S : Store} : dRng1 a ρ S = (a ρ S).bind fun x S1 => match x with | .int j => if cR j && sz j.toNat then .ok (rngD 0 j.toNat) S1 else .bad | _ => .bad := rfl
@[simp] theorem ap_rng2 {a b : DE} {ρ : PD.Env} {S : Store} : dRng2 a b ρ S = (a ρ S).bind fun x S1 => (b ρ S1).bind fun y S2 => match x, y with | .int i, .int j => if cR i && cR j && sz (j - i).toNat then .ok (rngD i (j - i).toNat) S2 else .bad | _, _ => .bad := rfl
theorem fExt_ok {xs ys : List PyData} (h : xs.length + ys.length ≤ 10000) : fExt xs (.list ys) = some (.list (xs ++ ys)) := by
  unfold fExt
  simp [sz_small h]
theorem web_step {most n j share : Int} {xs zs : PyData} {ts : List PyData} {o6 : Option PyData} {S S' : Store} (c1 : cR (j + 1) = true) (c2 : cR n = true) (c3 : sz (n - (j + 1)).toNat = true)
  (q1 : compL (.nm 6) (dTest (d2 fEq (dCall d__law_pick (dCons dSt (dCons (dVar 4) (dNil)))) (dC (.int 0)))) (dTup (dCons (dVar 5) (dCons (dVar 6) (dNil)))) [some .none, some (.int most), some (.int n), some (.list ts), some (.int share), some (.int j), o6] [] (rngD (j + 1) (n - (j + 1)).toNat) S = .ok xs S')
  (hx : fExt ts xs = some zs) :
  (dExt 3 (dComp (dRng2 (d2 fAdd (dVar 5) (dC (.int 1))) (dVar 2)) (.nm 6) (dTest (d2 fEq (dCall d__law_pick (dCons dSt (dCons (dVar 4) (dNil)))) (dC (.int 0)))) (dTup (dCons (dVar 5) (dCons (dVar 6) (dNil)))))) [some .none, some (.int most), some (.int n), some (.list ts), some (.int share), some (.int j), o6] S = .nx [some .none, some (.int most), some (.int n), some zs, some (.int share), some (.int j), o6] S' := by
  simp [onLst, c1, c2, c3, q1, putO, hx]
theorem web_ok {S : Store} {most : Int} (h : TapeOk S) (h1 : 1 ≤ most) (h2 : most ≤ 8) : ∃ n ts S', d__law_web [.none, .int most] S = .ok (webD n ts) S' ∧ TapeOk S' ∧ 1 ≤ n ∧ n ≤ most ∧ (∀ p ∈ ts, Tie n p) ∧ ts.length ≤ 64 := by
  obtain ⟨r, S1, e1, ht1, r0, r1⟩ := pick_ok h h1 (by omega)
  obtain ⟨sh, S2, e2, ht2, hsh⟩ := any_ok (xs := [.int 2, .int 2, .int 3, .int 9]) ht1 (by simp) (by decide)
  obtain ⟨share, rfl, hs1, hs2⟩ : ∃ i : Int, sh = .int i ∧ 1 ≤ i ∧ i ≤ 9 := by
    simp at hsh
    rcases hsh with rfl | rfl | rfl | rfl <;> exact ⟨_, rfl, by decide, by decide⟩
  have key := for_invN (t := .nm 5) (body := (dExt 3 (dComp (dRng2 (d2 fAdd (dVar 5) (dC (.int 1))) (dVar 2)) (.nm 6) (dTest (d2 fEq (dCall d__law_pick (dCons dSt (dCons (dVar 4) (dNil)))) (dC (.int 0)))) (dTup (dCons (dVar 5) (dCons (dVar 6) (dNil)))))))
    (I := fun k ρ S => TapeOk S ∧ ∃ ts o5 o6, ρ = [some .none, some (.int most), some (.int (1 + r)), some (.list (ts.map tieD)), some (.int share), o5, o6] ∧ (∀ p ∈ ts, Tie (1 + r) p) ∧ ts.length ≤ 8 * k)
    (ds := rngD 0 (1 + r).toNat) (k := 0) (ρ := [some .none, some (.int most), some (.int (1 + r)), some (.list []), some (.int share), none, none]) (S := S2) ⟨ht2, [], none, none, rfl, fun p hp => (by cases hp), by simp⟩ (by
    rintro j d hd ρ S ⟨ht, ts, o5, o6, rfl, hts, hlen⟩
    obtain ⟨rfl, hj⟩ := rngD_get hd
    refine ⟨_, rfl, ?_⟩
    obtain ⟨xs, S', q1, q2, q3, q4⟩ := comp_inv (t := .nm 6) (tt := (dTest (d2 fEq (dCall d__law_pick (dCons dSt (dCons (dVar 4) (dNil)))) (dC (.int 0))))) (de := (dTup (dCons (dVar 5) (dCons (dVar 6) (dNil)))))
      (ρ := [some .none, some (.int most), some (.int (1 + r)), some (.list (ts.map tieD)), some (.int share), some (.int (0 + (j : Int))), o6]) (I := TapeOk) (E := fun x => ∃ p, x = tieD p ∧ Tie (1 + r) p) (ds := rngD (0 + (j : Int) + 1) ((1 + r) - (0 + (j : Int) + 1)).toNat) (acc := []) ht (fun x hx => by cases hx) (fun d hd S hS => by
        obtain ⟨i, rfl, i1, i2⟩ := rngD_mem hd
        refine ⟨_, rfl, ?_⟩
        obtain ⟨x, S3, f1, f2, f3, f4⟩ := pick_ok hS hs1 (by omega)
        refine ⟨decide (x = 0), S3, by simp [f1], f2, fun _ => ⟨tieD (0 + (j : Int), i), S3, by simp [sz_small, tieD], f2, _, rfl, by unfold Tie; simp; omega⟩⟩)
    obtain ⟨us, rfl, hus⟩ := all_map q3
    have hul : us.length ≤ 8 := by simp at q4; omega
    have hlj : ts.length ≤ 64 := by omega
    have c1 : cR (0 + (j : Int) + 1) = true := cR_small (by omega) (by omega)
    have c2 : cR (1 + r) = true := cR_small (by omega) (by omega)
    have c3 : sz ((1 + r) - (0 + (j : Int) + 1)).toNat = true := sz_small (by omega)
    refine ⟨[some .none, some (.int most), some (.int (1 + r)), some (.list ((ts ++ us).map tieD)), some (.int share), some (.int (0 + (j : Int))), o6], S', ?_, q2, ts ++ us, _, _, rfl, fun p hp => ?_, by simp; omega⟩
    · have hx := fExt_ok (xs := ts.map tieD) (ys := us.map tieD) (by simp; omega)
      rw [← List.map_append] at hx
      exact web_step c1 c2 c3 q1 hx
    · rcases List.mem_append.mp hp with hp | hp
      · exact hts p hp
      · exact hus p hp)
  obtain ⟨ρ', S', q, ht', ts, o5, o6, rfl, hts, hlen⟩ := key
  refine ⟨1 + r, ts, S', ?_, ht', by omega, by omega, hts, by simp at hlen; omega⟩
  have c2 : cR (1 + r) = true := cR_small (by omega) (by omega)
  have c3 : sz (1 + r).toNat = true := sz_small (by omega)
  have hl : ts.length ≤ 64 := by simp at hlen; omega
  unfold d__law_web dFn b__law_web env0
  simp [e1, e2, setAll, sz_small, c2, c3, q, RS.fin, webD]
theorem few_of {n : Int} {ts : List (Int × Int)} (hn : n ≤ 8) (h : ∀ p ∈ ts, Tie n p) : ∀ p ∈ ts, Few p := fun p hp => by
  obtain ⟨h1, h2, h3⟩ := h p hp
  unfold Few
  omega
/-! ### what an expression comes to: typing rules -/
def Tot (e : DE) (ρ : PD.Env) (P : PyData → Prop) : Prop := ∀ S, TapeOk S → ∃ x S', e ρ S = .ok x S' ∧ TapeOk S' ∧ P x
def TotA (e : DA) (ρ : PD.Env) (P : List PyData → Prop) : Prop := ∀ S, TapeOk S → ∃ x S', e ρ S = .ok x S' ∧ TapeOk S' ∧ P x
def TotP (e : DP) (ρ : PD.Env) : Prop := ∀ S, TapeOk S → ∃ x S', e ρ S = .ok x S' ∧ TapeOk S'
def SB (m : Nat) (d : PyData) : Prop := ∃ l : List Nat, d = .str (sL l) ∧ l.length ≤ m
def LB (k : Nat) (d : PyData) : Prop := ∃ ws : List (List Nat), d = strL ws ∧ wt ws ≤ k
theorem tot_c {d : PyData} {ρ : PD.Env} {P : PyData → Prop} (h : P d) : Tot (dC d) ρ P := fun S hS => ⟨d, S, rfl, hS, h⟩
theorem tot_var {i : Nat} {d : PyData} {ρ : PD.Env} {P : PyData → Prop} (e : ρ.getD i none = some d) (h : P d) : Tot (dVar i) ρ P := fun S hS => ⟨d, S, by simp only [ap_var, e, ofO_some], hS, h⟩
theorem tot_imp {e : DE} {ρ : PD.Env} {P Q : PyData → Prop} (h : Tot e ρ P) (f : ∀ x, P x → Q x) : Tot e ρ Q := fun S hS => let ⟨x, S', a, b, c⟩ := h S hS; ⟨x, S', a, b, f x c⟩
theorem tot_nil {ρ : PD.Env} {P : PyData → Prop} : TotA dNil ρ fun xs => xs.length = 0 ∧ ∀ x ∈ xs, P x := fun S hS => ⟨[], S, rfl, hS, rfl, fun x h => by cases h⟩
theorem tot_cons {a : DE} {r : DA} {ρ : PD.Env} {P : PyData → Prop} {k : Nat} (h1 : Tot a ρ P) (h2 : TotA r ρ fun xs => xs.length = k ∧ ∀ x ∈ xs, P x) : TotA (dCons a r) ρ fun xs => xs.length = k + 1 ∧ ∀ x ∈ xs, P x := fun S hS => by
  obtain ⟨x, S1, e1, t1, p1⟩ := h1 S hS
  obtain ⟨xs, S2, e2, t2, p2, p3⟩ := h2 S1 t1
  refine ⟨x :: xs, S2, by simp [e1, e2], t2, by simp [p2], fun y hy => ?_⟩
  rcases List.mem_cons.mp hy with rfl | hy
  · exact p1
  · exact p3 y hy
def LP (P : PyData → Prop) (k : Nat) (d : PyData) : Prop := ∃ xs, d = .list xs ∧ xs.length = k ∧ ∀ x ∈ xs, P x
theorem tot_lst {r : DA} {ρ : PD.Env} {P : PyData → Prop} {k : Nat} (h : TotA r ρ fun xs => xs.length = k ∧ ∀ x ∈ xs, P x) (hk : k ≤ 10000 := by decide) : Tot (dLst r) ρ (LP P k) := fun S hS => by
  obtain ⟨xs, S1, e1, t1, p1, p2⟩ := h S hS
  exact ⟨.list xs, S1, by simp [e1, p1, sz_small hk], t1, xs, rfl, p1, p2⟩
theorem tot_addL {a b : DE} {ρ : PD.Env} {P : PyData → Prop} {k j : Nat} (h1 : Tot a ρ (LP P k)) (h2 : Tot b ρ (LP P j)) (hk : k + j ≤ 10000 := by decide) : Tot (d2 fAddL a b) ρ (LP P (k + j)) := fun S hS => by
  obtain ⟨_, S1, e1, t1, xs, rfl, p1, p2⟩ := h1 S hS
  obtain ⟨_, S2, e2, t2, ys, rfl, q1, q2⟩ := h2 S1 t1
  have : fAddL (.list xs) (.list ys) = some (.list (xs ++ ys)) := by
    show (if sz (xs.length + ys.length) then _ else none) = _
    rw [p1, q1, sz_small hk]
    rfl
  refine ⟨.list (xs ++ ys), S2, by simp [e1, e2, this], t2, _, rfl, by simp [p1, q1], fun y hy => ?_⟩
  rcases List.mem_append.mp hy with hy | hy
  · exact p2 y hy
  · exact q2 y hy
theorem tot_addS {a b : DE} {ρ : PD.Env} {m n : Nat} (h1 : Tot a ρ (SB m)) (h2 : Tot b ρ (SB n)) (hk : m + n ≤ 10000 := by decide) : Tot (d2 fAdd a b) ρ (SB (m + n)) := fun S hS => by
  obtain ⟨_, S1, e1, t1, xs, rfl, p1⟩ := h1 S hS
  obtain ⟨_, S2, e2, t2, ys, rfl, q1⟩ := h2 S1 t1
  exact ⟨.str (sL (xs ++ ys)), S2, by simp [e1, e2, f_addS (show xs.length + ys.length ≤ 10000 by omega)], t2, _, rfl, by simp; omega⟩
theorem cutA_le {α : Type} (l : List α) (lo hi : Option Int) : (cutA l lo hi).length ≤ l.length := by
  unfold cutA
  rw [List.length_take, List.length_drop]
  omega
theorem totp_no {ρ : PD.Env} : TotP pNo ρ := fun S hS => ⟨none, S, rfl, hS⟩
theorem totp_sm {a : DE} {ρ : PD.Env} (h : Tot a ρ fun d => ∃ i, d = .int i) : TotP (pSm a) ρ := fun S hS => by
  obtain ⟨_, S1, e1, t1, i, rfl⟩ := h S hS
  exact ⟨some i, S1, by simp [e1], t1⟩
theorem tot_slS {a : DE} {l h : DP} {ρ : PD.Env} {m : Nat} (h1 : Tot a ρ (SB m)) (h2 : TotP l ρ) (h3 : TotP h ρ) (hk : m ≤ 10000 := by decide) : Tot (dSl fSl a l h) ρ (SB m) := fun S hS => by
  obtain ⟨_, S1, e1, t1, xs, rfl, p1⟩ := h1 S hS
  obtain ⟨lo, S2, e2, t2⟩ := h2 S1 t1
  obtain ⟨hi, S3, e3, t3⟩ := h3 S2 t2
  exact ⟨.str (sL (cutA xs lo hi)), S3, by simp [e1, e2, e3, f_slS (show xs.length ≤ 10000 by omega)], t3, _, rfl, Nat.le_trans (cutA_le xs lo hi) p1⟩
theorem cutA_map {α β : Type} (f : α → β) (l : List α) (lo hi : Option Int) : cutA (l.map f) lo hi = (cutA l lo hi).map f := by
  unfold cutA
  rw [List.length_map, List.map_take, List.map_drop]
theorem tot_slL {a : DE} {l h : DP} {ρ : PD.Env} {k : Nat} (h1 : Tot a ρ (LB k)) (h2 : TotP l ρ) (h3 : TotP h ρ) : Tot (dSl fSl a l h) ρ (LB k) := fun S hS => by
  obtain ⟨_, S1, e1, t1, xs, rfl, p1⟩ := h1 S hS
  obtain ⟨lo, S2, e2, t2⟩ := h2 S1 t1
  obtain ⟨hi, S3, e3, t3⟩ := h3 S2 t2
  have : fSl (strL xs) lo hi = some (strL (cutA xs lo hi)) := by
    show some (PyData.list (cutA _ lo hi)) = _
    rw [cutA_map]
    rfl
  exact ⟨strL (cutA xs lo hi), S3, by simp [e1, e2, e3, this], t3, _, rfl, Nat.le_trans (Nat.le_trans (wt_take _ _) (wt_drop _ _)) p1⟩
theorem tot_addW {a b : DE} {ρ : PD.Env} {k j : Nat} (h1 : Tot a ρ (LB k)) (h2 : Tot b ρ (LB j)) (hk : k + j ≤ 10000 := by decide) : Tot (d2 fAdd a b) ρ (LB (k + j)) := fun S hS => by
  obtain ⟨_, S1, e1, t1, xs, rfl, p1⟩ := h1 S hS
  obtain ⟨_, S2, e2, t2, ys, rfl, q1⟩ := h2 S1 t1
  have w1 := wt_len xs
  have w2 := wt_len ys
  have : fAdd (strL xs) (strL ys) = some (strL (xs ++ ys)) := by
    show (if sz ((xs.map fun w => PyData.str (sL w)).length + (ys.map fun w => PyData.str (sL w)).length) then some (PyData.list _) else none) = _
    rw [List.length_map, List.length_map, sz_small (by omega), ← List.map_append]
    rfl
  exact ⟨strL (xs ++ ys), S2, by simp [e1, e2, this], t2, _, rfl, by simp; omega⟩
theorem tot_join {b : DE} {ρ : PD.Env} {k : Nat} (h : Tot b ρ (LB k)) (hk : k ≤ 10000 := by decide) : Tot (dM1 fJoin (dC (.str ",")) b) ρ (SB k) := fun S hS => by
  obtain ⟨_, S1, e1, t1, ws, rfl, p1⟩ := h S hS
  exact ⟨.str (sL (joinL ws)), S1, by simp [e1, f_joinL (show wt ws ≤ 10000 by omega)], t1, _, rfl, Nat.le_trans (joinL_le ws) p1⟩
theorem tot_revL {b : DE} {ρ : PD.Env} {k : Nat} (h : Tot b ρ (LB k)) : Tot (d1 fRevA b) ρ (LB k) := fun S hS => by
  obtain ⟨_, S1, e1, t1, ws, rfl, p1⟩ := h S hS
  have : fRevA (strL ws) = some (strL ws.reverse) := by
    show some (PyData.list (List.reverse _)) = _
    rw [← List.map_reverse]
    rfl
  exact ⟨strL ws.reverse, S1, by simp [e1, this], t1, _, rfl, by rw [wt_rev]; exact p1⟩
theorem tot_revS {b : DE} {ρ : PD.Env} {k : Nat} (h : Tot b ρ (SB k)) (hk : k ≤ 10000 := by decide) : Tot (d1 fRevA b) ρ (SB k) := fun S hS => by
  obtain ⟨_, S1, e1, t1, l, rfl, p1⟩ := h S hS
  have : fRevA (.str (sL l)) = some (.str (sL l.reverse)) := by
    show (if sz (sL l).length then some (PyData.str (revS (sL l))) else none) = _
    rw [sL_len, sz_small (by omega)]
    rfl
  exact ⟨.str (sL l.reverse), S1, by simp [e1, this], t1, _, rfl, by simpa using p1⟩
theorem tot_lstW {a : DE} {ρ : PD.Env} {k : Nat} (h : Tot a ρ (SB k)) : Tot (dLst (dCons a dNil)) ρ (LB (k + 1)) := fun S hS => by
  obtain ⟨_, S1, e1, t1, l, rfl, p1⟩ := h S hS
  exact ⟨strL [l], S1, by simp [e1, sz_small, strL], t1, [l], rfl, by simp; omega⟩
theorem sb_str {z : Str} {m : Nat} (h : z.length ≤ m) : SB m (.str z) := ⟨z.cps.toList, by rw [← sL_of], by simpa [Str.length] using h⟩
theorem sb_mono {m n : Nat} (h : m ≤ n) : ∀ x, SB m x → SB n x := fun x ⟨l, a, b⟩ => ⟨l, a, Nat.le_trans b h⟩
end K77
namespace K77
open PySem PySem.Spec PyProof.Rows L2 PD
/-! ### a text with something otherwise -/
def Ret (b : DS) (ρ : PD.Env) (Q : PyData → Prop) : Prop := ∀ S, TapeOk S → ∃ d S', b ρ S = .ret d S' ∧ TapeOk S' ∧ Q d
theorem ret_set {i : Nat} {e : DE} {b : DS} {ρ : PD.Env} {P Q : PyData → Prop} (h : Tot e ρ P) (k : ∀ d, P d → Ret b (ρ.set i (some d)) Q) : Ret (dSeq (dSet i e) b) ρ Q := fun S hS => by
  obtain ⟨d, S1, e1, t1, p1⟩ := h S hS
  obtain ⟨r, S2, e2, t2, q⟩ := k d p1 S1 t1
  exact ⟨r, S2, by simp [e1, e2], t2, q⟩
theorem ret_par2 {i j : Nat} {e f : DE} {b : DS} {ρ : PD.Env} {P P' Q : PyData → Prop} (h : Tot e ρ P) (h' : Tot f ρ P') (k : ∀ d, P d → ∀ d', P' d' → Ret b ((ρ.set i (some d)).set j (some d')) Q) : Ret (dSeq (dPar [i, j] (dCons e (dCons f dNil))) b) ρ Q := fun S hS => by
  obtain ⟨d, S1, e1, t1, p1⟩ := h S hS
  obtain ⟨d', S1', e1', t1', p1'⟩ := h' S1 t1
  obtain ⟨r, S2, e2, t2, q⟩ := k d p1 d' p1' S1' t1'
  exact ⟨r, S2, by simp [e1, e1', setAll, e2], t2, q⟩
theorem ret_app {i : Nat} {e : DE} {b : DS} {ρ : PD.Env} {P Q : PyData → Prop} {n : Nat} {d0 : PyData} (hi : ρ.getD i none = some d0) (hl : LP P n d0) (h : Tot e ρ P) (k : ∀ d, LP P (n + 1) d → Ret b (ρ.set i (some d)) Q) (hn : n < 10000 := by decide) : Ret (dSeq (dApp i e) b) ρ Q := fun S hS => by
  obtain ⟨xs, rfl, hx, hp⟩ := hl
  obtain ⟨d, S1, e1, t1, p1⟩ := h S hS
  obtain ⟨r, S2, e2, t2, q⟩ := k (.list (xs ++ [d])) ⟨_, rfl, by simp [hx], fun y hy => by
    rcases List.mem_append.mp hy with hy | hy
    · exact hp y hy
    · rw [List.mem_singleton.mp hy]; exact p1⟩ S1 t1
  have hf := fApp_ok (xs := xs) (d := d) (by omega)
  refine ⟨r, S2, ?_, t2, q⟩
  show ((onLst ρ i fun xs => (e ρ S).st ρ fun d S1 => putO ρ i (fApp xs d) S1).bind b) = _
  unfold onLst
  rw [hi]
  simp only [e1, R.st_ok, putO, hf, RS.bind_nx]
  exact e2
theorem ret_ret {e : DE} {ρ : PD.Env} {Q : PyData → Prop} (h : Tot e ρ Q) : Ret (dRet e) ρ Q := fun S hS => by
  obtain ⟨d, S1, e1, t1, p1⟩ := h S hS
  exact ⟨d, S1, by simp [e1], t1, p1⟩
def IsI (d : PyData) : Prop := ∃ i : Int, d = .int i
theorem tot_any {a : DE} {ρ : PD.Env} {P : PyData → Prop} {k : Nat} (h : Tot a ρ (LP P k)) (h0 : k ≠ 0 := by decide) (hk : k < 1000 := by decide) : Tot (dCall d__law_any (dCons dSt (dCons a dNil))) ρ P := fun S hS => by
  obtain ⟨_, S1, e1, t1, xs, rfl, p1, p2⟩ := h S hS
  obtain ⟨x, S2, e2, t2, hx⟩ := any_ok (xs := xs) t1 (by rintro rfl; exact h0 p1.symm) (by omega)
  exact ⟨x, S2, by simp [e1, e2], t2, p2 x hx⟩
theorem tot_rep4 {a : DE} {ρ : PD.Env} {P : PyData → Prop} (h : Tot a ρ (LP P 1)) : Tot (d2 fRepL a (dC (.int 4))) ρ (LP P 4) := fun S hS => by
  obtain ⟨_, S1, e1, t1, xs, rfl, p1, p2⟩ := h S hS
  obtain ⟨x, rfl⟩ := List.length_eq_one_iff.mp p1
  have : fRepL (.list [x]) (.int 4) = some (.list [x, x, x, x]) := rfl
  refine ⟨.list [x, x, x, x], S1, by simp [e1, this], t1, _, rfl, rfl, fun y hy => ?_⟩
  simp at hy
  subst hy
  exact p2 _ (List.mem_cons_self ..)
theorem tot_addI {a b : DE} {ρ : PD.Env} (h1 : Tot a ρ IsI) (h2 : Tot b ρ IsI) : Tot (d2 fAdd a b) ρ IsI := fun S hS => by
  obtain ⟨_, S1, e1, t1, i, rfl⟩ := h1 S hS
  obtain ⟨_, S2, e2, t2, j, rfl⟩ := h2 S1 t1
  exact ⟨.int (i + j), S2, by simp [e1, e2], t2, _, rfl⟩
theorem lp_mem {P : PyData → Prop} {xs : List PyData} (h : ∀ x ∈ xs, P x) : LP P xs.length (.list xs) := ⟨xs, rfl, rfl, h⟩
theorem z0 : (Str.ofString "").length ≤ 3000 := by decide +kernel
theorem bent_ok {l : List Nat} (hl : l.length ≤ 300) (S : Store) (hS : TapeOk S) : ∃ d S', d__law_bent [.none, .str (sL l)] S = .ok d S' ∧ TapeOk S' ∧ SB 1900 d := by
  have hr : (l.drop 2).length ≤ 298 := by rw [List.length_drop]; omega
  have t2 : ∀ S, (dM1 fSplit (dSl fSl (dVar 1) (pSm (dC (.int 2))) (pNo)) (dC (.str ","))) [some .none, some (.str (sL l)), none, none, none, none, none, none, none] S = .ok (strL (wordsOf (l.drop 2))) S := fun S => by
    have e1 : fSl (.str (sL l)) (some 2) none = some (.str (sL (l.drop 2))) := by
      rw [f_slS (by omega), show (2 : Int) = ((2 : Nat) : Int) from rfl, cutA_drop]
    have e3 : fSplit (sL (l.drop 2)) (.str (Str.ofString ",")) = some (strL (wordsOf (l.drop 2))) := by
      rw [s_comma, f_split (by omega)]
      rfl
    simp [e1, e3]
  have hw := words_wt (l.drop 2)
  have hne := words_ne (l.drop 2)
  generalize wordsOf (l.drop 2) = ws at t2 hw hne
  have hwt : wt ws ≤ 301 := by omega
  have key : Ret b__law_bent (env0 9 [.none, .str (sL l)]) (SB 1900) := by
    unfold b__law_bent
    refine ret_par2 (P := IsI) (P' := fun d => d = strL ws) (fun S hS => ?_) (fun S hS => ⟨_, S, t2 S, hS, rfl⟩) ?_
    · obtain ⟨r, S1, e1, ht, _, _⟩ := pick_ok (n := (l.length : Int) + 1) hS (by omega) (by omega)
      refine ⟨.int r, S1, ?_, ht, _, rfl⟩
      have := f_lenS (l := l) (by omega)
      simp [env0, this, e1]
    rintro _ ⟨at_, rfl⟩ _ rfl
    have w : ∀ {e : DE} {ρ : PD.Env} {k : Nat}, Tot e ρ (SB k) → k ≤ 1900 → Tot e ρ (SB 1900) := fun h hk => tot_imp h (sb_mono hk)
    refine ret_set (P := SB 3) (tot_any (k := 11) (tot_lst (k := 11) ?_)) ?_
    · repeat' (first | exact tot_nil | refine tot_cons (tot_c (sb_str (by decide +kernel))) ?_)
    rintro od ⟨odd, rfl, hodd⟩
    refine ret_set (P := fun d => ∃ j : Nat, d = .int j ∧ j < ws.length) (fun S hS => ?_) ?_
    · have hpos : 0 < ws.length := List.length_pos_iff.mpr hne
      have hwl := wt_len ws
      obtain ⟨r, S1, e1, ht, h0, h1⟩ := pick_ok (n := (ws.length : Int)) hS (by omega) (by omega)
      obtain ⟨j, rfl⟩ : ∃ j : Nat, r = j := ⟨r.toNat, by omega⟩
      have e2 : fLen (strL ws) = some (.int ws.length) := by
        show some (PyData.int ((ws.map fun w => PyData.str (sL w)).length : Nat)) = _
        rw [List.length_map]
      exact ⟨.int j, S1, by simp [env0, e1, e2], ht, j, rfl, by omega⟩
    rintro _ ⟨j, rfl, hj⟩
    have vt : ∀ {ρ : PD.Env}, ρ.getD 1 none = some (.str (sL l)) → Tot (dVar 1) ρ (SB 300) := fun h => tot_var h ⟨l, rfl, hl⟩
    have vi : ∀ {ρ : PD.Env} {k : Nat} {i : Int}, ρ.getD k none = some (.int i) → Tot (dVar k) ρ IsI := fun h => tot_var h ⟨_, rfl⟩
    have ci : ∀ {ρ : PD.Env} {i : Int}, Tot (dC (.int i)) ρ IsI := tot_c ⟨_, rfl⟩
    have vo : ∀ {ρ : PD.Env}, ρ.getD 4 none = some (.str (sL odd)) → Tot (dVar 4) ρ (SB 3) := fun h => tot_var h ⟨odd, rfl, hodd⟩
    have vw : ∀ {ρ : PD.Env}, ρ.getD 3 none = some (strL ws) → Tot (dVar 3) ρ (LB 301) := fun h => tot_var h ⟨ws, rfl, hwt⟩
    have c : ∀ {z : Str} {ρ : PD.Env}, z.length ≤ 10 → Tot (dC (.str z)) ρ (SB 10) := fun h => tot_c (sb_str h)
    refine ret_set (P := LP (SB 1900) 4) (tot_rep4 (tot_lst (tot_cons (w (tot_addS (tot_addS (tot_slS (vt rfl) totp_no (totp_sm (vi rfl))) (vo rfl)) (tot_slS (vt rfl) (totp_sm (tot_addI (vi rfl) ci)) totp_no)) (by decide)) tot_nil))) ?_
    intro l4 hl4
    refine ret_set (P := LP (SB 1900) 10) (tot_addL (k := 4) (j := 6) (tot_var rfl hl4) (tot_lst (tot_cons (w (tot_addS (tot_addS (tot_slS (vt rfl) totp_no (totp_sm (vi rfl))) (vo rfl)) (tot_slS (vt rfl) (totp_sm (vi rfl)) totp_no)) (by decide)) (tot_cons (w (tot_slS (vt rfl) (totp_sm ci) totp_no) (by decide)) (tot_cons (w (tot_addS (vt rfl) (c (by decide +kernel))) (by decide)) (tot_cons (w (tot_addS (vt rfl) (c (by decide +kernel))) (by decide)) (tot_cons (w (tot_addS (c (by decide +kernel)) (vt rfl)) (by decide)) (tot_cons (w (tot_slS (vt rfl) totp_no (totp_sm ci)) (by decide)) tot_nil)))))))) ?_
    intro l10 hl10
    refine ret_set (P := LP (SB 1900) 14) (tot_addL (k := 10) (j := 4) (tot_var rfl hl10) (tot_lst (tot_cons (w (tot_addS (tot_slS (vt rfl) totp_no (totp_sm ci)) (tot_join (tot_revL (vw rfl)))) (by decide)) (tot_cons (w (tot_addS (c (by decide +kernel)) (tot_slS (vt rfl) (totp_sm ci) totp_no)) (by decide)) (tot_cons (w (tot_addS (c (by decide +kernel)) (tot_slS (vt rfl) (totp_sm ci) totp_no)) (by decide)) (tot_cons (w (c (by decide +kernel)) (by decide)) tot_nil)))))) ?_
    intro l14 hl14
    have hx : fIx (strL ws) (.int (j : Int)) = some (.str (sL ws[j])) := ix_nat (by rw [List.getElem?_map, List.getElem?_eq_getElem hj]; rfl)
    have hxl : ws[j].length ≤ 301 := by
      have h1 := wt_drop j ws
      rw [List.drop_eq_getElem_cons hj, wt_cons] at h1
      omega
    refine ret_par2 (P := LB 301) (P' := LB 302) (tot_slL (vw rfl) totp_no (totp_sm (vi rfl))) (tot_lstW (tot_revS (fun S hS => ⟨.str (sL ws[j]), S, ?_, hS, ws[j], rfl, hxl⟩))) ?_
    · simp [env0, hx]
    rintro _ ⟨as, rfl, has⟩ _ ⟨bs, rfl, hbs⟩
    have va : ∀ {ρ : PD.Env}, ρ.getD 7 none = some (strL as) → Tot (dVar 7) ρ (LB 301) := fun h => tot_var h ⟨as, rfl, has⟩
    have vb : ∀ {ρ : PD.Env}, ρ.getD 8 none = some (strL bs) → Tot (dVar 8) ρ (LB 302) := fun h => tot_var h ⟨bs, rfl, hbs⟩
    refine ret_app (d0 := l14) rfl hl14 (w (tot_addS (tot_slS (vt rfl) totp_no (totp_sm ci)) (tot_join (tot_addW (tot_addW (va rfl) (tot_slL (tot_slL (vw rfl) (totp_sm (vi rfl)) totp_no) totp_no (totp_sm ci))) (tot_slL (vw rfl) (totp_sm (vi rfl)) totp_no)))) (by decide)) ?_
    intro l15 hl15
    refine ret_app (d0 := l15) rfl hl15 (w (tot_addS (tot_slS (vt rfl) totp_no (totp_sm ci)) (tot_join (tot_addW (tot_addW (va rfl) (vb rfl)) (tot_slL (vw rfl) (totp_sm (tot_addI (vi rfl) ci)) totp_no)))) (by decide)) ?_
    intro l16 hl16
    refine ret_ret (tot_any (k := 22) (tot_addL (k := 16) (j := 6) (tot_var rfl hl16) (tot_lst (tot_cons (w (tot_slS (vt rfl) totp_no (totp_sm ci)) (by decide)) (tot_cons (w (tot_addS (tot_slS (vt rfl) totp_no (totp_sm ci)) (tot_slS (vt rfl) (totp_sm ci) totp_no)) (by decide)) (tot_cons (w (c (by decide +kernel)) (by decide)) (tot_cons (w (tot_addS (vt rfl) (c (by decide +kernel))) (by decide)) (tot_cons (w (tot_addS (tot_slS (vt rfl) totp_no (totp_sm ci)) (c (by decide +kernel))) (by decide)) (tot_cons (w (vt rfl) (by decide)) tot_nil))))))))) 
  obtain ⟨d, S', e, ht, hd⟩ := key S hS
  exact ⟨d, S', by unfold d__law_bent dFn; rw [e]; rfl, ht, hd⟩
end K77
namespace K77
open PySem PySem.Spec PyProof.Rows L2 PD
/-! ### what is told -/
theorem told_exc {dl : DE} {ρ : PD.Env} {S S1 : Store} {j : Int} (h : dl ρ S = .exc (badAt j) S1) : dLam 2 bl__law_told dl ρ S = .ok (.tuple [.str "text", .int j]) S1 := by
  have hi : (badAt j).cls = "BadText" := rfl
  have hf : (badAt j).fs.lookup ("place" : Str) = some (.int j) := by
    unfold badAt
    rw [List.lookup_cons]
    rfl
  show ((dTry _ _ _ _ (env0 2 [.none]) S).fin false).calm = _
  unfold dTry env0
  simp [h, hi, inS, xcs, dXc, hf, RS.calm, RS.fin, sz_small]
theorem told_ok {dl : DE} {ρ : PD.Env} {S S1 : Store} {d : PyData} (h : dl ρ S = .ok d S1) : dLam 2 bl__law_told dl ρ S = .ok (.tuple [.str "told", d]) S1 := by
  show ((dTry _ _ _ _ (env0 2 [.none]) S).fin false).calm = _
  unfold dTry env0
  simp [h, RS.fin, sz_small]
theorem eqv_text {j : Int} : PyData.eqv (.tuple [.str "text", .int j]) (.tuple [.str "text", .int j]) = true := by
  show ((("text" : Str) == "text") && ((j == j) && true)) = true
  simp
theorem shaped_text {j : Int} : SeqAt.shaped (.tuple [.str "text", .int j]) = true := by
  have h : PyData.strOk (Str.ofString "text") = true := by decide +kernel
  simp [SeqAt.shaped, PyData.canLay0, PyData.canLayAll0, PyData.depth, PyData.depthAll, h]
theorem ne_text {j : Int} : fNe (.tuple [.str "text", .int j]) (.tuple [.str "text", .int j]) = some (.bool false) := by
  have h := shaped_text (j := j)
  show (if SeqAt.shaped (.tuple [.str "text", .int j]) && SeqAt.shaped (.tuple [.str "text", .int j]) then some (PyData.bool (!PyData.eqv (.tuple [.str "text", .int j]) (.tuple [.str "text", .int j]))) else none) = _
  rw [h, eqv_text]
  rfl
theorem eq_text {j : Int} : fEq (.tuple [.str "text", .int j]) (.tuple [.str "text", .int j]) = some (.bool true) := by
  have h := shaped_text (j := j)
  show (if SeqAt.shaped (.tuple [.str "text", .int j]) && SeqAt.shaped (.tuple [.str "text", .int j]) then some (PyData.bool (PyData.eqv (.tuple [.str "text", .int j]) (.tuple [.str "text", .int j]))) else none) = _
  rw [h, eqv_text]
  rfl
/-- what is no text -/
theorem read_none {d : PyData} (h : isT "str" d = false) (S : Store) : d_read_web [d] S = .exc (badAt 0) S := by
  have r1 : ∀ ρ S, dRaise1 "BadText" "place" (dC (.int 0)) ρ S = .exc (badAt 0) ρ S := fun _ _ => rfl
  unfold d_read_web dFn b_read_web env0
  simp [h, r1, RS.fin]
theorem read_noneP {d : PyData} (h : isT "str" d = false) (S : Store) : d_read_paint [d] S = .exc (badAt 0) S := by
  have r1 : ∀ ρ S, dRaise1 "BadText" "place" (dC (.int 0)) ρ S = .exc (badAt 0) ρ S := fun _ _ => rfl
  unfold d_read_paint dFn b_read_paint env0
  simp [h, r1, RS.fin]
def wbody : DS := (dSeq (dSet 3 (dCall d__law_bent (dCons dSt (dCons (dCall d__law_text (dCons (dVar 1) (dNil))) (dNil))))) (dSeq (dPar [4, 5] (dCons (dCall d__law_due (dCons (dVar 3) (dNil))) (dCons (dLam 2 bl__law_told (dCall d_read_web (dCons (dVar 3) (dNil)))) (dNil)))) (dSeq (dIfS (dOr (dAnd (dTest (d2 (fIsN true) (dVar 4) (dC .none))) (dTest (d2 fNe (dVar 5) (dTup (dCons (dC (.str "text")) (dCons (dVar 4) (dNil))))))) (dAnd (dTest (d2 (fIsN false) (dVar 4) (dC .none))) (dTest (d2 fNe (d2 fIx (dVar 5) (dC (.int 0))) (dC (.str "told")))))) (dRet (dC (.bool false))) (dNx)) (dIfS (dAnd (dTest (d2 (fIsN false) (dVar 4) (dC .none))) (dTest (d2 fNe (dCall d__law_text (dCons (d2 fIx (dVar 5) (dC (.int 1))) (dNil))) (dVar 3)))) (dRet (dC (.bool false))) (dNx)))))
theorem neS_self {z : Str} : fNe (.str z) (.str z) = some (.bool false) := by
  show some (PyData.bool (!decide (z = z))) = _
  simp
theorem web_turn {n : Int} {ts : List (Int × Int)} (hn : 0 ≤ n ∧ n ≤ 9) (ht : ∀ p ∈ ts, Few p) (hl : ts.length ≤ 64) {o2 o3 o4 o5 o6 : Option PyData} {S : Store} (hS : TapeOk S) :
    ∃ o2' o3' o4' o5' S', wbody [some .none, some (webD n ts), o2, o3, o4, o5, o6] S = .nx [some .none, some (webD n ts), o2', o3', o4', o5', o6] S' ∧ TapeOk S' := by
  have e1 := text_ok hn ht (by omega) S
  have htl := textL_len n ts
  obtain ⟨_, S1, e2, hS1, l, rfl, hll⟩ := bent_ok (l := textL n ts) (by omega) S hS
  have e3 := due_ok (l := l) (by omega) S1
  obtain ⟨q1, q2⟩ := read_ok (l := l) (by omega) S1
  unfold wbody
  cases hd : dueOf l with
  | some j =>
    have q := told_exc (dl := dCall d_read_web (dCons (dVar 3) dNil)) (ρ := [some .none, some (webD n ts), o2, some (.str (sL l)), o4, o5, o6]) (S := S1) (j := j) (S1 := S1) (by simp [q1 j hd])
    rw [hd] at e3
    refine ⟨o2, some (.str (sL l)), some (.int j), some (.tuple [.str "text", .int j]), S1, ?_, hS1⟩
    simp [e1, e2, e3, q, setAll, dueD, fIsN, isNone, sz_small, ne_text]
  | none =>
    have q := told_ok (dl := dCall d_read_web (dCons (dVar 3) dNil)) (ρ := [some .none, some (webD n ts), o2, some (.str (sL l)), o4, o5, o6]) (S := S1) (S1 := S1) (by simp [q2 hd]; rfl)
    rw [hd] at e3
    obtain ⟨b1, b2, b3, b4⟩ := web_back (by omega) hd
    have e4 := text_ok b1 b2 b3 S1
    rw [b4] at e4
    have hN : isNone (dueD none) = true := rfl
    have i0 : ∀ d, fIx (.tuple [.str "told", d]) (.int 0) = some (.str "told") := fun d => rfl
    have i1 : ∀ d, fIx (.tuple [.str "told", d]) (.int 1) = some d := fun d => rfl
    refine ⟨o2, some (.str (sL l)), some (dueD none), some (.tuple [.str "told", webD (webOf l).1 (webOf l).2]), S1, ?_, hS1⟩
    simp [e1, e2, e3, q, setAll, fIsN, hN, i0, i1, neS_self, e4]
theorem web_right {n : Int} {ts : List (Int × Int)} (hn : 0 ≤ n ∧ n ≤ 9) (ht : ∀ p ∈ ts, Few p) (hl : ts.length ≤ 64) {S : Store} (hS : TapeOk S) : ∃ S', d__law_is_web_right [.none, webD n ts] S = .ok (.bool true) S' ∧ TapeOk S' := by
  obtain ⟨ρ', S1, e1, hS1, o2, o3, o4, o5, o6, rfl⟩ := for_inv (t := .nm 2) (body := wbody) (I := fun ρ S => TapeOk S ∧ ∃ o2 o3 o4 o5 o6, ρ = [some .none, some (webD n ts), o2, o3, o4, o5, o6]) (ds := rngD 0 8) (ρ := [some .none, some (webD n ts), none, none, none, none, none]) (S := S) ⟨hS, _, _, _, _, _, rfl⟩ (by
    rintro d hd ρ S ⟨hS, o2, o3, o4, o5, o6, rfl⟩
    obtain ⟨a, b, c, e, S', h1, h2⟩ := web_turn hn ht hl (o2 := some d) (o3 := o3) (o4 := o4) (o5 := o5) (o6 := o6) hS
    exact ⟨_, rfl, _, S', h1, h2, _, _, _, _, _, rfl⟩)
  obtain ⟨d, S2, e2, hS2, hd⟩ := any_ok (xs := [.none, .int 0, .list [.str "1 -"], .tuple [.str "1 -"], .dict [], .bool true]) hS1 (by simp) (by decide)
  have hd : isT "str" d = false := by
    simp at hd
    rcases hd with rfl | rfl | rfl | rfl | rfl | rfl <;> rfl
  have q := told_exc (dl := dCall d_read_web (dCons (dVar 6) dNil)) (ρ := [some .none, some (webD n ts), o2, o3, o4, o5, some d]) (S := S2) (j := 0) (S1 := S2) (by simp [read_none hd])
  refine ⟨S2, ?_, hS2⟩
  have c1 : cR 8 = true := cR_small (by decide) (by decide)
  unfold d__law_is_web_right dFn b__law_is_web_right env0
  unfold wbody at e1
  simp [c1, sz_small, e1, e2, q, eq_text, RS.fin]
/-! ### paints -/
/-- the signs that may stand -/
def okP (c : Nat) : Bool := decide (c = 46) || decide (48 ≤ c ∧ c ≤ 55)
def pbody : DS := (dSeq (dIfS (dAnd (dTest (d2 fNe (dVar 3) (dC (.str ".")))) (dTest (d2 (fIn true) (dVar 3) (dSl fSl (dC (.str "0123456789")) (pNo) (pSm (dC (.int 8))))))) (dRaise1 "BadText" "place" (dVar 2)) (dNx)) (dApp 1 (dIfE (dTest (d2 fEq (dVar 3) (dC (.str ".")))) (dC .none) (d1 fInt (dVar 3)))))
theorem s_dot : (Str.ofString ".") = sL [46] := by decide +kernel
theorem paint_turn {t : PyData} {xs : List PyData} {k : Int} {c : Nat} {S : Store} (hx : xs.length < 10000) : pbody [some t, some (.list xs), some (.int k), some (.str (sL [c]))] S =
    if okP c = true then .nx [some t, some (.list (xs ++ [if c = 46 then .none else .int ((c : Int) - 48)])), some (.int k), some (.str (sL [c]))] S else .exc (badAt k) [some t, some (.list xs), some (.int k), some (.str (sL [c]))] S := by
  have r1 : ∀ ρ S, dRaise1 "BadText" "place" (dVar 2) ρ S = (dVar 2 ρ S).st ρ fun d S1 => .exc ⟨"BadText", [("place", d)]⟩ ρ S1 := fun _ _ => rfl
  have d1 : fNe (.str (sL [c])) (.str (Str.ofString ".")) = some (.bool (!decide (c = 46))) := by rw [s_dot, f_neS]; simp
  have d2 : fEq (.str (sL [c])) (.str (Str.ofString ".")) = some (.bool (decide (c = 46))) := by rw [s_dot, f_eqS]; simp
  have d3 : fSl (.str (Str.ofString "0123456789")) none (some 8) = some (.str (sL [48, 49, 50, 51, 52, 53, 54, 55])) := by
    rw [s_digits, f_slS (by decide)]
    rfl
  have d4 : fIn true (.str (sL [c])) (.str (sL [48, 49, 50, 51, 52, 53, 54, 55])) = some (.bool (!dig8 c)) := by rw [f_notInS, mem_eight]
  unfold pbody
  by_cases h : c = 46
  · subst h
    simp [d1, d2, d3, d4, onLst, putO, fApp_ok hx, okP]
  · cases h8 : dig8 c with
    | false =>
      have hk : okP c = false := by
        unfold okP
        unfold dig8 at h8
        rw [decide_eq_false h, h8]
        rfl
      simp [d1, d2, d3, d4, h, h8, hk, r1, badAt]
    | true =>
      have hk : okP c = true := by
        unfold okP
        unfold dig8 at h8
        rw [h8]
        simp
      have hd : dig c = true := by
        have := of_decide_eq_true h8
        unfold dig
        rw [decide_eq_true_iff]
        omega
      simp [d1, d2, d3, d4, h, h8, hk, onLst, putO, int_dig hd, fApp_ok hx]
/-- the first sign that can't stand -/
def pDue (k : Int) : List Nat → Option Int
  | [] => none
  | c :: r => if okP c = true then pDue (k + 1) r else some k
theorem paint_loop {t : PyData} {S : Store} : ∀ (cs : List Nat) (xs : List PyData) (k j : Int) (o2 o3 : Option PyData), xs.length + cs.length ≤ 9999 → pDue k cs = some j → ∃ ρ', forL (.tup [2, 3]) pbody (enumD k (cs.map fun c => .str (sL [c]))) [some t, some (.list xs), o2, o3] S = .exc (badAt j) ρ' S
  | [], xs, k, j, o2, o3, _, h => by cases h
  | c :: r, xs, k, j, o2, o3, hl, h => by
    have hl' : xs.length < 10000 := by omega
    have hturn := paint_turn (t := t) (xs := xs) (k := k) (c := c) (S := S) hl'
    have hstep : forL (.tup [2, 3]) pbody (enumD k ((c :: r).map fun c => .str (sL [c]))) [some t, some (.list xs), o2, o3] S =
        (match pbody [some t, some (.list xs), some (.int k), some (.str (sL [c]))] S with
          | .nx ρ2 S2 => forL (.tup [2, 3]) pbody (enumD (k + 1) (r.map fun c => .str (sL [c]))) ρ2 S2
          | .brk ρ2 S2 => .nx ρ2 S2
          | r => r) := rfl
    rw [hstep, hturn]
    unfold pDue at h
    by_cases hc : okP c = true
    · rw [if_pos hc] at h ⊢
      exact paint_loop r _ (k + 1) j _ _ (by simp at hl ⊢; omega) h
    · rw [if_neg hc] at h ⊢
      cases h
      exact ⟨_, rfl⟩
theorem signs_sL (l : List Nat) : signsD (sL l) = l.map fun c => PyData.str (sL [c]) := rfl
theorem readP_bad {l : List Nat} {j : Int} (h0 : 1 ≤ l.length) (h1 : l.length ≤ 8) (h : pDue 1 l = some j) (S : Store) : d_read_paint [.str (sL l)] S = .exc (badAt j) S := by
  have ts : isT "str" (.str (sL l)) = true := rfl
  have hlen := f_lenS (l := l) (by omega)
  obtain ⟨ρ', q⟩ := paint_loop (t := .str (sL l)) (S := S) l [] 1 j none none (by simp; omega) h
  have he : fEnum2 (.str (sL l)) (.int 1) = some (enumD 1 (l.map fun c => PyData.str (sL [c]))) := by
    have hs : seqD (.str (sL l)) = some (l.map fun c => PyData.str (sL [c])) := by
      show (if sz (sL l).length then some (signsD (sL l)) else none) = _
      rw [sL_len, sz_small (by omega), signs_sL]
      rfl
    simp [fEnum2, fEnum, hs]
  have a1 : (1 : Int) ≤ l.length := by omega
  have a2 : (l.length : Int) ≤ 8 := by omega
  unfold d_read_paint dFn b_read_paint env0
  unfold pbody at q
  simp [ts, hlen, a1, a2, he, q, RS.fin, sz_small]
theorem readP_out {l : List Nat} (h : l.length = 0 ∨ l.length = 9) (S : Store) : d_read_paint [.str (sL l)] S = .exc (badAt 0) S := by
  have ts : isT "str" (.str (sL l)) = true := rfl
  have r1 : ∀ ρ S, dRaise1 "BadText" "place" (dC (.int 0)) ρ S = .exc (badAt 0) ρ S := fun _ _ => rfl
  have hlen := f_lenS (l := l) (by omega)
  unfold d_read_paint dFn b_read_paint env0
  rcases h with h | h
  · rw [h] at hlen
    simp [ts, hlen, r1, RS.fin]
  · rw [h] at hlen
    simp [ts, hlen, r1, RS.fin]
theorem pDue_app {k : Int} : ∀ {l : List Nat} {r : List Nat}, (∀ c ∈ l, okP c = true) → pDue k (l ++ r) = pDue (k + l.length) r
  | [], r, _ => by simp
  | c :: l, r, h => by
    rw [List.cons_append]
    show (if okP c = true then _ else _) = _
    rw [if_pos (h c (List.mem_cons_self ..)), pDue_app fun d hd => h d (List.mem_cons_of_mem _ hd)]
    congr 1
    simp
    omega
end K77
namespace K77
open PySem PySem.Spec PyProof.Rows L2 PD
/-! ### drawn paints and their texts -/
def Col (x : PyData) : Prop := x = .none ∨ ∃ c : Int, x = .int c ∧ 0 ≤ c ∧ c < 8
def sign (x : PyData) : Nat := match x with | .int c => 48 + c.toNat | _ => 46
theorem sign_ok {x : PyData} (h : Col x) : okP (sign x) = true := by
  rcases h with rfl | ⟨c, rfl, h1, h2⟩
  · rfl
  · show okP (48 + c.toNat) = true
    unfold okP
    rw [Bool.or_eq_true]
    right
    rw [decide_eq_true_iff]
    omega
theorem paint_ok {S : Store} {n : Int} (hS : TapeOk S) (h1 : 1 ≤ n) (h2 : n ≤ 8) : ∃ xs S', d__law_paint [.none, .int n, .int 8] S = .ok (.tuple xs) S' ∧ TapeOk S' ∧ (∀ x ∈ xs, Col x) ∧ (xs.length : Int) = n := by
  obtain ⟨xs, S', q1, q2, q3, q4⟩ := comp_invY (t := .nm 3) (de := (dCall d__law_any (dCons dSt (dCons (dLst (dCons (dC .none) (dCons (dCall d__law_pick (dCons dSt (dCons (dVar 2) (dNil)))) (dNil)))) (dNil))))) (ρ := [some .none, some (.int n), some (.int 8), none]) (I := TapeOk) (E := Col) (ds := rngD 0 n.toNat) (acc := []) hS (fun x hx => by cases hx) (fun d hd S hS => by
    obtain ⟨r, S1, e1, hS1, r0, r1⟩ := pick_ok (n := 8) hS (by decide) (by decide)
    obtain ⟨x, S2, e2, hS2, hx⟩ := any_ok (xs := [.none, .int r]) hS1 (by simp) (by simp)
    refine ⟨_, rfl, x, S2, by simp [e1, e2, sz_small], hS2, ?_⟩
    simp at hx
    rcases hx with rfl | rfl
    · exact .inl rfl
    · exact .inr ⟨r, rfl, r0, r1⟩)
  refine ⟨xs, S', ?_, q2, q3, by simp at q4; omega⟩
  have c1 : cR n = true := cR_small (by omega) (by omega)
  have c2 : sz n.toNat = true := sz_small (by omega)
  unfold d__law_paint dFn b__law_paint env0
  simp [c1, c2, q1, RS.fin]
theorem join_nil : ∀ ws : List (List Nat), Str.join (sL []) (ws.map sL) = sL ws.flatten
  | [] => rfl
  | [w] => by simp [Str.join]
  | w :: v :: r => by
    show sL w ++ sL [] ++ Str.join (sL []) ((v :: r).map sL) = _
    rw [join_nil (v :: r), sL_app, sL_app]
    simp
theorem s_empty : (Str.ofString "") = sL [] := by decide +kernel
theorem paint_text_ok {xs : List PyData} (h : ∀ x ∈ xs, Col x) (hl : xs.length ≤ 8) (S : Store) : d__law_paint_text [.tuple xs] S = .ok (.str (sL (xs.map sign))) S := by
  have hc := comp_map (t := .nm 1) (de := (dIfE (dTest (d2 (fIsN false) (dVar 1) (dC .none))) (dC (.str ".")) (d1 fStr (dVar 1)))) (ρ := [some (.tuple xs), none]) (S := S) (f := fun x => .str (sL [sign x])) (ds := xs) (acc := []) (fun d hd => by
    refine ⟨_, rfl, ?_⟩
    rcases h d hd with rfl | ⟨c, rfl, h1, h2⟩
    · simp [fIsN, isNone, s_dot, sign]
    · have := f_strI (i := c) h1 (by omega)
      simp [fIsN, isNone, this, sign])
  rw [List.nil_append] at hc
  have hj : fJoin (Str.ofString "") (.list (xs.map fun x => .str (sL [sign x]))) = some (.str (sL (xs.map sign))) := by
    have e : (xs.map fun x => PyData.str (sL [sign x])) = ((xs.map fun x => [sign x]).map sL).map PyData.str := by
      rw [List.map_map, List.map_map]
      rfl
    rw [e]
    show ((strsOf (((xs.map fun x => [sign x]).map sL).map PyData.str)).bind fun ys => _) = _
    rw [strsOf_strs]
    simp only [Option.bind_some]
    rw [if_pos]
    · rw [s_empty]
      show some (PyData.str (Builtin.Str.glued (sL []) _)) = _
      rw [StrLaws.glued_eq_join, join_nil]
      congr 3
      clear hc e hl h
      induction xs with
      | nil => rfl
      | cons x r ih => simp [ih]
    · rw [decide_eq_true_iff, s_empty]
      have e2 : (((xs.map fun x => [sign x]).map sL).map fun z => z.length).sum = xs.length := by
        clear hc e hl h
        induction xs with
        | nil => rfl
        | cons x r ih => simp at ih ⊢; omega
      rw [e2]
      simp
      omega
  have hs : seqD (.tuple xs) = some xs := rfl
  unfold d__law_paint_text dFn b__law_paint_text env0
  simp [hs, hc, hj, RS.fin]
theorem times_sign {c : Nat} {k : Nat} (h : k ≤ 1000) : fTimes (.str (sL [c])) (.int (k : Int)) = some (.str (sL (List.replicate k c))) := by
  show (if decide (-1000 ≤ (k : Int) ∧ (k : Int) ≤ 1000 ∧ (sL [c]).length ≤ 1000) then some (PyData.str (repS (sL [c]) k)) else none) = _
  rw [if_pos (decide_eq_true ⟨by omega, by omega, by rw [sL_len]; simp⟩)]
  congr 2
  unfold repS
  rw [sL_list, Int.toNat_natCast, List.flatten_replicate_singleton]
  rfl
def cbody : DS := (dIfS (dTest (d2 fNe (dLam 2 bl__law_told (dCall d_read_paint (dCons (dVar 5) (dNil)))) (dTup (dCons (dC (.str "text")) (dCons (dVar 6) (dNil)))))) (dRet (dC (.bool false))) (dNx))
theorem paint_right {S : Store} (hS : TapeOk S) : ∃ S', d__law_is_paint_right [.none] S = .ok (.bool true) S' ∧ TapeOk S' := by
  obtain ⟨n, S1, e1, hS1, n0, n1⟩ := pick_ok (n := 8) hS (by decide) (by decide)
  obtain ⟨xs, S2, e2, hS2, hx, hxl⟩ := paint_ok (n := 1 + n) hS1 (by omega) (by omega)
  have e3 := paint_text_ok hx (by omega) S2
  have hok : ∀ c ∈ xs.map sign, okP c = true := fun c hc => by
    obtain ⟨x, hm, rfl⟩ := List.mem_map.mp hc
    exact sign_ok (hx x hm)
  have hlen : ((xs.map sign).length : Int) = 1 + n := by rw [List.length_map]; exact hxl
  generalize xs.map sign = l at e3 hok hlen
  have hfl : fLen (.str (sL l)) = some (.int l.length) := f_lenS (by omega)
  obtain ⟨at_, S3, e4, hS3, a0, a1⟩ := pick_ok (n := (l.length : Int)) hS2 (by omega) (by omega)
  obtain ⟨a, rfl⟩ : ∃ a : Nat, at_ = a := ⟨at_.toNat, by omega⟩
  obtain ⟨od, S4, e5, hS4, hod⟩ := any_ok (xs := [.str "8", .str "9", .str "x", .str " ", .str "-", .str ",", .str "\n"]) hS3 (by simp) (by decide)
  obtain ⟨c, rfl, hc⟩ : ∃ c : Nat, od = .str (sL [c]) ∧ okP c = false := by
    have w1 : (Str.ofString "8") = sL [56] := by decide +kernel
    have w2 : (Str.ofString "9") = sL [57] := by decide +kernel
    have w3 : (Str.ofString "x") = sL [120] := by decide +kernel
    have w4 : (Str.ofString "\n") = sL [10] := by decide +kernel
    simp only [List.mem_cons, List.not_mem_nil, or_false, w1, w2, w3, w4, s_blank, s_dash, s_comma, comma] at hod
    rcases hod with rfl | rfl | rfl | rfl | rfl | rfl | rfl <;> exact ⟨_, rfl, rfl⟩
  have t1 : fSl (.str (sL l)) none (some (a : Int)) = some (.str (sL (l.take a))) := by rw [f_slS (by omega), cutA_take]
  have t2 : fSl (.str (sL l)) (some ((a : Int) + 1)) none = some (.str (sL (l.drop (a + 1)))) := by rw [f_slS (by omega), show ((a : Int) + 1) = ((a + 1 : Nat) : Int) by omega, cutA_drop]
  have hta : (l.take a).length = a := by rw [List.length_take]; omega
  have htd : (l.drop (a + 1)).length = l.length - (a + 1) := List.length_drop
  have d1 : fAdd (.str (sL (l.take a))) (.str (sL [c])) = some (.str (sL (l.take a ++ [c]))) := f_addS (by simp; omega)
  have d2 : fAdd (.str (sL (l.take a ++ [c]))) (.str (sL (l.drop (a + 1)))) = some (.str (sL (l.take a ++ [c] ++ l.drop (a + 1)))) := f_addS (by simp; omega)
  have d3 : fTimes (.str (sL [c])) (.int ((l.length : Int) - (a : Int))) = some (.str (sL (List.replicate (l.length - a) c))) := by
    rw [show ((l.length : Int) - (a : Int)) = ((l.length - a : Nat) : Int) by omega]
    exact times_sign (by omega)
  have d4 : fAdd (.str (sL (l.take a))) (.str (sL (List.replicate (l.length - a) c))) = some (.str (sL (l.take a ++ List.replicate (l.length - a) c))) := f_addS (by simp; omega)
  have hpt : ∀ d ∈ l.take a, okP d = true := fun d hd => hok d (List.mem_of_mem_take hd)
  have p1 : pDue 1 (l.take a ++ [c] ++ l.drop (a + 1)) = some ((a : Int) + 1) := by
    rw [List.append_assoc, pDue_app hpt, hta]
    show (if okP c = true then _ else some (1 + (a : Int))) = _
    rw [hc, if_neg (by simp)]
    congr 1
    omega
  have p2 : pDue 1 (l.take a ++ List.replicate (l.length - a) c) = some ((a : Int) + 1) := by
    rw [pDue_app hpt, hta, show l.length - a = (l.length - a - 1) + 1 by omega, List.replicate_succ]
    show (if okP c = true then _ else some (1 + (a : Int))) = _
    rw [hc, if_neg (by simp)]
    congr 1
    omega
  have z0 : fTimes (.str (Str.ofString "0")) (.int 9) = some (.str (sL (List.replicate 9 48))) := by
    rw [show (Str.ofString "0") = sL [48] from by decide +kernel]
    exact times_sign (k := 9) (by decide)
  have z1 : fTimes (.str (Str.ofString "x")) (.int 9) = some (.str (sL (List.replicate 9 120))) := by
    rw [show (Str.ofString "x") = sL [120] from by decide +kernel]
    exact times_sign (k := 9) (by decide)
  have g1 : ∀ S, d_read_paint [.str (sL (l.take a ++ [c] ++ l.drop (a + 1)))] S = .exc (badAt ((a : Int) + 1)) S := readP_bad (by simp; omega) (by simp; omega) p1
  have g2 : ∀ S, d_read_paint [.str (sL (l.take a ++ List.replicate (l.length - a) c))] S = .exc (badAt ((a : Int) + 1)) S := readP_bad (by simp; omega) (by simp; omega) p2
  clear p1 p2 hpt
  generalize l.take a ++ List.replicate (l.length - a) c = u2 at d4 g2
  generalize l.take a ++ [c] ++ l.drop (a + 1) = u1 at d2 g1
  have hcs : ∀ d ∈ ([.tuple [.str (sL u1), .int ((a : Int) + 1)], .tuple [.str (sL u2), .int ((a : Int) + 1)], .tuple [.str (sL []), .int 0], .tuple [.str (sL (List.replicate 9 48)), .int 0], .tuple [.str (sL (List.replicate 9 120)), .int 0]] : List PyData), ∃ z j, d = .tuple [.str z, .int j] ∧ ∀ S, d_read_paint [.str z] S = .exc (badAt j) S := fun d hd => by
    simp only [List.mem_cons, List.not_mem_nil, or_false] at hd
    rcases hd with rfl | rfl | rfl | rfl | rfl
    · exact ⟨_, _, rfl, g1⟩
    · exact ⟨_, _, rfl, g2⟩
    · exact ⟨_, _, rfl, readP_out (.inl rfl)⟩
    · exact ⟨_, _, rfl, readP_out (.inr (by simp))⟩
    · exact ⟨_, _, rfl, readP_out (.inr (by simp))⟩
  have hAdd : fAddL (.list [.tuple [.str (sL u1), .int ((a : Int) + 1)], .tuple [.str (sL u2), .int ((a : Int) + 1)]]) (.list [.tuple [.str (sL []), .int 0], .tuple [.str (sL (List.replicate 9 48)), .int 0], .tuple [.str (sL (List.replicate 9 120)), .int 0]]) = some (.list [.tuple [.str (sL u1), .int ((a : Int) + 1)], .tuple [.str (sL u2), .int ((a : Int) + 1)], .tuple [.str (sL []), .int 0], .tuple [.str (sL (List.replicate 9 48)), .int 0], .tuple [.str (sL (List.replicate 9 120)), .int 0]]) := rfl
  generalize [PyData.tuple [.str (sL u1), .int ((a : Int) + 1)], .tuple [.str (sL u2), .int ((a : Int) + 1)], .tuple [.str (sL []), .int 0], .tuple [.str (sL (List.replicate 9 48)), .int 0], .tuple [.str (sL (List.replicate 9 120)), .int 0]] = cs at hcs hAdd
  obtain ⟨ρ', S5, e6, hS5, o5, o6, rfl⟩ := for_inv (t := .tup [5, 6]) (body := cbody) (I := fun ρ S => TapeOk S ∧ ∃ o5 o6, ρ = [some .none, some (.str (sL l)), some (.int a), some (.str (sL [c])), some (.list [.tuple [.str (sL u1), .int ((a : Int) + 1)], .tuple [.str (sL u2), .int ((a : Int) + 1)]]), o5, o6, none]) (ds := cs) (ρ := [some .none, some (.str (sL l)), some (.int a), some (.str (sL [c])), some (.list [.tuple [.str (sL u1), .int ((a : Int) + 1)], .tuple [.str (sL u2), .int ((a : Int) + 1)]]), none, none, none]) (S := S4) ⟨hS4, none, none, rfl⟩ (by
    rintro d hd ρ S ⟨hS, o5, o6, rfl⟩
    obtain ⟨z, j, rfl, hz⟩ := hcs d hd
    have q := told_exc (dl := dCall d_read_paint (dCons (dVar 5) dNil)) (ρ := [some .none, some (.str (sL l)), some (.int a), some (.str (sL [c])), some (.list [.tuple [.str (sL u1), .int ((a : Int) + 1)], .tuple [.str (sL u2), .int ((a : Int) + 1)]]), some (.str z), some (.int j), none]) (S := S) (j := j) (S1 := S) (by simp [hz])
    refine ⟨_, rfl, [some .none, some (.str (sL l)), some (.int a), some (.str (sL [c])), some (.list [.tuple [.str (sL u1), .int ((a : Int) + 1)], .tuple [.str (sL u2), .int ((a : Int) + 1)]]), some (.str z), some (.int j), none], S, ?_, hS, _, _, rfl⟩
    unfold cbody
    simp [q, ne_text, sz_small])
  obtain ⟨d, S6, e7, hS6, hd⟩ := any_ok (xs := [.none, .int 0, .list [.str "0"], .tuple [.str "0"], .dict [], .bool true]) hS5 (by simp) (by decide)
  have hd : isT "str" d = false := by
    simp at hd
    rcases hd with rfl | rfl | rfl | rfl | rfl | rfl <;> rfl
  have q := told_exc (dl := dCall d_read_paint (dCons (dVar 7) dNil)) (ρ := [some .none, some (.str (sL l)), some (.int a), some (.str (sL [c])), some (.list [.tuple [.str (sL u1), .int ((a : Int) + 1)], .tuple [.str (sL u2), .int ((a : Int) + 1)]]), o5, o6, some d]) (S := S6) (j := 0) (S1 := S6) (by simp [read_noneP hd])
  refine ⟨S6, ?_, hS6⟩
  have hseq : seqD (.list cs) = some cs := rfl
  unfold d__law_is_paint_right dFn b__law_is_paint_right env0
  unfold cbody at e6
  generalize List.replicate 9 48 = y1 at z0 hAdd
  generalize List.replicate 9 120 = y2 at z1 hAdd
  simp [e1, e2, e3, hfl, e4, e5, t1, t2, d1, d2, d3, d4, z0, z1, s_empty, sz_small, hAdd, hseq, e6, e7, q, eq_text, RS.fin]
end K77
namespace K77
open PySem PySem.Spec PyProof.Rows L2 PD
def fbody : DS := (dIfS (dTest (d2 fNe (dLam 2 bl__law_told (dCall d_read_web (dCons (dVar 3) (dNil)))) (dTup (dCons (dC (.str "text")) (dCons (dVar 4) (dNil)))))) (dRet (dC (.bool false))) (dNx))
theorem known {z : Str} {l : List Nat} {j : Int} (h : z = sL l) (hl : l.length ≤ 5000) (hd : dueOf l = some j) : ∃ y i, PyData.tuple [.str z, .int j] = PyData.tuple [.str y, .int i] ∧ ∀ S, d_read_web [.str y] S = .exc (badAt i) S :=
  ⟨z, j, rfl, fun S => by rw [h]; exact (read_ok hl S).1 j hd⟩
def tbody : DS := (dIfS (dOr (dNot (dTest (dCall d__law_is_web_right (dCons dSt (dCons (dCall d__law_web (dCons dSt (dCons (dC (.int 8)) (dNil)))) (dNil)))))) (dNot (dTest (dCall d__law_is_paint_right (dCons dSt (dNil)))))) (dRet (dC (.bool false))) (dNx))
theorem pure_ok : Pure := by
  intro ns hn _
  have e1 := tape_ok hn
  have hS0 := tape0 ns
  show ∃ S', (dAdopt 1 dt_law dr_law [some (.list (ns.map .int)), none, none, none, none, none] []).fin false = .ok (.bool true) S'
  have e2 : dAdopt 1 dt_law dr_law [some (.list (ns.map .int)), none, none, none, none, none] [] = dr_law [some (.list (ns.map .int)), some .none, none, none, none, none] [[.list ((ns.map fun i => if i < 0 then -i else i).map .int), .int 0, .int 0, .int (31 + ns.length), .int 0]] := by
    unfold dAdopt dt_law
    simp [e1, adL]
  rw [e2]
  generalize [[PyData.list ((ns.map fun i => if i < 0 then -i else i).map .int), .int 0, .int 0, .int (31 + ns.length), .int 0]] = S at hS0
  generalize PyData.list (ns.map .int) = sc
  have hcs : ∀ d ∈ ([.tuple [.str "3 0-1,0-1", .int 2], .tuple [.str "3 1-0", .int 1], .tuple [.str "2 0-2", .int 1], .tuple [.str "3 ", .int 1], .tuple [.str "3", .int 0], .tuple [.str "9 -", .int 0], .tuple [.str "3 0-1,", .int 2], .tuple [.str "3 -,0-1", .int 1], .tuple [.str "03 -", .int 0]] : List PyData), ∃ z j, d = .tuple [.str z, .int j] ∧ ∀ S, d_read_web [.str z] S = .exc (badAt j) S := fun d hd => by
    simp only [List.mem_cons, List.not_mem_nil, or_false] at hd
    rcases hd with rfl | rfl | rfl | rfl | rfl | rfl | rfl | rfl | rfl
    · exact known (l := [51, 32, 48, 45, 49, 44, 48, 45, 49]) (by decide +kernel) (by decide) (by decide +kernel)
    · exact known (l := [51, 32, 49, 45, 48]) (by decide +kernel) (by decide) (by decide +kernel)
    · exact known (l := [50, 32, 48, 45, 50]) (by decide +kernel) (by decide) (by decide +kernel)
    · exact known (l := [51, 32]) (by decide +kernel) (by decide) (by decide +kernel)
    · exact known (l := [51]) (by decide +kernel) (by decide) (by decide +kernel)
    · exact known (l := [57, 32, 45]) (by decide +kernel) (by decide) (by decide +kernel)
    · exact known (l := [51, 32, 48, 45, 49, 44]) (by decide +kernel) (by decide) (by decide +kernel)
    · exact known (l := [51, 32, 45, 44, 48, 45, 49]) (by decide +kernel) (by decide) (by decide +kernel)
    · exact known (l := [48, 51, 32, 45]) (by decide +kernel) (by decide) (by decide +kernel)
  have hAdd : fAddL (.list [.tuple [.str "3 0-1,0-1", .int 2], .tuple [.str "3 1-0", .int 1], .tuple [.str "2 0-2", .int 1], .tuple [.str "3 ", .int 1], .tuple [.str "3", .int 0], .tuple [.str "9 -", .int 0], .tuple [.str "3 0-1,", .int 2]]) (.list [.tuple [.str "3 -,0-1", .int 1], .tuple [.str "03 -", .int 0]]) = some (.list [.tuple [.str "3 0-1,0-1", .int 2], .tuple [.str "3 1-0", .int 1], .tuple [.str "2 0-2", .int 1], .tuple [.str "3 ", .int 1], .tuple [.str "3", .int 0], .tuple [.str "9 -", .int 0], .tuple [.str "3 0-1,", .int 2], .tuple [.str "3 -,0-1", .int 1], .tuple [.str "03 -", .int 0]]) := rfl
  generalize [PyData.tuple [.str "3 0-1,0-1", .int 2], .tuple [.str "3 1-0", .int 1], .tuple [.str "2 0-2", .int 1], .tuple [.str "3 ", .int 1], .tuple [.str "3", .int 0], .tuple [.str "9 -", .int 0], .tuple [.str "3 0-1,", .int 2], .tuple [.str "3 -,0-1", .int 1], .tuple [.str "03 -", .int 0]] = cs at hcs hAdd
  have e3 : ∃ o3 o4, forL (.tup [3, 4]) fbody cs [some sc, some .none, some (.list [.tuple [.str "3 0-1,0-1", .int 2], .tuple [.str "3 1-0", .int 1], .tuple [.str "2 0-2", .int 1], .tuple [.str "3 ", .int 1], .tuple [.str "3", .int 0], .tuple [.str "9 -", .int 0], .tuple [.str "3 0-1,", .int 2]]), none, none, none] S = .nx [some sc, some .none, some (.list [.tuple [.str "3 0-1,0-1", .int 2], .tuple [.str "3 1-0", .int 1], .tuple [.str "2 0-2", .int 1], .tuple [.str "3 ", .int 1], .tuple [.str "3", .int 0], .tuple [.str "9 -", .int 0], .tuple [.str "3 0-1,", .int 2]]), o3, o4, none] S := by
    generalize PyData.list [PyData.tuple [.str "3 0-1,0-1", .int 2], .tuple [.str "3 1-0", .int 1], .tuple [.str "2 0-2", .int 1], .tuple [.str "3 ", .int 1], .tuple [.str "3", .int 0], .tuple [.str "9 -", .int 0], .tuple [.str "3 0-1,", .int 2]] = c7
    obtain ⟨ρ', S5, e6, hS5, o5, o6, rfl⟩ := for_inv (t := .tup [3, 4]) (body := fbody) (I := fun ρ S' => S' = S ∧ ∃ o3 o4, ρ = [some sc, some .none, some c7, o3, o4, none]) (ds := cs) (ρ := [some sc, some .none, some c7, none, none, none]) (S := S) ⟨rfl, none, none, rfl⟩ (by
      rintro d hd ρ S' ⟨rfl, o5, o6, rfl⟩
      obtain ⟨z, j, rfl, hz⟩ := hcs d hd
      have q := told_exc (dl := dCall d_read_web (dCons (dVar 3) dNil)) (ρ := [some sc, some .none, some c7, some (.str z), some (.int j), none]) (S := S') (j := j) (S1 := S') (by simp [hz])
      refine ⟨_, rfl, [some sc, some .none, some c7, some (.str z), some (.int j), none], S', ?_, rfl, _, _, rfl⟩
      unfold fbody
      simp [q, ne_text, sz_small])
    rw [hS5] at e6
    exact ⟨_, _, e6⟩
  obtain ⟨o3, o4, e3⟩ := e3
  have hseq : seqD (.list cs) = some cs := rfl
  have e4 : ∀ c7 : PyData, ∃ o5 S1, forL (.nm 5) tbody (rngD 0 4) [some sc, some .none, some c7, o3, o4, none] S = .nx [some sc, some .none, some c7, o3, o4, o5] S1 := fun c7 => by
    obtain ⟨ρ', S5, e6, hS5, o5, rfl⟩ := for_inv (t := .nm 5) (body := tbody) (I := fun ρ S' => TapeOk S' ∧ ∃ o5, ρ = [some sc, some .none, some c7, o3, o4, o5]) (ds := rngD 0 4) (ρ := [some sc, some .none, some c7, o3, o4, none]) (S := S) ⟨hS0, none, rfl⟩ (by
      rintro d hd ρ S' ⟨hS, o5, rfl⟩
      obtain ⟨n, ts, S1, f1, hS1, n0, n1, hts, htl⟩ := web_ok (most := 8) hS (by decide) (by decide)
      obtain ⟨S2, f2, hS2⟩ := web_right (n := n) (by omega) (few_of n1 hts) htl hS1
      obtain ⟨S3, f3, hS3⟩ := paint_right hS2
      refine ⟨_, rfl, [some sc, some .none, some c7, o3, o4, some d], S3, ?_, hS3, _, rfl⟩
      unfold tbody
      simp [f1, f2, f3])
    exact ⟨o5, S5, e6⟩
  obtain ⟨o5, S1, e5⟩ := e4 (.list [.tuple [.str "3 0-1,0-1", .int 2], .tuple [.str "3 1-0", .int 1], .tuple [.str "2 0-2", .int 1], .tuple [.str "3 ", .int 1], .tuple [.str "3", .int 0], .tuple [.str "9 -", .int 0], .tuple [.str "3 0-1,", .int 2]])
  refine ⟨S1, ?_⟩
  have c1 : cR 4 = true := cR_small (by decide) (by decide)
  unfold dr_law
  unfold fbody at e3
  unfold tbody at e5
  simp [sz_small, hAdd, hseq, e3, c1, e5, RS.fin]
end K77
namespace K77
open PySem PySem.Spec PyProof.Rows L2 LamX PD
theorem all_mk {w : World} {K : PySem.W.Frag} {h : Heap} {mg : Str → Option Value} {fa : Addr} {ts : List Addr} (hp : Pure) (X : K.In h) (G : h.Ns mainGlobals mg) (hfa : mg "law" = some (.ref fa)) (tt : ∀ P ∈ ts, h.get? P = some (PySem.W.tabObj #[]))
    {Atie_in : Addr} {odtie_in antie_in : Option Addr} {sltie_in : Array (Option Value)} {octie_in kVtie_in dctie_in pmtie_in cttie_in : Value} {cdtie_in : Value} {A_law_tape : Addr} {od_law_tape an_law_tape : Option Addr} {sl_law_tape : Array (Option Value)} {oc_law_tape kV_law_tape dc_law_tape pm_law_tape ct_law_tape : Value} {cd_law_tape : Value} {A_law_pick : Addr} {od_law_pick an_law_pick : Option Addr} {sl_law_pick : Array (Option Value)} {oc_law_pick kV_law_pick dc_law_pick pm_law_pick ct_law_pick : Value} {cd_law_pick : Value} {A_law_text : Addr} {od_law_text an_law_text : Option Addr} {sl_law_text : Array (Option Value)} {oc_law_text kV_law_text dc_law_text pm_law_text ct_law_text : Value} {cd_law_text : Value} {A_law_paint_text : Addr} {od_law_paint_text an_law_paint_text : Option Addr} {sl_law_paint_text : Array (Option Value)} {oc_law_paint_text kV_law_paint_text dc_law_paint_text pm_law_paint_text ct_law_paint_text : Value} {cd_law_paint_text : Value} {A_law_told : Addr} {od_law_told an_law_told : Option Addr} {sl_law_told : Array (Option Value)} {oc_law_told kV_law_told dc_law_told pm_law_told ct_law_told : Value} {cd_law_told : Value} {A_law_due : Addr} {od_law_due an_law_due : Option Addr} {sl_law_due : Array (Option Value)} {oc_law_due kV_law_due dc_law_due pm_law_due ct_law_due : Value} {cd_law_due : Value} {A_law_any : Addr} {od_law_any an_law_any : Option Addr} {sl_law_any : Array (Option Value)} {oc_law_any kV_law_any dc_law_any pm_law_any ct_law_any : Value} {cd_law_any : Value} {Aread_web : Addr} {odread_web anread_web : Option Addr} {slread_web : Array (Option Value)} {ocread_web kVread_web dcread_web pmread_web ctread_web : Value} {cdread_web : Value} {Aread_paint : Addr} {odread_paint anread_paint : Option Addr} {slread_paint : Array (Option Value)} {ocread_paint kVread_paint dcread_paint pmread_paint ctread_paint : Value} {cdread_paint : Value} {A_law_web : Addr} {od_law_web an_law_web : Option Addr} {sl_law_web : Array (Option Value)} {oc_law_web kV_law_web dc_law_web pm_law_web ct_law_web : Value} {cd_law_web : Value} {A_law_paint : Addr} {od_law_paint an_law_paint : Option Addr} {sl_law_paint : Array (Option Value)} {oc_law_paint kV_law_paint dc_law_paint pm_law_paint ct_law_paint : Value} {cd_law_paint : Value} {A_law_bent : Addr} {od_law_bent an_law_bent : Option Addr} {sl_law_bent : Array (Option Value)} {oc_law_bent kV_law_bent dc_law_bent pm_law_bent ct_law_bent : Value} {cd_law_bent : Value} {A_law_is_web_right : Addr} {od_law_is_web_right an_law_is_web_right : Option Addr} {sl_law_is_web_right : Array (Option Value)} {oc_law_is_web_right kV_law_is_web_right dc_law_is_web_right pm_law_is_web_right ct_law_is_web_right : Value} {ca_law_is_web_right : Addr} {P_law_is_web_right : Addr} {oo_law_is_web_right : Option Addr} {vs_law_is_web_right : Array Value} {os_law_is_web_right : Array (Option Value)} {A_law_is_paint_right : Addr} {od_law_is_paint_right an_law_is_paint_right : Option Addr} {sl_law_is_paint_right : Array (Option Value)} {oc_law_is_paint_right kV_law_is_paint_right dc_law_is_paint_right pm_law_is_paint_right ct_law_is_paint_right : Value} {ca_law_is_paint_right : Addr} {P_law_is_paint_right : Addr} {oo_law_is_paint_right : Option Addr} {vs_law_is_paint_right : Array Value} {os_law_is_paint_right : Array (Option Value)} {Alaw : Addr} {odlaw anlaw : Option Addr} {sllaw : Array (Option Value)} {oclaw kVlaw dclaw pmlaw ctlaw : Value} {calaw : Addr} {Plaw : Addr} {oolaw : Option Addr} {vslaw : Array Value} {oslaw : Array (Option Value)} {tkDIGITS : Tok} {tkEMPTY : Tok} {tkBARE : Tok} {tkMOST_PLACES : Tok} {CBadText : Addr} {CColourError : Addr} {IBadText : Addr} {nmBadText qBadText : Str} {NBadText : Addr} {bsBadText : List Value} {bmBadText : List Value} {snBadText : List Str} {suBadText : List Value} {abBadText : Bool} {coBadText : Option Bool} {ddBadText : Option Addr} {x0BadText x1BadText x2BadText x3BadText x5BadText : Option Value} {odI_BadText anI_BadText : Option Addr} {slI_BadText : Array (Option Value)} {ocI_BadText kVI_BadText dcI_BadText pmI_BadText ctI_BadText cdI_BadText : Value}
    (a_tie_in : PySem.W.nsIn K mainGlobals "tie_in" = some (some (.ref Atie_in)))
    (l_tie_in : K.lookup Atie_in = some ⟨octie_in, odtie_in, .func (PySem.W.fnOf "tie_in" "tie_in" (defArgs (top 8)) (defBody (top 8)) (defScope (top 8)) .none kVtie_in dctie_in pmtie_in antie_in cdtie_in cttie_in), sltie_in⟩)
    (c_tie_in : PySem.W.codeIn K cdtie_in "tie_in" = true)
    (k_tie_in : PySem.W.keepIn K (.ref Atie_in) = true)
    (a__law_tape : PySem.W.nsIn K mainGlobals "_law_tape" = some (some (.ref A_law_tape)))
    (l__law_tape : K.lookup A_law_tape = some ⟨oc_law_tape, od_law_tape, .func (PySem.W.fnOf "_law_tape" "_law_tape" (defArgs (top 12)) (defBody (top 12)) (defScope (top 12)) .none kV_law_tape dc_law_tape pm_law_tape an_law_tape cd_law_tape ct_law_tape), sl_law_tape⟩)
    (c__law_tape : PySem.W.codeIn K cd_law_tape "_law_tape" = true)
    (k__law_tape : PySem.W.keepIn K (.ref A_law_tape) = true)
    (a__law_pick : PySem.W.nsIn K mainGlobals "_law_pick" = some (some (.ref A_law_pick)))
    (l__law_pick : K.lookup A_law_pick = some ⟨oc_law_pick, od_law_pick, .func (PySem.W.fnOf "_law_pick" "_law_pick" (defArgs (top 13)) (defBody (top 13)) (defScope (top 13)) .none kV_law_pick dc_law_pick pm_law_pick an_law_pick cd_law_pick ct_law_pick), sl_law_pick⟩)
    (c__law_pick : PySem.W.codeIn K cd_law_pick "_law_pick" = true)
    (k__law_pick : PySem.W.keepIn K (.ref A_law_pick) = true)
    (a__law_text : PySem.W.nsIn K mainGlobals "_law_text" = some (some (.ref A_law_text)))
    (l__law_text : K.lookup A_law_text = some ⟨oc_law_text, od_law_text, .func (PySem.W.fnOf "_law_text" "_law_text" (defArgs (top 16)) (defBody (top 16)) (defScope (top 16)) .none kV_law_text dc_law_text pm_law_text an_law_text cd_law_text ct_law_text), sl_law_text⟩)
    (c__law_text : PySem.W.codeIn K cd_law_text "_law_text" = true)
    (k__law_text : PySem.W.keepIn K (.ref A_law_text) = true)
    (a__law_paint_text : PySem.W.nsIn K mainGlobals "_law_paint_text" = some (some (.ref A_law_paint_text)))
    (l__law_paint_text : K.lookup A_law_paint_text = some ⟨oc_law_paint_text, od_law_paint_text, .func (PySem.W.fnOf "_law_paint_text" "_law_paint_text" (defArgs (top 18)) (defBody (top 18)) (defScope (top 18)) .none kV_law_paint_text dc_law_paint_text pm_law_paint_text an_law_paint_text cd_law_paint_text ct_law_paint_text), sl_law_paint_text⟩)
    (c__law_paint_text : PySem.W.codeIn K cd_law_paint_text "_law_paint_text" = true)
    (k__law_paint_text : PySem.W.keepIn K (.ref A_law_paint_text) = true)
    (a__law_told : PySem.W.nsIn K mainGlobals "_law_told" = some (some (.ref A_law_told)))
    (l__law_told : K.lookup A_law_told = some ⟨oc_law_told, od_law_told, .func (PySem.W.fnOf "_law_told" "_law_told" (defArgs (top 19)) (defBody (top 19)) (defScope (top 19)) .none kV_law_told dc_law_told pm_law_told an_law_told cd_law_told ct_law_told), sl_law_told⟩)
    (c__law_told : PySem.W.codeIn K cd_law_told "_law_told" = true)
    (k__law_told : PySem.W.keepIn K (.ref A_law_told) = true)
    (a__law_due : PySem.W.nsIn K mainGlobals "_law_due" = some (some (.ref A_law_due)))
    (l__law_due : K.lookup A_law_due = some ⟨oc_law_due, od_law_due, .func (PySem.W.fnOf "_law_due" "_law_due" (defArgs (top 20)) (defBody (top 20)) (defScope (top 20)) .none kV_law_due dc_law_due pm_law_due an_law_due cd_law_due ct_law_due), sl_law_due⟩)
    (c__law_due : PySem.W.codeIn K cd_law_due "_law_due" = true)
    (k__law_due : PySem.W.keepIn K (.ref A_law_due) = true)
    (a__law_any : PySem.W.nsIn K mainGlobals "_law_any" = some (some (.ref A_law_any)))
    (l__law_any : K.lookup A_law_any = some ⟨oc_law_any, od_law_any, .func (PySem.W.fnOf "_law_any" "_law_any" (defArgs (top 14)) (defBody (top 14)) (defScope (top 14)) .none kV_law_any dc_law_any pm_law_any an_law_any cd_law_any ct_law_any), sl_law_any⟩)
    (c__law_any : PySem.W.codeIn K cd_law_any "_law_any" = true)
    (k__law_any : PySem.W.keepIn K (.ref A_law_any) = true)
    (a_read_web : PySem.W.nsIn K mainGlobals "read_web" = some (some (.ref Aread_web)))
    (l_read_web : K.lookup Aread_web = some ⟨ocread_web, odread_web, .func (PySem.W.fnOf "read_web" "read_web" (defArgs (top 9)) (defBody (top 9)) (defScope (top 9)) .none kVread_web dcread_web pmread_web anread_web cdread_web ctread_web), slread_web⟩)
    (c_read_web : PySem.W.codeIn K cdread_web "read_web" = true)
    (k_read_web : PySem.W.keepIn K (.ref Aread_web) = true)
    (a_read_paint : PySem.W.nsIn K mainGlobals "read_paint" = some (some (.ref Aread_paint)))
    (l_read_paint : K.lookup Aread_paint = some ⟨ocread_paint, odread_paint, .func (PySem.W.fnOf "read_paint" "read_paint" (defArgs (top 10)) (defBody (top 10)) (defScope (top 10)) .none kVread_paint dcread_paint pmread_paint anread_paint cdread_paint ctread_paint), slread_paint⟩)
    (c_read_paint : PySem.W.codeIn K cdread_paint "read_paint" = true)
    (k_read_paint : PySem.W.keepIn K (.ref Aread_paint) = true)
    (a__law_web : PySem.W.nsIn K mainGlobals "_law_web" = some (some (.ref A_law_web)))
    (l__law_web : K.lookup A_law_web = some ⟨oc_law_web, od_law_web, .func (PySem.W.fnOf "_law_web" "_law_web" (defArgs (top 15)) (defBody (top 15)) (defScope (top 15)) .none kV_law_web dc_law_web pm_law_web an_law_web cd_law_web ct_law_web), sl_law_web⟩)
    (c__law_web : PySem.W.codeIn K cd_law_web "_law_web" = true)
    (k__law_web : PySem.W.keepIn K (.ref A_law_web) = true)
    (a__law_paint : PySem.W.nsIn K mainGlobals "_law_paint" = some (some (.ref A_law_paint)))
    (l__law_paint : K.lookup A_law_paint = some ⟨oc_law_paint, od_law_paint, .func (PySem.W.fnOf "_law_paint" "_law_paint" (defArgs (top 17)) (defBody (top 17)) (defScope (top 17)) .none kV_law_paint dc_law_paint pm_law_paint an_law_paint cd_law_paint ct_law_paint), sl_law_paint⟩)
    (c__law_paint : PySem.W.codeIn K cd_law_paint "_law_paint" = true)
    (k__law_paint : PySem.W.keepIn K (.ref A_law_paint) = true)
    (a__law_bent : PySem.W.nsIn K mainGlobals "_law_bent" = some (some (.ref A_law_bent)))
    (l__law_bent : K.lookup A_law_bent = some ⟨oc_law_bent, od_law_bent, .func (PySem.W.fnOf "_law_bent" "_law_bent" (defArgs (top 21)) (defBody (top 21)) (defScope (top 21)) .none kV_law_bent dc_law_bent pm_law_bent an_law_bent cd_law_bent ct_law_bent), sl_law_bent⟩)
    (c__law_bent : PySem.W.codeIn K cd_law_bent "_law_bent" = true)
    (k__law_bent : PySem.W.keepIn K (.ref A_law_bent) = true)
    (a__law_is_web_right : PySem.W.nsIn K mainGlobals "_law_is_web_right" = some (some (.ref A_law_is_web_right)))
    (l__law_is_web_right : K.lookup A_law_is_web_right = some ⟨oc_law_is_web_right, od_law_is_web_right, .func (PySem.W.fnOf "_law_is_web_right" "_law_is_web_right" (defArgs (top 22)) (defBody (top 22)) (defScope (top 22)) .none kV_law_is_web_right dc_law_is_web_right pm_law_is_web_right an_law_is_web_right (.ref ca_law_is_web_right) ct_law_is_web_right), sl_law_is_web_right⟩)
    (c__law_is_web_right : PySem.W.codeIn K (.ref ca_law_is_web_right) "_law_is_web_right" = true)
    (k__law_is_web_right : PySem.W.keepIn K (.ref A_law_is_web_right) = true)
    (v__law_is_web_right : K.lookup ca_law_is_web_right = some ⟨.type "code", oo_law_is_web_right, .fields vs_law_is_web_right, os_law_is_web_right⟩)
    (p__law_is_web_right : vs_law_is_web_right[11]? = some (.ref P_law_is_web_right))
    (h__law_is_web_right : PySem.W.codeHdIn K ca_law_is_web_right P_law_is_web_right = true)
    (n__law_is_web_right : K.lookup P_law_is_web_right = none)
    (m__law_is_web_right : P_law_is_web_right ∈ ts)
    (a__law_is_paint_right : PySem.W.nsIn K mainGlobals "_law_is_paint_right" = some (some (.ref A_law_is_paint_right)))
    (l__law_is_paint_right : K.lookup A_law_is_paint_right = some ⟨oc_law_is_paint_right, od_law_is_paint_right, .func (PySem.W.fnOf "_law_is_paint_right" "_law_is_paint_right" (defArgs (top 23)) (defBody (top 23)) (defScope (top 23)) .none kV_law_is_paint_right dc_law_is_paint_right pm_law_is_paint_right an_law_is_paint_right (.ref ca_law_is_paint_right) ct_law_is_paint_right), sl_law_is_paint_right⟩)
    (c__law_is_paint_right : PySem.W.codeIn K (.ref ca_law_is_paint_right) "_law_is_paint_right" = true)
    (k__law_is_paint_right : PySem.W.keepIn K (.ref A_law_is_paint_right) = true)
    (v__law_is_paint_right : K.lookup ca_law_is_paint_right = some ⟨.type "code", oo_law_is_paint_right, .fields vs_law_is_paint_right, os_law_is_paint_right⟩)
    (p__law_is_paint_right : vs_law_is_paint_right[11]? = some (.ref P_law_is_paint_right))
    (h__law_is_paint_right : PySem.W.codeHdIn K ca_law_is_paint_right P_law_is_paint_right = true)
    (n__law_is_paint_right : K.lookup P_law_is_paint_right = none)
    (m__law_is_paint_right : P_law_is_paint_right ∈ ts)
    (a_law : PySem.W.nsIn K mainGlobals "law" = some (some (.ref Alaw)))
    (l_law : K.lookup Alaw = some ⟨oclaw, odlaw, .func (PySem.W.fnOf "law" "law" (defArgs (top 24)) (defBody (top 24)) (defScope (top 24)) .none kVlaw dclaw pmlaw anlaw (.ref calaw) ctlaw), sllaw⟩)
    (c_law : PySem.W.codeIn K (.ref calaw) "law" = true)
    (k_law : PySem.W.keepIn K (.ref Alaw) = true)
    (v_law : K.lookup calaw = some ⟨.type "code", oolaw, .fields vslaw, oslaw⟩)
    (p_law : vslaw[11]? = some (.ref Plaw))
    (h_law : PySem.W.codeHdIn K calaw Plaw = true)
    (n_law : K.lookup Plaw = none)
    (m_law : Plaw ∈ ts)
    (nd : ([P_law_is_web_right, P_law_is_paint_right, Plaw] : List Addr).Nodup)
    (b_ValueError : PySem.W.nsIn K mainGlobals "ValueError" = some none)
    (b_abs : PySem.W.nsIn K mainGlobals "abs" = some none)
    (b_enumerate : PySem.W.nsIn K mainGlobals "enumerate" = some none)
    (b_int : PySem.W.nsIn K mainGlobals "int" = some none)
    (b_isinstance : PySem.W.nsIn K mainGlobals "isinstance" = some none)
    (b_len : PySem.W.nsIn K mainGlobals "len" = some none)
    (b_range : PySem.W.nsIn K mainGlobals "range" = some none)
    (b_str : PySem.W.nsIn K mainGlobals "str" = some none)
    (b_tuple : PySem.W.nsIn K mainGlobals "tuple" = some none)
    (c_DIGITS : PySem.W.nsIn K mainGlobals "DIGITS" = some (some (.str "0123456789" tkDIGITS)))
    (c_EMPTY : PySem.W.nsIn K mainGlobals "EMPTY" = some (some (.str "-" tkEMPTY)))
    (c_BARE : PySem.W.nsIn K mainGlobals "BARE" = some (some (.str "." tkBARE)))
    (c_MOST_PLACES : PySem.W.nsIn K mainGlobals "MOST_PLACES" = some (some (.int 8 tkMOST_PLACES)))
    (g_BadText : PySem.W.nsIn K mainGlobals "BadText" = some (some (.ref CBadText)))
    (g_ColourError : PySem.W.nsIn K mainGlobals "ColourError" = some (some (.ref CColourError)))
    (xB : ([("BadText", CBadText)] : List (Str × Addr)).all (fun p => excB K p.2) = true)
    (xL_BadText : K.lookup CBadText = some (excClassObj nmBadText qBadText CBadText NBadText bsBadText bmBadText true snBadText suBadText abBadText coBadText ddBadText x0BadText x1BadText x2BadText x3BadText x5BadText "ValueError.__new__"))
    (xR_BadText : PySem.HandSPX.refsVE bmBadText = true)
    (xS_BadText : PySem.W.findIn K (.ref CBadText) "__setattr__" = some (some (.builtin "object.__setattr__")))
    (i_BadText : PySem.W.findIn K (.ref CBadText) "__init__" = some (some (.ref IBadText)))
    (ti_BadText : PySem.W.typeIn K (.ref IBadText) = some (.type "function"))
    (no_BadText : PySem.W.findIn K (.ref CBadText) "place" = some none)
    (l_I_BadText : K.lookup IBadText = some ⟨ocI_BadText, odI_BadText, .func (PySem.W.fnOf "__init__" "BadText.__init__" (defArgs (clsInit (top 2))) (defBody (clsInit (top 2))) (defScope (clsInit (top 2))) .none kVI_BadText dcI_BadText pmI_BadText anI_BadText cdI_BadText ctI_BadText), slI_BadText⟩)
    (c_I_BadText : PySem.W.codeIn K cdI_BadText "BadText.__init__" = true)
    (k_I_BadText : PySem.W.keepIn K (.ref IBadText) = true)
    (kB_BadText : ([("BadText", CBadText)] : List (Str × Addr)).all (fun p => decide (PySem.W.kitOne K (.ref p.2) (.ref CBadText) = some (inS ["BadText"] p.1))) = true)
    (kB_ValueError : ([("BadText", CBadText)] : List (Str × Addr)).all (fun p => decide (PySem.W.kitOne K (.ref p.2) (.type "ValueError") = some (inS ["BadText"] p.1))) = true)
    (eB_ColourError : ([("BadText", CBadText)] : List (Str × Addr)).all (fun p => decide (PySem.W.exmOne K (.ref p.2) (.ref CColourError) = some (inS ["BadText"] p.1))) = true)
    (nB_place : ([("BadText", CBadText)] : List (Str × Addr)).all (fun p => decide (PySem.W.findIn K (.ref p.2) "place" = some none)) = true)
    : LawAtS PySem.Challenge.rw_colourhouse_k77_texts_of_webs_misread w K (L2.CX PySem.Challenge.rw_colourhouse_k77_texts_of_webs_misread.prog w) 8 63 "script" mg fa h := by
  have e : Alaw = fa := by
    have e := hfa.symm.trans (PySem.W.mg_of X G a_law)
    cases e
    rfl
  subst e
  have F_tie_in := fun_mk (st := top 8) l_tie_in c_tie_in k_tie_in
  have B_tie_in := F_tie_in.binds (ps := ["n", "word"]) fun _ _ _ _ _ _ us hl => match us, hl with | [_, _], _ => rfl
  have F__law_tape := fun_mk (st := top 12) l__law_tape c__law_tape k__law_tape
  have B__law_tape := F__law_tape.binds (ps := ["script"]) fun _ _ _ _ _ _ us hl => match us, hl with | [_], _ => rfl
  have F__law_pick := fun_mk (st := top 13) l__law_pick c__law_pick k__law_pick
  have B__law_pick := F__law_pick.binds (ps := ["tape", "many"]) fun _ _ _ _ _ _ us hl => match us, hl with | [_, _], _ => rfl
  have F__law_text := fun_mk (st := top 16) l__law_text c__law_text k__law_text
  have B__law_text := F__law_text.binds (ps := ["web"]) fun _ _ _ _ _ _ us hl => match us, hl with | [_], _ => rfl
  have F__law_paint_text := fun_mk (st := top 18) l__law_paint_text c__law_paint_text k__law_paint_text
  have B__law_paint_text := F__law_paint_text.binds (ps := ["paint"]) fun _ _ _ _ _ _ us hl => match us, hl with | [_], _ => rfl
  have F__law_told := fun_mk (st := top 19) l__law_told c__law_told k__law_told
  have B__law_told := F__law_told.binds (ps := ["call"]) fun _ _ _ _ _ _ us hl => match us, hl with | [_], _ => rfl
  have F__law_due := fun_mk (st := top 20) l__law_due c__law_due k__law_due
  have B__law_due := F__law_due.binds (ps := ["text"]) fun _ _ _ _ _ _ us hl => match us, hl with | [_], _ => rfl
  have F__law_any := fun_mk (st := top 14) l__law_any c__law_any k__law_any
  have B__law_any := F__law_any.binds (ps := ["tape", "things"]) fun _ _ _ _ _ _ us hl => match us, hl with | [_, _], _ => rfl
  have F_read_web := fun_mk (st := top 9) l_read_web c_read_web k_read_web
  have B_read_web := F_read_web.binds (ps := ["text"]) fun _ _ _ _ _ _ us hl => match us, hl with | [_], _ => rfl
  have F_read_paint := fun_mk (st := top 10) l_read_paint c_read_paint k_read_paint
  have B_read_paint := F_read_paint.binds (ps := ["text"]) fun _ _ _ _ _ _ us hl => match us, hl with | [_], _ => rfl
  have F__law_web := fun_mk (st := top 15) l__law_web c__law_web k__law_web
  have B__law_web := F__law_web.binds (ps := ["tape", "most"]) fun _ _ _ _ _ _ us hl => match us, hl with | [_, _], _ => rfl
  have F__law_paint := fun_mk (st := top 17) l__law_paint c__law_paint k__law_paint
  have B__law_paint := F__law_paint.binds (ps := ["tape", "n", "k"]) fun _ _ _ _ _ _ us hl => match us, hl with | [_, _, _], _ => rfl
  have F__law_bent := fun_mk (st := top 21) l__law_bent c__law_bent k__law_bent
  have B__law_bent := F__law_bent.binds (ps := ["tape", "text"]) fun _ _ _ _ _ _ us hl => match us, hl with | [_, _], _ => rfl
  have F__law_is_web_right := func_mk (st := top 22) l__law_is_web_right c__law_is_web_right k__law_is_web_right
  have B__law_is_web_right := F__law_is_web_right.fn.binds (ps := ["tape", "web"]) fun _ _ _ _ _ _ us hl => match us, hl with | [_, _], _ => rfl
  have F__law_is_paint_right := func_mk (st := top 23) l__law_is_paint_right c__law_is_paint_right k__law_is_paint_right
  have B__law_is_paint_right := F__law_is_paint_right.fn.binds (ps := ["tape"]) fun _ _ _ _ _ _ us hl => match us, hl with | [_], _ => rfl
  have F_law := func_mk (st := top 24) l_law c_law k_law
  have B_law := F_law.fn.binds (ps := ["script"]) fun _ _ _ _ _ _ us hl => match us, hl with | [_], _ => rfl
  have F_I_BadText := fun_mk (st := clsInit (top 2)) l_I_BadText c_I_BadText k_I_BadText
  have B_I_BadText := F_I_BadText.binds (ps := ["self", "place"]) fun _ _ _ _ _ _ us hl => match us, hl with | [_, _], _ => rfl
  have t_BadText := excB_ok (all_cls xB ("BadText", CBadText) (by simp))
  let T : Tx K mg := { A_tie_in := Atie_in, D_tie_in := _, F_tie_in := F_tie_in, G_tie_in := PySem.W.mg_of X G a_tie_in, B_tie_in := B_tie_in, A__law_tape := A_law_tape, D__law_tape := _, F__law_tape := F__law_tape, G__law_tape := PySem.W.mg_of X G a__law_tape, B__law_tape := B__law_tape, A__law_pick := A_law_pick, D__law_pick := _, F__law_pick := F__law_pick, G__law_pick := PySem.W.mg_of X G a__law_pick, B__law_pick := B__law_pick, A__law_text := A_law_text, D__law_text := _, F__law_text := F__law_text, G__law_text := PySem.W.mg_of X G a__law_text, B__law_text := B__law_text, A__law_paint_text := A_law_paint_text, D__law_paint_text := _, F__law_paint_text := F__law_paint_text, G__law_paint_text := PySem.W.mg_of X G a__law_paint_text, B__law_paint_text := B__law_paint_text, A__law_told := A_law_told, D__law_told := _, F__law_told := F__law_told, G__law_told := PySem.W.mg_of X G a__law_told, B__law_told := B__law_told, A__law_due := A_law_due, D__law_due := _, F__law_due := F__law_due, G__law_due := PySem.W.mg_of X G a__law_due, B__law_due := B__law_due, A__law_any := A_law_any, D__law_any := _, F__law_any := F__law_any, G__law_any := PySem.W.mg_of X G a__law_any, B__law_any := B__law_any, A_read_web := Aread_web, D_read_web := _, F_read_web := F_read_web, G_read_web := PySem.W.mg_of X G a_read_web, B_read_web := B_read_web, A_read_paint := Aread_paint, D_read_paint := _, F_read_paint := F_read_paint, G_read_paint := PySem.W.mg_of X G a_read_paint, B_read_paint := B_read_paint, A__law_web := A_law_web, D__law_web := _, F__law_web := F__law_web, G__law_web := PySem.W.mg_of X G a__law_web, B__law_web := B__law_web, A__law_paint := A_law_paint, D__law_paint := _, F__law_paint := F__law_paint, G__law_paint := PySem.W.mg_of X G a__law_paint, B__law_paint := B__law_paint, A__law_bent := A_law_bent, D__law_bent := _, F__law_bent := F__law_bent, G__law_bent := PySem.W.mg_of X G a__law_bent, B__law_bent := B__law_bent, A__law_is_web_right := A_law_is_web_right, D__law_is_web_right := _, cA__law_is_web_right := ca_law_is_web_right, P__law_is_web_right := P_law_is_web_right, F__law_is_web_right := F__law_is_web_right, G__law_is_web_right := PySem.W.mg_of X G a__law_is_web_right, B__law_is_web_right := B__law_is_web_right, A__law_is_paint_right := A_law_is_paint_right, D__law_is_paint_right := _, cA__law_is_paint_right := ca_law_is_paint_right, P__law_is_paint_right := P_law_is_paint_right, F__law_is_paint_right := F__law_is_paint_right, G__law_is_paint_right := PySem.W.mg_of X G a__law_is_paint_right, B__law_is_paint_right := B__law_is_paint_right, A_law := Alaw, D_law := _, cA_law := calaw, P_law := Plaw, F_law := F_law, G_law := PySem.W.mg_of X G a_law, B_law := B_law, C_BadText := CBadText, g_BadText := PySem.W.mg_of X G g_BadText, C_ColourError := CColourError, g_ColourError := PySem.W.mg_of X G g_ColourError, I_BadText := IBadText, J_BadText := _, FI_BadText := F_I_BadText, BI_BadText := B_I_BadText, o_BadText := ⟨⟨_, _, _, _, _, _, _, _, _, _, _, _, _, _, _, xL_BadText, xR_BadText⟩, xS_BadText, t_BadText.b, t_BadText.t, t_BadText.k⟩, i_BadText := i_BadText, ti_BadText := ti_BadText, no_BadText := no_BadText, b_ValueError := PySem.W.mg_none_of X G b_ValueError, b_abs := PySem.W.mg_none_of X G b_abs, b_enumerate := PySem.W.mg_none_of X G b_enumerate, b_int := PySem.W.mg_none_of X G b_int, b_isinstance := PySem.W.mg_none_of X G b_isinstance, b_len := PySem.W.mg_none_of X G b_len, b_range := PySem.W.mg_none_of X G b_range, b_str := PySem.W.mg_none_of X G b_str, b_tuple := PySem.W.mg_none_of X G b_tuple, c_DIGITS := ⟨_, PySem.W.mg_of X G c_DIGITS⟩, c_EMPTY := ⟨_, PySem.W.mg_of X G c_EMPTY⟩, c_BARE := ⟨_, PySem.W.mg_of X G c_BARE⟩, c_MOST_PLACES := ⟨_, PySem.W.mg_of X G c_MOST_PLACES⟩, nd := nd, xB := xB, kB_BadText := kB_BadText, kB_ValueError := kB_ValueError, eB_ColourError := eB_ColourError, nB_place := nB_place }
  have q : ∀ p ∈ T.cs, h.get? p.2 = some { cls := .none, data := .fields #[] } ∧ K.lookup p.2 = none ∧ PySem.W.CodeHd h p.1 p.2 := by
    intro p hp
    simp only [Tx.cs, List.mem_cons, List.not_mem_nil, or_false] at hp
    rcases hp with rfl | rfl | rfl
    · exact ⟨tt _ m__law_is_web_right, n__law_is_web_right, PySem.W.codeHd_of_K X h__law_is_web_right⟩
    · exact ⟨tt _ m__law_is_paint_right, n__law_is_paint_right, PySem.W.codeHd_of_K X h__law_is_paint_right⟩
    · exact ⟨tt _ m_law, n_law, PySem.W.codeHd_of_K X h_law⟩
  refine ⟨_, T.cs, spLaw K (gW T.tabs []) 63, fun p hp => (q p hp).1, fun p hp => (q p hp).2.1, fun p hp => (q p hp).2.2, fun s u => .of_eq rfl, fun H a ns hl hb ht hs => ⟨a, ns, rfl, hl, hb, hs, fun p hp => ?_, fun _ => rfl⟩, fun base _ _ tb => ok_law T tb hp⟩
  simp only [Tx.tabs, List.mem_cons, List.not_mem_nil, or_false] at hp
  rcases hp with rfl | rfl | rfl
  · exact ht (ca_law_is_web_right, P_law_is_web_right) (by simp [Tx.cs, T])
  · exact ht (ca_law_is_paint_right, P_law_is_paint_right) (by simp [Tx.cs, T])
  · exact ht (calaw, Plaw) (by simp [Tx.cs, T])
end K77
open PySem PySem.W PyProof.Rows
set_option maxHeartbeats 0 in
theorem PySem.Challenge.cw_colourhouse_k77_texts_of_webs_misread_holds : PySem.Challenge.rw_colourhouse_k77_texts_of_webs_misread.Holds := by
  w_on; o_law; k_head; (case hw => w_witness2)
  k_fill
  refine LamX.walk_ofTs (l := PySem.Challenge.rw_colourhouse_k77_texts_of_webs_misread) (n := 63) (k := 8) (x := "script") (CX := fun w => L2.CX PySem.Challenge.rw_colourhouse_k77_texts_of_webs_misread.prog w) rfl (by decide) rfl ⟨rfl, by decide, by decide⟩ (fun w h Y => km_in_of Y) ?F ?CX
  case CX => exact fun w H s e s' h => by obtain ⟨_, _, _, _, _, _, _, _, _, _, _, _, z⟩ := h; exact z
  case F =>
    intro w mg fa h Y KX G hmg
    refine' K77.all_mk K77.pure_ok KX G hmg (km_tabs_of Y) ?a_tie_in ?l_tie_in ?c_tie_in ?k_tie_in ?a__law_tape ?l__law_tape ?c__law_tape ?k__law_tape ?a__law_pick ?l__law_pick ?c__law_pick ?k__law_pick ?a__law_text ?l__law_text ?c__law_text ?k__law_text ?a__law_paint_text ?l__law_paint_text ?c__law_paint_text ?k__law_paint_text ?a__law_told ?l__law_told ?c__law_told ?k__law_told ?a__law_due ?l__law_due ?c__law_due ?k__law_due ?a__law_any ?l__law_any ?c__law_any ?k__law_any ?a_read_web ?l_read_web ?c_read_web ?k_read_web ?a_read_paint ?l_read_paint ?c_read_paint ?k_read_paint ?a__law_web ?l__law_web ?c__law_web ?k__law_web ?a__law_paint ?l__law_paint ?c__law_paint ?k__law_paint ?a__law_bent ?l__law_bent ?c__law_bent ?k__law_bent ?a__law_is_web_right ?l__law_is_web_right ?c__law_is_web_right ?k__law_is_web_right ?v__law_is_web_right ?p__law_is_web_right ?h__law_is_web_right ?n__law_is_web_right ?m__law_is_web_right ?a__law_is_paint_right ?l__law_is_paint_right ?c__law_is_paint_right ?k__law_is_paint_right ?v__law_is_paint_right ?p__law_is_paint_right ?h__law_is_paint_right ?n__law_is_paint_right ?m__law_is_paint_right ?a_law ?l_law ?c_law ?k_law ?v_law ?p_law ?h_law ?n_law ?m_law ?nd ?b_ValueError ?b_abs ?b_enumerate ?b_int ?b_isinstance ?b_len ?b_range ?b_str ?b_tuple ?c_DIGITS ?c_EMPTY ?c_BARE ?c_MOST_PLACES ?g_BadText ?g_ColourError ?xB ?xL_BadText ?xR_BadText ?xS_BadText ?i_BadText ?ti_BadText ?no_BadText ?l_I_BadText ?c_I_BadText ?k_I_BadText ?kB_BadText ?kB_ValueError ?eB_ColourError ?nB_place
    (case a_tie_in => first | k_is | kernel_rfl | rfl)
    (case l_tie_in => first | k_is | kernel_rfl | rfl)
    (case c_tie_in => first | k_is | kernel_rfl | rfl)
    (case k_tie_in => first | k_is | kernel_rfl | rfl)
    (case a__law_tape => first | k_is | kernel_rfl | rfl)
    (case l__law_tape => first | k_is | kernel_rfl | rfl)
    (case c__law_tape => first | k_is | kernel_rfl | rfl)
    (case k__law_tape => first | k_is | kernel_rfl | rfl)
    (case a__law_pick => first | k_is | kernel_rfl | rfl)
    (case l__law_pick => first | k_is | kernel_rfl | rfl)
    (case c__law_pick => first | k_is | kernel_rfl | rfl)
    (case k__law_pick => first | k_is | kernel_rfl | rfl)
    (case a__law_text => first | k_is | kernel_rfl | rfl)
    (case l__law_text => first | k_is | kernel_rfl | rfl)
    (case c__law_text => first | k_is | kernel_rfl | rfl)
    (case k__law_text => first | k_is | kernel_rfl | rfl)
    (case a__law_paint_text => first | k_is | kernel_rfl | rfl)
    (case l__law_paint_text => first | k_is | kernel_rfl | rfl)
    (case c__law_paint_text => first | k_is | kernel_rfl | rfl)
    (case k__law_paint_text => first | k_is | kernel_rfl | rfl)
    (case a__law_told => first | k_is | kernel_rfl | rfl)
    (case l__law_told => first | k_is | kernel_rfl | rfl)
    (case c__law_told => first | k_is | kernel_rfl | rfl)
    (case k__law_told => first | k_is | kernel_rfl | rfl)
    (case a__law_due => first | k_is | kernel_rfl | rfl)
    (case l__law_due => first | k_is | kernel_rfl | rfl)
    (case c__law_due => first | k_is | kernel_rfl | rfl)
    (case k__law_due => first | k_is | kernel_rfl | rfl)
    (case a__law_any => first | k_is | kernel_rfl | rfl)
    (case l__law_any => first | k_is | kernel_rfl | rfl)
    (case c__law_any => first | k_is | kernel_rfl | rfl)
    (case k__law_any => first | k_is | kernel_rfl | rfl)
    (case a_read_web => first | k_is | kernel_rfl | rfl)
    (case l_read_web => first | k_is | kernel_rfl | rfl)
    (case c_read_web => first | k_is | kernel_rfl | rfl)
    (case k_read_web => first | k_is | kernel_rfl | rfl)
    (case a_read_paint => first | k_is | kernel_rfl | rfl)
    (case l_read_paint => first | k_is | kernel_rfl | rfl)
    (case c_read_paint => first | k_is | kernel_rfl | rfl)
    (case k_read_paint => first | k_is | kernel_rfl | rfl)
    (case a__law_web => first | k_is | kernel_rfl | rfl)
    (case l__law_web => first | k_is | kernel_rfl | rfl)
    (case c__law_web => first | k_is | kernel_rfl | rfl)
    (case k__law_web => first | k_is | kernel_rfl | rfl)
    (case a__law_paint => first | k_is | kernel_rfl | rfl)
    (case l__law_paint => first | k_is | kernel_rfl | rfl)
    (case c__law_paint => first | k_is | kernel_rfl | rfl)
    (case k__law_paint => first | k_is | kernel_rfl | rfl)
    (case a__law_bent => first | k_is | kernel_rfl | rfl)
    (case l__law_bent => first | k_is | kernel_rfl | rfl)
    (case c__law_bent => first | k_is | kernel_rfl | rfl)
    (case k__law_bent => first | k_is | kernel_rfl | rfl)
    (case a__law_is_web_right => first | k_is | kernel_rfl | rfl)
    (case l__law_is_web_right => first | k_is | kernel_rfl | rfl)
    (case c__law_is_web_right => first | k_is | kernel_rfl | rfl)
    (case k__law_is_web_right => first | k_is | kernel_rfl | rfl)
    (case v__law_is_web_right => first | k_is | kernel_rfl | rfl)
    (case p__law_is_web_right => rfl)
    (case h__law_is_web_right => first | k_is | kernel_rfl | rfl)
    (case n__law_is_web_right => first | k_is | kernel_rfl | rfl)
    (case m__law_is_web_right => simp)
    (case a__law_is_paint_right => first | k_is | kernel_rfl | rfl)
    (case l__law_is_paint_right => first | k_is | kernel_rfl | rfl)
    (case c__law_is_paint_right => first | k_is | kernel_rfl | rfl)
    (case k__law_is_paint_right => first | k_is | kernel_rfl | rfl)
    (case v__law_is_paint_right => first | k_is | kernel_rfl | rfl)
    (case p__law_is_paint_right => rfl)
    (case h__law_is_paint_right => first | k_is | kernel_rfl | rfl)
    (case n__law_is_paint_right => first | k_is | kernel_rfl | rfl)
    (case m__law_is_paint_right => simp)
    (case a_law => first | k_is | kernel_rfl | rfl)
    (case l_law => first | k_is | kernel_rfl | rfl)
    (case c_law => first | k_is | kernel_rfl | rfl)
    (case k_law => first | k_is | kernel_rfl | rfl)
    (case v_law => first | k_is | kernel_rfl | rfl)
    (case p_law => rfl)
    (case h_law => first | k_is | kernel_rfl | rfl)
    (case n_law => first | k_is | kernel_rfl | rfl)
    (case m_law => simp)
    (case nd => decide)
    (case b_ValueError => first | k_is | kernel_rfl | rfl)
    (case b_abs => first | k_is | kernel_rfl | rfl)
    (case b_enumerate => first | k_is | kernel_rfl | rfl)
    (case b_int => first | k_is | kernel_rfl | rfl)
    (case b_isinstance => first | k_is | kernel_rfl | rfl)
    (case b_len => first | k_is | kernel_rfl | rfl)
    (case b_range => first | k_is | kernel_rfl | rfl)
    (case b_str => first | k_is | kernel_rfl | rfl)
    (case b_tuple => first | k_is | kernel_rfl | rfl)
    (case c_DIGITS => first | k_is | kernel_rfl | rfl)
    (case c_EMPTY => first | k_is | kernel_rfl | rfl)
    (case c_BARE => first | k_is | kernel_rfl | rfl)
    (case c_MOST_PLACES => first | k_is | kernel_rfl | rfl)
    (case g_BadText => first | k_is | kernel_rfl | rfl)
    (case g_ColourError => first | k_is | kernel_rfl | rfl)
    (case xB => first | k_is | kernel_rfl | rfl)
    (case xL_BadText => first | k_is | kernel_rfl | rfl)
    (case xR_BadText => first | k_is | kernel_rfl | rfl)
    (case xS_BadText => first | k_is | kernel_rfl | rfl)
    (case i_BadText => first | k_is | kernel_rfl | rfl)
    (case ti_BadText => first | k_is | kernel_rfl | rfl)
    (case no_BadText => first | k_is | kernel_rfl | rfl)
    (case l_I_BadText => first | k_is | kernel_rfl | rfl)
    (case c_I_BadText => first | k_is | kernel_rfl | rfl)
    (case k_I_BadText => first | k_is | kernel_rfl | rfl)
    (case kB_BadText => first | k_is | kernel_rfl | rfl)
    (case kB_ValueError => first | k_is | kernel_rfl | rfl)
    (case eB_ColourError => first | k_is | kernel_rfl | rfl)
    (case nB_place => first | k_is | kernel_rfl | rfl)
