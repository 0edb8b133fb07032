import PyProof.Rows.All
import Wide.All
import OpenK.AllK
import Wide.FinOn
import HandS.Base
import HandS.Call
import HandS.List
import HandS.Comp
import HandS.Ends
import HandS.Words
import HandS.WordsList
import HandS.Iter
import HandS.Text
import HandS.Dict
import HandS.Style
import HandS.Defaults
import HandS.IsInst
import HandS.FStr
import HandS.Replace
import KE.GoesMore
import HandS.TupMul
import HandS.TupAny
import KE.KxText
import HandS.More
import HandS.HeadHook1
import HandS.HeadHook2
import HandS.HeadHook3
import HandS.HeadHook4
import PySem.Challenge.RW_wallfeet_k03_whole_walkers_tick_by_tick
import KE.KStateDown
import HandS.WordsExc
import HandS.Head0
import HandS.Head1
import HandS.Head2
import HandS.HeadEnd
set_option Elab.async false
set_option linter.all false
set_option maxRecDepth 100000
set_option maxHeartbeats 2000000
/-! A layer of my own over HandS: the states of a def's body by DATA (PyData), not by addresses. -/
namespace DL
open PySem PySem.Spec PyProof.Rows L2

abbrev D := PyData
def Sub (F H : Hp) : Prop := ∀ a o, F a = some o → H a = some o
theorem Sub.refl (F : Hp) : Sub F F := fun _ _ h => h
theorem Sub.trans {F G H : Hp} (a : Sub F G) (b : Sub G H) : Sub F H := fun x o h => b x o (a x o h)
theorem Sub.upd {F H : Hp} {p : Addr} {o : HO} (h : Sub F H) : Sub (upd F p o) (upd H p o) := fun a u e => by
  by_cases q : a = p
  · subst q; rw [upd_same] at e ⊢; exact e
  · rw [upd_ne q] at e ⊢; exact h a u e
theorem Sub.new {F : Hp} {p : Addr} {o : HO} (h : F p = none) : Sub F (L2.upd F p o) := fun a u e => by
  rw [upd_ne (ne_of_none e h)]; exact e

/-! ### data are kept in a greater heap -/
theorem rd_up {F H : Hp} {a : Addr} {u : HO} (e : Sub F H) (h : Rd F a u) : Rd H a u := by
  rcases h with h | ⟨o, h⟩
  · exact .inl (e a _ h)
  · exact .inr ⟨o, e a _ h⟩
theorem sql_up {K : PySem.W.Frag} {F H : Hp} {a : Addr} {xs : List V} (e : Sub F H) (h : SqL K F a xs) : SqL K H a xs := by
  rcases h with h | h
  · exact .inl (rd_up e h)
  · exact .inr h
theorem sqt_up {K : PySem.W.Frag} {F H : Hp} {a : Addr} {xs : List V} (e : Sub F H) (h : SqT K F a xs) : SqT K H a xs := by
  rcases h with h | h
  · exact .inl (rd_up e h)
  · exact .inr h
end DL
namespace L2
open PySem PySem.Spec PyProof.Rows DL
mutual
theorem Dp.up {K : PySem.W.Frag} {F H : Hp} (e : Sub F H) : ∀ {v : V} {d : PyData}, Dp K F v d → Dp K H v d
  | _, _, .non => .non
  | _, _, .bl b => .bl b
  | _, _, .int i => .int i
  | _, _, .str x => .str x
  | _, _, .lst h t => .lst (sql_up e h) (DpAll.up e t)
  | _, _, .tup h t => .tup (sqt_up e h) (DpAll.up e t)
theorem DpAll.up {K : PySem.W.Frag} {F H : Hp} (e : Sub F H) : ∀ {vs : List V} {ds : List PyData}, DpAll K F vs ds → DpAll K H vs ds
  | _, _, .nil => .nil
  | _, _, .cons h t => .cons (Dp.up e h) (DpAll.up e t)
end
theorem DpAll.length {K : PySem.W.Frag} {F : Hp} : ∀ {vs : List V} {ds : List PyData}, DpAll K F vs ds → vs.length = ds.length
  | _, _, .nil => rfl
  | _, _, .cons _ t => by rw [List.length_cons, List.length_cons, DpAll.length t]
theorem DpAll.get {K : PySem.W.Frag} {F : Hp} : ∀ {vs : List V} {ds : List PyData} {i : Nat} {d : PyData}, DpAll K F vs ds → ds[i]? = some d → ∃ v, vs[i]? = some v ∧ Dp K F v d
  | _, _, _, _, .nil, e => by simp at e
  | _, _, 0, _, .cons h _, e => by simp at e; subst e; exact ⟨_, rfl, h⟩
  | _, _, i + 1, d, .cons _ t, e => by
    obtain ⟨u, h1, h2⟩ := DpAll.get (i := i) (d := d) t (by simpa using e)
    exact ⟨u, by simpa using h1, h2⟩
theorem DpAll.getV {K : PySem.W.Frag} {F : Hp} : ∀ {vs : List V} {ds : List PyData} {i : Nat} {v : V}, DpAll K F vs ds → vs[i]? = some v → ∃ d, ds[i]? = some d ∧ Dp K F v d
  | _, _, _, _, .nil, e => by simp at e
  | _, _, 0, _, .cons h _, e => by simp at e; subst e; exact ⟨_, rfl, h⟩
  | _, _, i + 1, d, .cons _ t, e => by
    obtain ⟨u, h1, h2⟩ := DpAll.getV (i := i) (v := d) t (by simpa using e)
    exact ⟨u, by simpa using h1, h2⟩
theorem DpAll.append {K : PySem.W.Frag} {F : Hp} : ∀ {vs ws : List V} {ds es : List PyData}, DpAll K F vs ds → DpAll K F ws es → DpAll K F (vs ++ ws) (ds ++ es)
  | _, _, _, _, .nil, s => s
  | _, _, _, _, .cons r t, s => .cons r (DpAll.append t s)
theorem DpAll.one {K : PySem.W.Frag} {F : Hp} {v : V} {d : PyData} (h : Dp K F v d) : DpAll K F [v] [d] := .cons h .nil
theorem DpAll.take {K : PySem.W.Frag} {F : Hp} : ∀ {vs : List V} {ds : List PyData} (n : Nat), DpAll K F vs ds → DpAll K F (vs.take n) (ds.take n)
  | _, _, 0, _ => by simp only [List.take_zero]; exact .nil
  | _, _, _ + 1, .nil => .nil
  | _, _, n + 1, .cons r t => .cons r (DpAll.take n t)
theorem DpAll.drop {K : PySem.W.Frag} {F : Hp} : ∀ {vs : List V} {ds : List PyData} (n : Nat), DpAll K F vs ds → DpAll K F (vs.drop n) (ds.drop n)
  | _, _, 0, r => r
  | _, _, _ + 1, .nil => .nil
  | _, _, n + 1, .cons _ t => DpAll.drop n t
theorem DpAll.set {K : PySem.W.Frag} {F : Hp} {v : V} {d : PyData} (r : Dp K F v d) : ∀ {vs : List V} {ds : List PyData} (i : Nat), DpAll K F vs ds → DpAll K F (vs.set i v) (ds.set i d)
  | _, _, _, .nil => .nil
  | _, _, 0, .cons _ t => .cons r t
  | _, _, i + 1, .cons q t => .cons q (DpAll.set r i t)
theorem DpAll.reverse {K : PySem.W.Frag} {F : Hp} : ∀ {vs : List V} {ds : List PyData}, DpAll K F vs ds → DpAll K F vs.reverse ds.reverse
  | _, _, .nil => .nil
  | _, _, .cons r t => by rw [List.reverse_cons, List.reverse_cons]; exact DpAll.append (DpAll.reverse t) (.cons r .nil)
theorem DpAll.dropLast {K : PySem.W.Frag} {F : Hp} {vs : List V} {ds : List PyData} (h : DpAll K F vs ds) : DpAll K F vs.dropLast ds.dropLast := by
  rw [List.dropLast_eq_take, List.dropLast_eq_take, h.length]; exact h.take _
/-- lists of scalars are what they say -/
theorem DpAll.ints {K : PySem.W.Frag} {F : Hp} : ∀ {vs : List V} {ns : List Int}, DpAll K F vs (ns.map PyData.int) → vs = ns.map V.int
  | _, [], .nil => rfl
  | _, n :: ns, .cons h t => by cases h; rw [List.map_cons, DpAll.ints t]
theorem DpAll.strs {K : PySem.W.Frag} {F : Hp} : ∀ {vs : List V} {ns : List Str}, DpAll K F vs (ns.map PyData.str) → vs = ns.map V.str
  | _, [], .nil => rfl
  | _, n :: ns, .cons h t => by cases h; rw [List.map_cons, DpAll.strs t]
theorem DpAll.bls {K : PySem.W.Frag} {F : Hp} : ∀ {vs : List V} {ns : List Bool}, DpAll K F vs (ns.map PyData.bool) → vs = ns.map V.bl
  | _, [], .nil => rfl
  | _, n :: ns, .cons h t => by cases h; rw [List.map_cons, DpAll.bls t]
theorem DpAll.of_ints {K : PySem.W.Frag} {F : Hp} : ∀ ns : List Int, DpAll K F (ns.map V.int) (ns.map PyData.int)
  | [] => .nil
  | n :: ns => .cons (.int n) (DpAll.of_ints ns)
theorem DpAll.of_strs {K : PySem.W.Frag} {F : Hp} : ∀ ns : List Str, DpAll K F (ns.map V.str) (ns.map PyData.str)
  | [] => .nil
  | n :: ns => .cons (.str n) (DpAll.of_strs ns)

end L2
namespace DL
open PySem PySem.Spec PyProof.Rows L2
/-! ### what a def's body owns: an object that only it changes -/
structure Own where
  fp : List Addr
  rel : PySem.W.Frag → Hp → Hp → Prop
  up : ∀ K F F' H, Sub F F' → rel K F H → rel K F' H
  loc : ∀ K F H H', (∀ a ∈ fp, H' a = H a) → rel K F H → rel K F H'
  al : ∀ K F H, rel K F H → ∀ a ∈ fp, H a ≠ none

inductive Sl where
  | frz (d : PyData)
  | own (p : Addr) (A : Own)
def Sl.fp : Sl → List Addr
  | .frz _ => []
  | .own _ A => A.fp
def SlR (K : PySem.W.Frag) (F H : Hp) (v : V) : Sl → Prop
  | .frz d => Dp K F v d
  | .own p A => v = .ref p ∧ A.rel K F H
abbrev Env := List (Option Sl)
/-- a list that is one's own -/
def oLst (p : Addr) (ds : List PyData) : Own where
  fp := [p]
  rel := fun K F H => ∃ vs, H p = some (.lst vs) ∧ DpAll K F vs ds
  up := fun K F F' H e ⟨vs, h, t⟩ => ⟨vs, h, DpAll.up e t⟩
  loc := fun K F H H' e ⟨vs, h, t⟩ => ⟨vs, by rw [e p (by simp)]; exact h, t⟩
  al := fun K F H ⟨vs, h, t⟩ a ha => by
    have q : a = p := by simpa using ha
    rw [q, h]; simp

/-- the state: R what others hold, F what stands still, H the heap -/
structure StD (K : PySem.W.Frag) (R F H : Hp) (σ : L2.St) (ρ : Env) : Prop where
  fh : Sub F H
  rh : Sub R H
  rf : ∀ a, R a ≠ none → F a = none
  sl : ∀ (i : Nat) s, ρ[i]? = some (some s) → ∃ v, σ[i]? = some (some v) ∧ SlR K F H v s
  ff : ∀ (i : Nat) s a, ρ[i]? = some (some s) → a ∈ s.fp → F a = none ∧ R a = none
  dj : ∀ (i j : Nat) s u a, i ≠ j → ρ[i]? = some (some s) → ρ[j]? = some (some u) → a ∈ s.fp → a ∉ u.fp
  len : σ.length = ρ.length

section
variable {K : PySem.W.Frag} {R F H F' H' : Hp} {σ σ' : L2.St} {ρ ρ' : Env} {v : V} {s : Sl} {d : PyData}
theorem SlR.al (h : SlR K F H v s) : ∀ a ∈ s.fp, H a ≠ none := by
  cases s with
  | frz d => intro a ha; cases ha
  | own p A => exact A.al K F H h.2
/-- the state's parts in another order -/
theorem StD.sub (h : StD K R F H σ ρ) (f : Nat → Nat) (hl : σ'.length = ρ'.length) (hs : ∀ (i : Nat) s, ρ'[i]? = some (some s) → ρ[f i]? = some (some s) ∧ σ'[i]? = σ[f i]?)
    (hi : ∀ (i j : Nat) p A, i ≠ j → ρ'[i]? = some (some (.own p A)) → (∃ u, ρ'[j]? = some (some u)) → f i ≠ f j) : StD K R F H σ' ρ' where
  fh := h.fh
  rh := h.rh
  rf := h.rf
  sl := fun i s e => by
    obtain ⟨e1, e2⟩ := hs i s e
    obtain ⟨v, e3, r⟩ := h.sl _ s e1
    exact ⟨v, by rw [e2]; exact e3, r⟩
  ff := fun i s a e ha => h.ff _ s a (hs i s e).1 ha
  dj := fun i j s u a ne e1 e2 ha => by
    cases s with
    | frz d => cases ha
    | own p A => exact h.dj (f i) (f j) _ u a (hi i j p A ne e1 ⟨u, e2⟩) (hs i _ e1).1 (hs j u e2).1 ha
  len := hl
theorem StD.tail (h : StD K R F H (some v :: σ) (some s :: ρ)) : StD K R F H σ ρ :=
  h.sub (fun i => i + 1) (by have := h.len; simpa using this) (fun i s e => ⟨by simpa using e, by simp⟩) (fun i j p A ne _ _ e => ne (by omega))
theorem StD.head (h : StD K R F H (some v :: σ) (some s :: ρ)) : SlR K F H v s := by
  obtain ⟨u, e, r⟩ := h.sl 0 s rfl
  have e' : some (some v) = some (some u) := e
  cases e'
  exact r
theorem StD.headF (h : StD K R F H (some v :: σ) (some (.frz d) :: ρ)) : Dp K F v d := h.head
/-- a further thing -/
theorem StD.cons (h : StD K R F H σ ρ) (r : SlR K F H v s) (hf : ∀ a ∈ s.fp, F a = none ∧ R a = none) (hd : ∀ (i : Nat) u a, ρ[i]? = some (some u) → a ∈ s.fp → a ∉ u.fp) :
    StD K R F H (some v :: σ) (some s :: ρ) where
  fh := h.fh
  rh := h.rh
  rf := h.rf
  sl := fun i s' e => by
    cases i with
    | zero =>
      have e' : some (some s) = some (some s') := e
      cases e'
      exact ⟨v, rfl, r⟩
    | succ i =>
      obtain ⟨v', e1, r'⟩ := h.sl i s' (by simpa using e)
      exact ⟨v', by simpa using e1, r'⟩
  ff := fun i s' a e ha => by
    cases i with
    | zero =>
      have e' : some (some s) = some (some s') := e
      cases e'
      exact hf a ha
    | succ i => exact h.ff i s' a (by simpa using e) ha
  dj := fun i j s1 s2 a ne e1 e2 ha hb => by
    cases i with
    | zero =>
      cases j with
      | zero => exact ne rfl
      | succ j =>
        have e' : some (some s) = some (some s1) := e1
        cases e'
        exact hd j s2 a (by simpa using e2) ha hb
    | succ i =>
      cases j with
      | zero =>
        have e' : some (some s) = some (some s2) := e2
        cases e'
        exact hd i s1 a (by simpa using e1) hb ha
      | succ j => exact h.dj i j s1 s2 a (by omega) (by simpa using e1) (by simpa using e2) ha hb
  len := by rw [List.length_cons, List.length_cons, h.len]
theorem StD.consF (h : StD K R F H σ ρ) (r : Dp K F v d) : StD K R F H (some v :: σ) (some (.frz d) :: ρ) :=
  h.cons (s := .frz d) r (fun a ha => by cases ha) (fun i u a _ ha => by cases ha)
/-- growth: the heap has new things, some of them stand still -/
theorem StD.grow (h : StD K R F H σ ρ) (hh : Sub H H') (ff : Sub F F') (fh : Sub F' H') (nw : ∀ a, F' a ≠ none → F a ≠ none ∨ H a = none) : StD K R F' H' σ ρ where
  fh := fh
  rh := h.rh.trans hh
  rf := fun a hr => by
    cases q : F' a with
    | none => rfl
    | some o =>
      rcases nw a (by rw [q]; simp) with n | n
      · exact absurd (h.rf a hr) n
      · cases r : R a with
        | none => exact absurd r hr
        | some u => rw [h.rh a u r] at n; cases n
  sl := fun i s e => by
    obtain ⟨v, e1, r⟩ := h.sl i s e
    refine ⟨v, e1, ?_⟩
    cases s with
    | frz d => exact Dp.up ff r
    | own p A =>
      refine ⟨r.1, A.loc K F' H H' (fun a ha => ?_) (A.up K F F' H ff r.2)⟩
      cases q : H a with
      | none => exact absurd q (A.al K F H r.2 a ha)
      | some o => exact hh a o q
  ff := fun i s a e ha => by
    obtain ⟨n1, n2⟩ := h.ff i s a e ha
    obtain ⟨v, e1, r⟩ := h.sl i s e
    refine ⟨?_, n2⟩
    cases q : F' a with
    | none => rfl
    | some o =>
      rcases nw a (by rw [q]; simp) with n | n
      · exact absurd n1 n
      · exact absurd n (SlR.al r a ha)
  dj := h.dj
  len := h.len
/-- a new thing that stands still -/
theorem StD.newF {p : Addr} {o : HO} (h : StD K R F H σ ρ) (hp : H p = none) : StD K R (upd F p o) (upd H p o) σ ρ := by
  have fp : F p = none := by
    cases q : F p with
    | none => rfl
    | some u => rw [h.fh p u q] at hp; cases hp
  refine h.grow (Sub.new hp) (Sub.new fp) h.fh.upd fun a n => ?_
  by_cases e : a = p
  · subst e; exact .inr hp
  · rw [upd_ne e] at n; exact .inl n
/-- a new thing that nobody holds yet -/
theorem StD.newH {p : Addr} {o : HO} (h : StD K R F H σ ρ) (hp : H p = none) : StD K R F (upd H p o) σ ρ :=
  h.grow (Sub.new hp) (Sub.refl F) (h.fh.trans (Sub.new hp)) fun a n => .inl n
theorem StD.freshF {p : Addr} (h : StD K R F H σ ρ) (hp : H p = none) : F p = none := by
  cases q : F p with
  | none => rfl
  | some u => rw [h.fh p u q] at hp; cases hp
theorem StD.freshR {p : Addr} (h : StD K R F H σ ρ) (hp : H p = none) : R p = none := by
  cases q : R p with
  | none => rfl
  | some u => rw [h.rh p u q] at hp; cases hp
/-- a new list, one's own -/
theorem StD.newL {p : Addr} {vs : List V} {ds : List PyData} (h : StD K R F H σ ρ) (hp : H p = none) (t : DpAll K F vs ds) : StD K R F (upd H p (.lst vs)) (some (.ref p) :: σ) (some (.own p (oLst p ds)) :: ρ) := by
  refine (h.newH (o := .lst vs) hp).cons (s := .own p (oLst p ds)) ⟨rfl, vs, upd_same, t⟩ (fun a ha => ?_) (fun i u a e ha hb => ?_)
  · have q : a = p := List.mem_singleton.mp ha
    rw [q]; exact ⟨h.freshF hp, h.freshR hp⟩
  · have q : a = p := List.mem_singleton.mp ha
    subst q
    obtain ⟨v, _, r⟩ := h.sl i u e
    exact SlR.al r a hb hp
theorem StD.newT {p : Addr} {vs : List V} {ds : List PyData} (h : StD K R F H σ ρ) (hp : H p = none) (t : DpAll K F vs ds) : StD K R (upd F p (.tup vs)) (upd H p (.tup vs)) (some (.ref p) :: σ) (some (.frz (.tuple ds)) :: ρ) :=
  (h.newF hp).consF (.tup (.of upd_same) (DpAll.up (Sub.new (h.freshF hp)) t))
/-- an own list is let stand still -/
theorem StD.freeze {p : Addr} {ds : List PyData} (h : StD K R F H (some v :: σ) (some (.own p (oLst p ds)) :: ρ)) : ∃ F', Sub F F' ∧ StD K R F' H (some v :: σ) (some (.frz (.list ds)) :: ρ) := by
  obtain ⟨rfl, vs, hp, t⟩ := h.head
  have fp := (h.ff 0 _ p rfl (List.mem_singleton.mpr rfl)).1
  have rp := (h.ff 0 _ p rfl (List.mem_singleton.mpr rfl)).2
  have T := h.tail
  refine ⟨upd F p (.lst vs), Sub.new fp, ?_⟩
  have base : StD K R (upd F p (.lst vs)) H σ ρ :=
    { fh := fun a o e => by
        by_cases q : a = p
        · subst q; rw [upd_same] at e; rw [hp]; exact e
        · rw [upd_ne q] at e; exact T.fh a o e
      rh := T.rh
      rf := fun a hr => by
        by_cases q : a = p
        · subst q; exact absurd rp hr
        · rw [upd_ne q]; exact T.rf a hr
      sl := fun i s e => by
        obtain ⟨v, e1, r⟩ := T.sl i s e
        refine ⟨v, e1, ?_⟩
        cases s with
        | frz d => exact Dp.up (Sub.new fp) r
        | own q A => exact ⟨r.1, A.up K F _ H (Sub.new fp) r.2⟩
      ff := fun i s a e ha => by
        obtain ⟨n1, n2⟩ := T.ff i s a e ha
        refine ⟨?_, n2⟩
        rw [upd_ne]
        · exact n1
        · intro q
          exact h.dj 0 (i + 1) _ s a (by omega) rfl (by simpa using e) (by rw [q]; exact List.mem_singleton.mpr rfl) ha
      dj := T.dj
      len := T.len }
  exact base.consF (.lst (.of upd_same) (DpAll.up (Sub.new fp) t))

/-! ### others' things, for a while -/
/-- what is moved to the others: the own things of the slots that are not kept -/
def Mvd (ρ : Env) (keep : Nat → Bool) (a : Addr) : Prop := ∃ (i : Nat) (s : Sl), ρ[i]? = some (some s) ∧ keep i = false ∧ a ∈ s.fp
open Classical in
noncomputable def mv (R H : Hp) (ρ : Env) (keep : Nat → Bool) : Hp := fun a => if Mvd ρ keep a then H a else R a
/-- the slots that stay: what stands still, what is kept -/
def lft (ρ : Env) (keep : Nat → Bool) : Env := ρ.mapIdx fun i s => match s with
  | some (.own p A) => if keep i then some (.own p A) else none
  | s => s
/-- the slots that come back -/
def rst (ρ : Env) (keep : Nat → Bool) : Env := ρ.mapIdx fun i s => match s with
  | some (.own p A) => if keep i then none else some (.own p A)
  | s => s
theorem lft_at {ρ : Env} {keep : Nat → Bool} {i : Nat} {s : Sl} (e : (lft ρ keep)[i]? = some (some s)) : ρ[i]? = some (some s) ∧ ∀ p A, s = .own p A → keep i = true := by
  unfold lft at e
  rw [List.getElem?_mapIdx] at e
  cases q : ρ[i]? with
  | none => rw [q] at e; cases e
  | some u =>
    rw [q] at e
    cases u with
    | none => simp at e
    | some u =>
      cases u with
      | frz d =>
        simp at e
        subst e
        exact ⟨rfl, fun p A z => by cases z⟩
      | own p A =>
        cases k : keep i with
        | false => simp [k] at e
        | true =>
          simp [k] at e
          subst e
          exact ⟨rfl, fun p A z => rfl⟩
theorem rst_at {ρ : Env} {keep : Nat → Bool} {i : Nat} {s : Sl} (e : (rst ρ keep)[i]? = some (some s)) : ρ[i]? = some (some s) ∧ ∀ p A, s = .own p A → keep i = false := by
  unfold rst at e
  rw [List.getElem?_mapIdx] at e
  cases q : ρ[i]? with
  | none => rw [q] at e; cases e
  | some u =>
    rw [q] at e
    cases u with
    | none => simp at e
    | some u =>
      cases u with
      | frz d =>
        simp at e
        subst e
        exact ⟨rfl, fun p A z => by cases z⟩
      | own p A =>
        cases k : keep i with
        | true => simp [k] at e
        | false =>
          simp [k] at e
          subst e
          exact ⟨rfl, fun p A z => rfl⟩
theorem rst_own {ρ : Env} {keep : Nat → Bool} {i : Nat} {p : Addr} {A : Own} (e : ρ[i]? = some (some (.own p A))) (k : keep i = false) : (rst ρ keep)[i]? = some (some (.own p A)) := by
  unfold rst
  rw [List.getElem?_mapIdx, e]
  simp [k]
theorem rst_frz {ρ : Env} {keep : Nat → Bool} {i : Nat} {d : PyData} (e : ρ[i]? = some (some (.frz d))) : (rst ρ keep)[i]? = some (some (.frz d)) := by
  unfold rst
  rw [List.getElem?_mapIdx, e]
  simp
theorem lft_own {ρ : Env} {keep : Nat → Bool} {i : Nat} {p : Addr} {A : Own} (e : ρ[i]? = some (some (.own p A))) (k : keep i = true) : (lft ρ keep)[i]? = some (some (.own p A)) := by
  unfold lft
  rw [List.getElem?_mapIdx, e]
  simp [k]
theorem lft_frz {ρ : Env} {keep : Nat → Bool} {i : Nat} {d : PyData} (e : ρ[i]? = some (some (.frz d))) : (lft ρ keep)[i]? = some (some (.frz d)) := by
  unfold lft
  rw [List.getElem?_mapIdx, e]
  simp
theorem StD.frame (h : StD K R F H σ ρ) (keep : Nat → Bool) : StD K (mv R H ρ keep) F H σ (lft ρ keep) where
  fh := h.fh
  rh := fun a o e => by
    unfold mv at e
    split at e
    · exact e
    · exact h.rh a o e
  rf := fun a hr => by
    unfold mv at hr
    split at hr
    · rename_i m
      obtain ⟨i, s, e, _, ha⟩ := m
      exact (h.ff i s a e ha).1
    · exact h.rf a hr
  sl := fun i s e => h.sl i s (lft_at e).1
  ff := fun i s a e ha => by
    obtain ⟨e1, k⟩ := lft_at e
    refine ⟨(h.ff i s a e1 ha).1, ?_⟩
    unfold mv
    rw [if_neg]
    · exact (h.ff i s a e1 ha).2
    · rintro ⟨j, u, e2, kj, hb⟩
      cases s with
      | frz d => cases ha
      | own p A =>
        have ki := k p A rfl
        have ne : i ≠ j := fun z => by subst z; rw [ki] at kj; cases kj
        exact h.dj i j _ u a ne e1 e2 ha hb
  dj := fun i j s u a ne e1 e2 => h.dj i j s u a ne (lft_at e1).1 (lft_at e2).1
  len := by rw [h.len]; unfold lft; rw [List.length_mapIdx]
theorem StD.unframe {keep : Nat → Bool} (h : StD K R F H σ ρ) (h' : StD K (mv R H ρ keep) F' H' σ' ρ') (ff : Sub F F') : StD K R F' H' (σ' ++ σ) (ρ' ++ rst ρ keep) := by
  have hl := h'.len
  have hm : ∀ (i : Nat) p A, (rst ρ keep)[i]? = some (some (.own p A)) → ∀ a ∈ A.fp, mv R H ρ keep a = H a := fun i p A e a ha => by
    obtain ⟨e1, k⟩ := rst_at e
    unfold mv
    rw [if_pos ⟨i, _, e1, k p A rfl, ha⟩]
  have nn : ∀ (i : Nat) p A, (rst ρ keep)[i]? = some (some (.own p A)) → ∀ a ∈ A.fp, mv R H ρ keep a ≠ none := fun i p A e a ha => by
    rw [hm i p A e a ha]
    obtain ⟨v, _, r⟩ := h.sl i _ (rst_at e).1
    exact SlR.al r a ha
  have keepR : ∀ a, R a ≠ none → mv R H ρ keep a = R a := fun a hr => by
    unfold mv
    split
    · cases q : R a with
      | none => exact absurd q hr
      | some o => exact h.rh a o q
    · rfl
  have at_ : ∀ (i : Nat) s, (ρ' ++ rst ρ keep)[i]? = some (some s) → (i < ρ'.length ∧ ρ'[i]? = some (some s)) ∨ (ρ'.length ≤ i ∧ (rst ρ keep)[i - ρ'.length]? = some (some s)) := fun i s e => by
    by_cases q : i < ρ'.length
    · rw [List.getElem?_append_left q] at e
      exact .inl ⟨q, e⟩
    · rw [List.getElem?_append_right (by omega)] at e
      exact .inr ⟨by omega, e⟩
  refine ⟨h'.fh, fun a o e => h'.rh a o (by rw [keepR a (by rw [e]; simp)]; exact e), fun a hr => h'.rf a (by rw [keepR a hr]; exact hr), fun i s e => ?_, fun i s a e ha => ?_, fun i j s u a ne e1 e2 ha hb => ?_, ?_⟩
  · rcases at_ i s e with ⟨q, e⟩ | ⟨q, e⟩
    · obtain ⟨v, e1, r⟩ := h'.sl i s e
      exact ⟨v, by rw [List.getElem?_append_left (by omega)]; exact e1, r⟩
    · obtain ⟨e0, k⟩ := rst_at e
      obtain ⟨v, e1, r⟩ := h.sl _ s e0
      refine ⟨v, by rw [List.getElem?_append_right (by omega), hl]; exact e1, ?_⟩
      cases s with
      | frz d => exact Dp.up ff r
      | own p A =>
        refine ⟨r.1, A.loc K F' H H' (fun b hb => ?_) (A.up K F F' H ff r.2)⟩
        have e2 := hm _ p A e b hb
        cases q2 : H b with
        | none => exact absurd q2 (A.al K F H r.2 b hb)
        | some o => exact h'.rh b o (by rw [e2]; exact q2)
  · rcases at_ i s e with ⟨q, e⟩ | ⟨q, e⟩
    · obtain ⟨n1, n2⟩ := h'.ff i s a e ha
      refine ⟨n1, ?_⟩
      cases q2 : R a with
      | none => rfl
      | some o => rw [keepR a (by rw [q2]; simp), q2] at n2; cases n2
    · obtain ⟨e0, k⟩ := rst_at e
      cases s with
      | frz d => cases ha
      | own p A => exact ⟨h'.rf a (nn _ p A e a ha), (h.ff _ _ a e0 ha).2⟩
  · rcases at_ i s e1 with ⟨q, e1⟩ | ⟨q, e1⟩
    · rcases at_ j u e2 with ⟨q', e2⟩ | ⟨q', e2⟩
      · exact h'.dj i j s u a ne e1 e2 ha hb
      · cases u with
        | frz d => cases hb
        | own p A => exact nn _ p A e2 a hb (h'.ff i s a e1 ha).2
    · rcases at_ j u e2 with ⟨q', e2⟩ | ⟨q', e2⟩
      · cases s with
        | frz d => cases ha
        | own p A => exact nn _ p A e1 a ha (h'.ff j u a e2 hb).2
      · exact h.dj _ _ s u a (fun z => ne (by omega)) (rst_at e1).1 (rst_at e2).1 ha hb
  · rw [List.length_append, List.length_append, hl, h.len]; unfold rst; rw [List.length_mapIdx]
end
end DL

set_option maxHeartbeats 2000000
/-! DL2: the judgements DE, DT, DA, DS by data; expressions, tests, calls. -/
namespace DL
open PySem PySem.Spec PyProof.Rows L2

theorem pe_imp {X : Cx} {e : Expr} {t t' : TE} (h : PE X e t) (k : ∀ σ H Q, t' σ H Q → t σ H Q) : PE X e t' := ⟨fun pins s σ H Q I q => h.run pins s σ H Q I (k σ H Q q)⟩
theorem pt_imp {X : Cx} {e : Expr} {t t' : TT} (h : PT X e t) (k : ∀ σ H Q, t' σ H Q → t σ H Q) : PT X e t' := ⟨fun pins s σ H Q I q => h.run pins s σ H Q I (k σ H Q q)⟩
theorem pw_imp {X : Cx} {e : Expr} {t t' : TT} (h : PW X e t) (k : ∀ σ H Q, t' σ H Q → t σ H Q) : PW X e t' := ⟨fun wh pins s σ H Q I q => h.run wh pins s σ H Q I (k σ H Q q)⟩
theorem pa_imp {X : Cx} {es : List Expr} {t t' : TA} (h : PA X es t) (k : ∀ σ H Q, t' σ H Q → t σ H Q) : PA X es t' := ⟨fun pos pins s σ H Q I q => h.run pos pins s σ H Q I (k σ H Q q)⟩

/-! ### readings by data -/
def tD (K : PySem.W.Frag) (ρ : Env) (P : Sl → Env → Prop) : TE := fun σ H Q => ∃ R F, StD K R F H σ ρ ∧
  ∀ v F' H' s ρ', Sub F F' → P s ρ' → StD K R F' H' (some v :: σ) (some s :: ρ') → Q v H'
def tDT (K : PySem.W.Frag) (ρ : Env) (P : Bool → Env → Prop) : TT := fun σ H Q => ∃ R F, StD K R F H σ ρ ∧
  ∀ b F' H' ρ', Sub F F' → P b ρ' → StD K R F' H' σ ρ' → Q b H'
def tDA (K : PySem.W.Frag) (ρ : Env) (P : List PyData → Env → Prop) : TA := fun σ H Q => ∃ R F, StD K R F H σ ρ ∧
  ∀ vs F' H' ds ρ', Sub F F' → P ds ρ' → DpAll K F' vs ds → StD K R F' H' σ ρ' → Q vs H'
/-- arguments that may be one's own -/
def tDB (K : PySem.W.Frag) (ρ : Env) (P : List Sl → Env → Prop) : TA := fun σ H Q => ∃ R F, StD K R F H σ ρ ∧
  ∀ vs F' H' ss ρ', Sub F F' → P ss ρ' → vs.length = ss.length → StD K R F' H' (vs.map some ++ σ) (ss.map some ++ ρ') → Q vs H'
def DE (X : Cx) (e : Expr) (ρ : Env) (P : Sl → Env → Prop) : Prop := PE X e (tD X.K ρ P)
def DT (X : Cx) (e : Expr) (ρ : Env) (P : Bool → Env → Prop) : Prop := PT X e (tDT X.K ρ P)
def DW (X : Cx) (e : Expr) (ρ : Env) (P : Bool → Env → Prop) : Prop := PW X e (tDT X.K ρ P)
def DA (X : Cx) (es : List Expr) (ρ : Env) (P : List PyData → Env → Prop) : Prop := PA X es (tDA X.K ρ P)
def DB (X : Cx) (es : List Expr) (ρ : Env) (P : List Sl → Env → Prop) : Prop := PA X es (tDB X.K ρ P)

section
variable {X : Cx} {e a b c : Expr} {es : List Expr} {ρ : Env} {P P' : Sl → Env → Prop} {pos : Pos}
theorem de_mono (h : DE X e ρ P) (k : ∀ s ρ', P s ρ' → P' s ρ') : DE X e ρ P' := pe_imp h fun σ H Q ⟨R, F, S, q⟩ => ⟨R, F, S, fun v F' H' s ρ' f p S' => q v F' H' s ρ' f (k s ρ' p) S'⟩
theorem dt_mono {P P' : Bool → Env → Prop} (h : DT X e ρ P) (k : ∀ s ρ', P s ρ' → P' s ρ') : DT X e ρ P' := pt_imp h fun σ H Q ⟨R, F, S, q⟩ => ⟨R, F, S, fun b F' H' ρ' f p S' => q b F' H' ρ' f (k b ρ' p) S'⟩
/-- whatever is shown of the expression -/
def tU (X : Cx) (e : Expr) : TE := fun σ H Q => ∃ ρ P, DE X e ρ P ∧ tD X.K ρ P σ H Q
theorem pe_u : PE X e (tU X e) := ⟨fun pins s σ H Q I ⟨_, _, h, q⟩ => h.run pins s σ H Q I q⟩
def tUA (X : Cx) (es : List Expr) : TA := fun σ H Q => ∃ ρ P, DA X es ρ P ∧ tDA X.K ρ P σ H Q
theorem pa_u : PA X es (tUA X es) := ⟨fun pos pins s σ H Q I ⟨_, _, h, q⟩ => h.run pos pins s σ H Q I q⟩
def tUB (X : Cx) (es : List Expr) : TA := fun σ H Q => ∃ ρ P, DB X es ρ P ∧ tDB X.K ρ P σ H Q
theorem pb_u : PA X es (tUB X es) := ⟨fun pos pins s σ H Q I ⟨_, _, h, q⟩ => h.run pos pins s σ H Q I q⟩
def tUT (X : Cx) (e : Expr) : TT := fun σ H Q => ∃ ρ P, DT X e ρ P ∧ tDT X.K ρ P σ H Q
theorem pt_u : PT X e (tUT X e) := ⟨fun pins s σ H Q I ⟨_, _, h, q⟩ => h.run pins s σ H Q I q⟩
def tUW (X : Cx) (e : Expr) : TT := fun σ H Q => ∃ ρ P, DW X e ρ P ∧ tDT X.K ρ P σ H Q
theorem pw_u : PW X e (tUW X e) := ⟨fun wh pins s σ H Q I ⟨_, _, h, q⟩ => h.run wh pins s σ H Q I q⟩

/-! ### what stands still -/
inductive Frz : Sl → PyData → Prop
  | frz (d : PyData) : Frz (.frz d) d
  | lst (p : Addr) (ds : List PyData) : Frz (.own p (oLst p ds)) (.list ds)
def isF (s : Sl) (k : PyData → Prop) : Prop := ∃ d, Frz s d ∧ k d
theorem isF_frz {d : PyData} {k : PyData → Prop} (h : k d) : isF (.frz d) k := ⟨d, .frz d, h⟩
theorem isF_own {p : Addr} {ds : List PyData} {k : PyData → Prop} (h : k (.list ds)) : isF (.own p (oLst p ds)) k := ⟨_, .lst p ds, h⟩
theorem StD.frz {K : PySem.W.Frag} {R F H : Hp} {σ : L2.St} {ρ : Env} {v : V} {s : Sl} {d : PyData} (h : StD K R F H (some v :: σ) (some s :: ρ)) (f : Frz s d) : ∃ F', Sub F F' ∧ StD K R F' H (some v :: σ) (some (.frz d) :: ρ) := by
  cases f with
  | frz => exact ⟨F, Sub.refl F, h⟩
  | lst p ds => exact h.freeze

/-! ### outcomes -/
inductive Outc where
  | val (d : PyData)
  | newT (ds : List PyData)
  | newL (ds : List PyData)
def Outc.post (P : Sl → Prop) : Outc → Prop
  | .val d => P (.frz d)
  | .newT ds => P (.frz (.tuple ds))
  | .newL ds => ∀ p, P (.own p (oLst p ds))
def Out (K : PySem.W.Frag) (F H : Hp) (Q : VK) : Outc → Prop
  | .val d => ∀ v, Dp K F v d → Q v H
  | .newT ds => ∀ p vs, H p = none → DpAll K F vs ds → Q (.ref p) (upd H p (.tup vs))
  | .newL ds => ∀ p vs, H p = none → DpAll K F vs ds → Q (.ref p) (upd H p (.lst vs))
theorem Out.go {K : PySem.W.Frag} {R F0 F H : Hp} {σ : L2.St} {ρ : Env} {o : Outc} {P : Sl → Env → Prop} {Q : VK} (S : StD K R F H σ ρ) (f0 : Sub F0 F) (h : o.post fun s => P s ρ)
    (q : ∀ v F' H' s ρ', Sub F0 F' → P s ρ' → StD K R F' H' (some v :: σ) (some s :: ρ') → Q v H') : Out K F H Q o := by
  cases o with
  | val d => exact fun v r => q v F H _ ρ f0 h (S.consF r)
  | newT ds => exact fun p vs hp t => q _ _ _ _ ρ (f0.trans (Sub.new (S.freshF hp))) h (S.newT hp t)
  | newL ds => exact fun p vs hp t => q _ _ _ _ ρ f0 (h p) (S.newL hp t)
/-- a two-place operation by data -/
def Op2 (K : PySem.W.Frag) (r : R2) (d e : PyData) (o : Outc) : Prop := ∀ (F H : Hp) (x y : V) (Q : VK), Sub F H → Dp K F x d → Dp K F y e → Out K F H Q o → r x y H Q
def Op1 (K : PySem.W.Frag) (r : V → Hp → VK → Prop) (d : PyData) (o : Outc) : Prop := ∀ (F H : Hp) (x : V) (Q : VK), Sub F H → Dp K F x d → Out K F H Q o → r x H Q
def OpC (K : PySem.W.Frag) (r : List V → Hp → VK → Prop) (ds : List PyData) (o : Outc) : Prop := ∀ (F H : Hp) (vs : List V) (Q : VK), Sub F H → DpAll K F vs ds → Out K F H Q o → r vs H Q
def OpM (K : PySem.W.Frag) (T : String) (r : V → List V → Hp → VK → Prop) (d : PyData) (ds : List PyData) (o : Outc) : Prop :=
  ∀ (F H : Hp) (x : V) (vs : List V) (Q : VK), Sub F H → Dp K F x d → DpAll K F vs ds → Out K F H Q o → tyV K T x H ∧ r x vs H Q

/-! ### names, constants -/
theorem de_var {i : Nat} {x : Str} {s : Sl} (hN : X.N[i]? = some x) (hv : Vis X.env.scope x) (hi : ρ[i]? = some (some s)) (hf : ∃ d, s = .frz d) (h : P s ρ)
    (hd : (x == ("__debug__" : Str)) = false := by decide) (hcd : (x == ("__classdict__" : Str)) = false := by decide) : DE X (.Name x pos) ρ P :=
  pe_imp (pe_var hN hv hd hcd) fun σ H Q ⟨R, F, S, q⟩ => by
    obtain ⟨d, rfl⟩ := hf
    obtain ⟨v, e, r⟩ := S.sl i _ hi
    exact ⟨v, e, q v F H _ ρ (Sub.refl F) h (S.consF r)⟩
/-- a name that holds what stands still -/
theorem de_name (i : Nat) {x : Str} {d : PyData} (h : P (.frz d) ρ) (hi : ρ[i]? = some (some (.frz d)) := by rfl) (hN : X.N[i]? = some x := by rfl) (hv : Vis X.env.scope x := by first | exact Or.inl rfl | exact Or.inr (Or.inl rfl) | exact Or.inr (Or.inr rfl))
    (hd : (x == ("__debug__" : Str)) = false := by decide) (hcd : (x == ("__classdict__" : Str)) = false := by decide) : DE X (.Name x pos) ρ P := de_var hN hv hi ⟨d, rfl⟩ h hd hcd
/-- a name that holds an own list: it is given away, the slot is empty then -/
theorem de_give (i : Nat) {x : Str} {p : Addr} {A : Own} (h : P (.own p A) (ρ.set i none)) (hi : ρ[i]? = some (some (.own p A)) := by rfl) (hN : X.N[i]? = some x := by rfl) (hv : Vis X.env.scope x := by first | exact Or.inl rfl | exact Or.inr (Or.inl rfl) | exact Or.inr (Or.inr rfl))
    (hd : (x == ("__debug__" : Str)) = false := by decide) (hcd : (x == ("__classdict__" : Str)) = false := by decide) : DE X (.Name x pos) ρ P :=
  pe_imp (pe_var hN hv hd hcd) fun σ H Q ⟨R, F, S, q⟩ => by
    obtain ⟨v, e, r⟩ := S.sl i _ hi
    refine ⟨v, e, q v F H _ _ (Sub.refl F) h ?_⟩
    refine S.sub (fun j => if j = 0 then i else j - 1) (by rw [List.length_cons, List.length_cons, List.length_set, S.len]) (fun j s ej => ?_) (fun j k p' A' ne ej ek => ?_)
    · cases j with
      | zero =>
        have e' : some (some (Sl.own p A)) = some (some s) := ej
        cases e'
        exact ⟨hi, by simpa using e.symm⟩
      | succ j =>
        have ej' : (ρ.set i none)[j]? = some (some s) := by simpa using ej
        rw [List.getElem?_set] at ej'
        split at ej'
        · split at ej' <;> cases ej'
        · exact ⟨by simpa using ej', by simp⟩
    · have nz : ∀ m : Nat, m ≠ 0 → (∃ u, (some (Sl.own p A) :: ρ.set i none)[m]? = some (some u)) → m - 1 ≠ i := fun m hm ⟨u, eu⟩ z => by
        obtain ⟨m, rfl⟩ : ∃ n, m = n + 1 := ⟨m - 1, by omega⟩
        have eu' : (ρ.set i none)[m]? = some (some u) := by simpa using eu
        rw [List.getElem?_set] at eu'
        split at eu'
        · split at eu' <;> cases eu'
        · omega
      by_cases j0 : j = 0
      · rw [if_pos j0, if_neg (by omega)]
        exact fun z => nz k (by omega) ek z.symm
      · rw [if_neg j0]
        by_cases k0 : k = 0
        · rw [if_pos k0]
          exact nz j j0 ⟨_, ej⟩
        · rw [if_neg k0]; omega
theorem de_const {v : V} {d : PyData} (hp : PE X e (tC v)) (r : ∀ F, Dp X.K F v d) (h : P (.frz d) ρ) : DE X e ρ P := pe_imp hp fun σ H Q ⟨R, F, S, q⟩ => q v F H _ ρ (Sub.refl F) h (S.consF (r F))
theorem de_int {i j} (h : P (.frz (.int i)) ρ) : DE X (.Constant (.int i) j pos) ρ P := de_const pe_int (fun _ => .int i) h
theorem de_bl {b j} (h : P (.frz (.bool b)) ρ) : DE X (.Constant (.bool b) j pos) ρ P := de_const pe_bl (fun _ => .bl b) h
theorem de_non {j} (h : P (.frz .none) ρ) : DE X (.Constant .none j pos) ρ P := de_const pe_non (fun _ => .non) h
theorem de_str {x j} (h : P (.frz (.str x)) ρ) : DE X (.Constant (.str x) j pos) ρ P := de_const pe_str (fun _ => .str x) h
/-- a module's constant -/
theorem de_glob {x : Str} {v : V} {u : Value} {d : PyData} (hg : Gl X x) (hm : X.mg x = some u) (r : RelV v u) (rd : ∀ F, Dp X.K F v d) (h : P (.frz d) ρ) (hd : (x == ("__debug__" : Str)) = false := by decide) : DE X (.Name x pos) ρ P :=
  de_const (pe_glob hg hm r hd) rd h

/-! ### operators -/
theorem de_op2 {r : R2} {e : Expr} (hp : ∀ {ta tb : TE}, PE X a ta → PE X b tb → PE X e (tOp r ta tb))
    (ha : DE X a ρ fun s1 ρ1 => isF s1 fun d1 => DE X b ρ1 fun s2 ρ2 => isF s2 fun d2 => ∃ o, Op2 X.K r d1 d2 o ∧ o.post fun s => P s ρ2) : DE X e ρ P :=
  pe_imp (hp ha pe_u) fun σ H Q ⟨R, F, S, q⟩ => ⟨R, F, S, fun v F1 H1 s1 ρ1 f1 ⟨d1, z1, hb⟩ S1 => by
    obtain ⟨F1', f1', S1'⟩ := S1.frz z1
    refine ⟨ρ1, _, hb, R, F1', S1'.tail, fun v2 F2 H2 s2 ρ2 f2 ⟨d2, z2, o, ho, po⟩ S2 => ?_⟩
    obtain ⟨F2', f2', S2'⟩ := S2.frz z2
    have r1 := Dp.up (f2.trans f2') S1'.headF
    exact ho F2' H2 v v2 Q S2'.fh r1 S2'.headF (Out.go S2'.tail (((f1.trans f1').trans f2).trans f2') po q)⟩
def BinD (X : Cx) (op : Operator) (d e : PyData) (k : Outc → Prop) : Prop := ∃ r, OpR X (binaryOp op) r ∧ ∃ o, Op2 X.K r d e o ∧ k o
theorem de_bin {op : Operator} (ha : DE X a ρ fun s1 ρ1 => isF s1 fun d1 => DE X b ρ1 fun s2 ρ2 => isF s2 fun d2 => BinD X op d1 d2 fun o => o.post fun s => P s ρ2) : DE X (.BinOp a op b pos) ρ P := by
  refine pe_imp (t := fun σ H Q => ∃ r, OpR X (binaryOp op) r ∧ tOp r (tD X.K ρ fun s1 ρ1 => isF s1 fun d1 => DE X b ρ1 fun s2 ρ2 => isF s2 fun d2 => BinD X op d1 d2 fun o => o.post fun s => P s ρ2) (tU X b) σ H Q) ?_ ?_
  · exact ⟨fun pins s σ H Q I ⟨r, ho, q⟩ => (pe_op ho ha pe_u).run pins s σ H Q I q⟩
  · -- the operation is known behind both operands only: all of them at once
    intro σ H Q ⟨R, F, S, q⟩
    refine ⟨fun x y H Q => ∃ r, OpR X (binaryOp op) r ∧ r x y H Q, fun pins s σ H x y v u Q I rx ry ⟨r, ho, h⟩ => ho pins s σ H x y v u Q I rx ry h, R, F, S, fun v F1 H1 s1 ρ1 f1 ⟨d1, z1, hb⟩ S1 => ?_⟩
    obtain ⟨F1', f1', S1'⟩ := S1.frz z1
    refine ⟨ρ1, _, hb, R, F1', S1'.tail, fun v2 F2 H2 s2 ρ2 f2 ⟨d2, z2, r, hr, o, ho, po⟩ S2 => ⟨r, hr, ?_⟩⟩
    obtain ⟨F2', f2', S2'⟩ := S2.frz z2
    have r1 := Dp.up (f2.trans f2') S1'.headF
    exact ho F2' H2 v v2 Q S2'.fh r1 S2'.headF (Out.go S2'.tail (((f1.trans f1').trans f2).trans f2') po q)
theorem op2_int {g : Int → Int → Int} {K : PySem.W.Frag} {i j : Int} : Op2 K (rI0 fun i j => .int (g i j)) (.int i) (.int j) (.val (.int (g i j))) := fun F H x y Q _ hx hy q => by
  cases hx; cases hy; exact ⟨i, j, rfl, rfl, q _ (.int _)⟩
theorem op2_intC {C : Int → Int → Prop} {g : Int → Int → Int} {K : PySem.W.Frag} {i j : Int} (hc : C i j) : Op2 K (rI C fun i j => .int (g i j)) (.int i) (.int j) (.val (.int (g i j))) := fun F H x y Q _ hx hy q => by
  cases hx; cases hy; exact ⟨i, j, rfl, rfl, hc, q _ (.int _)⟩
theorem op2_bl {g : Int → Int → Bool} {K : PySem.W.Frag} {i j : Int} : Op2 K (rI0 fun i j => .bl (g i j)) (.int i) (.int j) (.val (.bool (g i j))) := fun F H x y Q _ hx hy q => by
  cases hx; cases hy; exact ⟨i, j, rfl, rfl, q _ (.bl _)⟩
variable {k : Outc → Prop}
theorem bd_add {i j : Int} (h : k (.val (.int (i + j)))) : BinD X .Add (.int i) (.int j) k := ⟨_, op_add, _, op2_int, h⟩
theorem bd_sub {i j : Int} (h : k (.val (.int (i - j)))) : BinD X .Sub (.int i) (.int j) k := ⟨_, op_sub, _, op2_int, h⟩
theorem bd_mul {i j : Int} (hc : CMul i j) (h : k (.val (.int (i * j)))) : BinD X .Mult (.int i) (.int j) k := ⟨_, op_mul, _, op2_intC hc, h⟩
theorem bd_fdiv {i j : Int} (hc : 0 < j ∧ j < 1073741824) (h : k (.val (.int (i / j)))) : BinD X .FloorDiv (.int i) (.int j) k := ⟨_, op_fdiv, _, op2_intC hc, h⟩
theorem bd_mod {i j : Int} (hc : 0 < j) (h : k (.val (.int (i % j)))) : BinD X .Mod (.int i) (.int j) k := ⟨_, op_mod, _, op2_intC hc, h⟩
theorem bd_pow {i j : Int} (hc : CPow i j) (h : k (.val (.int (i ^ j.toNat)))) : BinD X .Pow (.int i) (.int j) k := ⟨_, op_pow, _, op2_intC hc, h⟩
theorem bd_adds {x y : Str} (hz : x.length + y.length ≤ sizeLine) (h : k (.val (.str (x ++ y)))) : BinD X .Add (.str x) (.str y) k :=
  ⟨_, op_add_str, _, fun F H u v Q _ hx hy q => by cases hx; cases hy; exact ⟨x, y, rfl, rfl, hz, q _ (.str _)⟩, h⟩
theorem bd_addib {i : Int} {b : Bool} (h : k (.val (.int (i + b2i b)))) : BinD X .Add (.int i) (.bool b) k :=
  ⟨_, op_add_ib, _, fun F H u v Q _ hx hy q => by cases hx; cases hy; exact ⟨i, b, rfl, rfl, q _ (.int _)⟩, h⟩
/-- t + u, both not empty -/
theorem bd_cat {ds es : List PyData} (h1 : ds ≠ []) (h2 : es ≠ []) (hz : ds.length + es.length ≤ sizeLine) (h : k (.newT (ds ++ es))) : BinD X .Add (.tuple ds) (.tuple es) k :=
  ⟨_, op_catT, _, fun F H u v Q hs hx hy q => by
    cases hx with
    | tup sx tx =>
      cases hy with
      | tup sy ty =>
        have l1 := tx.length
        have l2 := ty.length
        refine ⟨_, _, _, _, rfl, rfl, sqt_up hs sx, sqt_up hs sy, fun z => h1 ?_, by omega, fun z => absurd ?_ h2, fun _ p hp => q p _ hp (tx.append ty)⟩
        · subst z; cases tx; rfl
        · subst z; cases ty; rfl, h⟩

/-! ### comparisons -/
def CmpD (X : Cx) (op : CmpOp) (d e : PyData) (k : Bool → Prop) : Prop := ∃ r, OpR X (compareOp op) r ∧ ∃ b, Op2 X.K r d e (.val (.bool b)) ∧ k b
theorem de_cmp {op : CmpOp} (ha : DE X a ρ fun s1 ρ1 => isF s1 fun d1 => DE X b ρ1 fun s2 ρ2 => isF s2 fun d2 => CmpD X op d1 d2 fun c => P (.frz (.bool c)) ρ2) (hm : behindInMarks op b = false := by first | exact nomark _ | with_unfolding_all rfl) :
    DE X (.Compare a [op] [b] pos) ρ P := by
  refine pe_imp (pe_cmpR (r := fun x y H Q => ∃ r, OpR X (compareOp op) r ∧ r x y H Q) (fun pins s σ H x y v u Q I rx ry ⟨r, ho, h⟩ => ho pins s σ H x y v u Q I rx ry h) ha pe_u hm) ?_
  intro σ H Q ⟨R, F, S, q⟩
  refine ⟨R, F, S, fun v F1 H1 s1 ρ1 f1 ⟨d1, z1, hb⟩ S1 => ?_⟩
  obtain ⟨F1', f1', S1'⟩ := S1.frz z1
  refine ⟨ρ1, _, hb, R, F1', S1'.tail, fun v2 F2 H2 s2 ρ2 f2 ⟨d2, z2, r, hr, c, ho, po⟩ S2 => ⟨r, hr, ?_⟩⟩
  obtain ⟨F2', f2', S2'⟩ := S2.frz z2
  have r1 := Dp.up (f2.trans f2') S1'.headF
  exact ho F2' H2 v v2 Q S2'.fh r1 S2'.headF (Out.go (o := .val (.bool c)) S2'.tail (((f1.trans f1').trans f2).trans f2') po q)
theorem dt_cmp {op : CmpOp} {P : Bool → Env → Prop} (ha : DE X a ρ fun s1 ρ1 => isF s1 fun d1 => DE X b ρ1 fun s2 ρ2 => isF s2 fun d2 => CmpD X op d1 d2 fun c => P c ρ2) (hm : behindInMarks op b = false := by first | exact nomark _ | with_unfolding_all rfl) :
    DT X (.Compare a [op] [b] pos) ρ P := by
  refine pt_imp (pt_cmpR (r := fun x y H Q => ∃ r, OpR X (compareOp op) r ∧ r x y H Q) (fun pins s σ H x y v u Q I rx ry ⟨r, ho, h⟩ => ho pins s σ H x y v u Q I rx ry h) ha pe_u hm) ?_
  intro σ H Q ⟨R, F, S, q⟩
  refine ⟨R, F, S, fun v F1 H1 s1 ρ1 f1 ⟨d1, z1, hb⟩ S1 => ?_⟩
  obtain ⟨F1', f1', S1'⟩ := S1.frz z1
  refine ⟨ρ1, _, hb, R, F1', S1'.tail, fun v2 F2 H2 s2 ρ2 f2 ⟨d2, z2, r, hr, c, ho, po⟩ S2 => ⟨r, hr, ?_⟩⟩
  obtain ⟨F2', f2', S2'⟩ := S2.frz z2
  have r1 := Dp.up (f2.trans f2') S1'.headF
  refine ho F2' H2 v v2 _ S2'.fh r1 S2'.headF fun w rw' => ?_
  cases rw'
  exact ⟨c, rfl, q c F2' H2 ρ2 (((f1.trans f1').trans f2).trans f2') po S2'.tail⟩
variable {kb : Bool → Prop}
theorem cd_lt {i j : Int} (h : kb (decide (i < j))) : CmpD X .Lt (.int i) (.int j) kb := ⟨_, op_lt, _, op2_bl, h⟩
theorem cd_le {i j : Int} (h : kb (decide (i ≤ j))) : CmpD X .LtE (.int i) (.int j) kb := ⟨_, op_le, _, op2_bl, h⟩
theorem cd_gt {i j : Int} (h : kb (decide (j < i))) : CmpD X .Gt (.int i) (.int j) kb := ⟨_, op_gt, _, op2_bl, h⟩
theorem cd_ge {i j : Int} (h : kb (decide (j ≤ i))) : CmpD X .GtE (.int i) (.int j) kb := ⟨_, op_ge, _, op2_bl, h⟩
theorem cd_eqi {i j : Int} (h : kb (decide (i = j))) : CmpD X .Eq (.int i) (.int j) kb :=
  ⟨_, op_eq, _, fun F H x y Q _ hx hy q => by cases hx; cases hy; exact ⟨rfl, by have := q _ (.bl _); simpa using this⟩, h⟩
theorem cd_nei {i j : Int} (h : kb (!decide (i = j))) : CmpD X .NotEq (.int i) (.int j) kb :=
  ⟨_, op_ne, _, fun F H x y Q _ hx hy q => by cases hx; cases hy; exact ⟨rfl, by have := q _ (.bl _); simpa using this⟩, h⟩
theorem cd_eqs {i j : Str} (h : kb (decide (i = j))) : CmpD X .Eq (.str i) (.str j) kb :=
  ⟨_, op_eq, _, fun F H x y Q _ hx hy q => by cases hx; cases hy; exact ⟨rfl, by have := q _ (.bl _); simpa using this⟩, h⟩
theorem cd_nes {i j : Str} (h : kb (!decide (i = j))) : CmpD X .NotEq (.str i) (.str j) kb :=
  ⟨_, op_ne, _, fun F H x y Q _ hx hy q => by cases hx; cases hy; exact ⟨rfl, by have := q _ (.bl _); simpa using this⟩, h⟩
/-- data at any depth -/
theorem cd_eqD {d e : PyData} (hu : X.A.units + 64 < cLine) (hd : SeqAt.shaped d = true) (he : SeqAt.shaped e = true) (h : kb (PyData.eqv d e)) : CmpD X .Eq d e kb :=
  ⟨_, op_eqD hu, _, fun F H x y Q hs hx hy q => ⟨d, e, Dp.up hs hx, Dp.up hs hy, hd, he, q _ (.bl _)⟩, h⟩
theorem cd_neD {d e : PyData} (hu : X.A.units + 64 < cLine) (hd : SeqAt.shaped d = true) (he : SeqAt.shaped e = true) (h : kb (!PyData.eqv d e)) : CmpD X .NotEq d e kb :=
  ⟨_, op_neD hu, _, fun F H x y Q hs hx hy q => ⟨d, e, Dp.up hs hx, Dp.up hs hy, hd, he, q _ (.bl _)⟩, h⟩
theorem cd_ins {i j : Str} (h : kb (!(Builtin.Str.occurrences j i 0 j.length 1).isEmpty)) : CmpD X .In (.str i) (.str j) kb :=
  ⟨_, op_in_str, _, fun F H x y Q _ hx hy q => by cases hx; cases hy; exact ⟨i, j, rfl, rfl, q _ (.bl _)⟩, h⟩
theorem cd_inc {c : Nat} {z : Str} (h : kb (decide (c ∈ z.cps.toList))) : CmpD X .In (.str ⟨#[c]⟩) (.str z) kb :=
  ⟨_, op_in_sign, _, fun F H x y Q _ hx hy q => by cases hx; cases hy; exact ⟨c, z, rfl, rfl, q _ (.bl _)⟩, h⟩
theorem cd_ninc {c : Nat} {z : Str} (h : kb (!decide (c ∈ z.cps.toList))) : CmpD X .NotIn (.str ⟨#[c]⟩) (.str z) kb :=
  ⟨_, op_notIn_sign, _, fun F H x y Q _ hx hy q => by cases hx; cases hy; exact ⟨c, z, rfl, rfl, q _ (.bl _)⟩, h⟩
theorem cd_isN {d : PyData} {kb : Bool → Prop} (h : kb (match d with | .none => true | _ => false)) : CmpD X .Is d .none kb :=
  ⟨_, op_isN, _, fun F H x y Q _ hx hy q => by cases hy; exact ⟨rfl, by cases hx <;> simpa using q _ (.bl _)⟩, h⟩
theorem cd_notN {d : PyData} {kb : Bool → Prop} (h : kb (match d with | .none => false | _ => true)) : CmpD X .IsNot d .none kb :=
  ⟨_, op_notN, _, fun F H x y Q _ hx hy q => by cases hy; exact ⟨rfl, by cases hx <;> simpa using q _ (.bl _)⟩, h⟩

/-! ### tests -/
theorem dt_val {P : Bool → Env → Prop} (h : DE X e ρ fun s ρ' => ∃ b, s = .frz (.bool b) ∧ P b ρ') (he : ∀ whole, isTrue e X.env whole = (do let v ← whole; standAt e.pos; holding [v] (truthy v)) := by intro _; rfl) : DT X e ρ P :=
  pt_imp (pt_val h he) fun σ H Q ⟨R, F, S, q⟩ => ⟨R, F, S, fun v F' H' s ρ' f ⟨b, hs, p⟩ S' => by
    subst hs
    cases S'.headF
    exact ⟨b, rfl, q b F' H' ρ' f p S'.tail⟩⟩
theorem dt_of_dw {P : Bool → Env → Prop} (h : DW X e ρ P) : DT X e ρ P := PW.pt h
variable {PB : Bool → Env → Prop} {rest : List Expr}
theorem dw_and1 (h : DT X a ρ PB) : DW X (.BoolOp .And [a] pos) ρ PB := pw_and1 h
theorem dw_or1 (h : DT X a ρ PB) : DW X (.BoolOp .Or [a] pos) ρ PB := pw_or1 h
theorem dw_and (h : DT X a ρ fun c ρ1 => if c = true then DW X (.BoolOp .And (b :: rest) pos) ρ1 PB else PB false ρ1) : DW X (.BoolOp .And (a :: b :: rest) pos) ρ PB :=
  pw_imp (pw_and h pw_u) fun σ H Q ⟨R, F, S, q⟩ => ⟨R, F, S, fun c F' H' ρ' f p S' => by
    cases c with
    | true => exact ⟨ρ', _, p, R, F', S', fun c2 F2 H2 ρ2 f2 p2 S2 => q c2 F2 H2 ρ2 (f.trans f2) p2 S2⟩
    | false => exact q false F' H' ρ' f p S'⟩
theorem dw_or (h : DT X a ρ fun c ρ1 => if c = true then PB true ρ1 else DW X (.BoolOp .Or (b :: rest) pos) ρ1 PB) : DW X (.BoolOp .Or (a :: b :: rest) pos) ρ PB :=
  pw_imp (pw_or h pw_u) fun σ H Q ⟨R, F, S, q⟩ => ⟨R, F, S, fun c F' H' ρ' f p S' => by
    cases c with
    | false => exact ⟨ρ', _, p, R, F', S', fun c2 F2 H2 ρ2 f2 p2 S2 => q c2 F2 H2 ρ2 (f.trans f2) p2 S2⟩
    | true => exact q true F' H' ρ' f p S'⟩
theorem dt_not (h : DT X a ρ fun c ρ1 => PB (!c) ρ1) : DT X (.UnaryOp .Not a pos) ρ PB := pt_imp (pt_not h) fun σ H Q ⟨R, F, S, q⟩ => ⟨R, F, S, fun c F' H' ρ' f p S' => q (!c) F' H' ρ' f p S'⟩
/-- a op b op' c -/
def ChnD (X : Cx) (op : CmpOp) (d e : PyData) (k : Bool → Prop) : Prop := CmpD X op d e k
theorem dt_chain {op op' : CmpOp} (ha : DE X a ρ fun s1 ρ1 => isF s1 fun d1 => DE X b ρ1 fun s2 ρ2 => isF s2 fun d2 => CmpD X op d1 d2 fun k1 => if k1 = true then DE X c ρ2 (fun s3 ρ3 => isF s3 fun d3 => CmpD X op' d2 d3 fun k2 => PB k2 ρ3) else PB false ρ2)
    (hm : lastMarks [op, op'] [b, c] = false := by with_unfolding_all rfl) : DT X (.Compare a [op, op'] [b, c] pos) ρ PB := by
  refine pt_imp (pt_chain (r := fun x y H Q => ∃ r, OpR X (compareOp op) r ∧ r x y H Q) (r' := fun x y H Q => ∃ r, OpR X (compareOp op') r ∧ r x y H Q)
    (fun pins s σ H x y v u Q I rx ry ⟨r, ho, h⟩ => ho pins s σ H x y v u Q I rx ry h) (fun pins s σ H x y v u Q I rx ry ⟨r, ho, h⟩ => ho pins s σ H x y v u Q I rx ry h) ha pe_u pe_u hm) ?_
  intro σ H Q ⟨R, F, S, q⟩
  refine ⟨R, F, S, fun v F1 H1 s1 ρ1 f1 ⟨d1, z1, hb⟩ S1 => ?_⟩
  obtain ⟨F1', f1', S1'⟩ := S1.frz z1
  refine ⟨ρ1, _, hb, R, F1', S1'.tail, fun v2 F2 H2 s2 ρ2 f2 ⟨d2, z2, r, hr, k1, ho, po⟩ S2 => ⟨r, hr, ?_⟩⟩
  obtain ⟨F2', f2', S2'⟩ := S2.frz z2
  have r1 := Dp.up (f2.trans f2') S1'.headF
  refine ho F2' H2 v v2 _ S2'.fh r1 S2'.headF fun w rw' => ?_
  cases rw'
  refine ⟨k1, rfl, ?_⟩
  cases k1 with
  | false => exact ⟨false, rfl, q false F2' H2 ρ2 (((f1.trans f1').trans f2).trans f2') po S2'.tail⟩
  | true =>
    refine ⟨ρ2, _, po, R, F2', S2'.tail, fun v3 F3 H3 s3 ρ3 f3 ⟨d3, z3, r', hr', k2, ho', po'⟩ S3 => ⟨r', hr', ?_⟩⟩
    obtain ⟨F3', f3', S3'⟩ := S3.frz z3
    refine ho' F3' H3 v2 v3 _ S3'.fh (Dp.up (f3.trans f3') S2'.headF) S3'.headF fun w rw' => ?_
    cases rw'
    exact ⟨k2, rfl, q k2 F3' H3 ρ3 (((((f1.trans f1').trans f2).trans f2').trans f3).trans f3') po' S3'.tail⟩
theorem de_chain {op op' : CmpOp} (ha : DE X a ρ fun s1 ρ1 => isF s1 fun d1 => DE X b ρ1 fun s2 ρ2 => isF s2 fun d2 => CmpD X op d1 d2 fun k1 => if k1 = true then DE X c ρ2 (fun s3 ρ3 => isF s3 fun d3 => CmpD X op' d2 d3 fun k2 => P (.frz (.bool k2)) ρ3) else P (.frz (.bool false)) ρ2)
    (hm : lastMarks [op, op'] [b, c] = false := by with_unfolding_all rfl) : DE X (.Compare a [op, op'] [b, c] pos) ρ P := by
  refine pe_imp (pe_chain (r := fun x y H Q => ∃ r, OpR X (compareOp op) r ∧ r x y H Q) (r' := fun x y H Q => ∃ r, OpR X (compareOp op') r ∧ r x y H Q)
    (fun pins s σ H x y v u Q I rx ry ⟨r, ho, h⟩ => ho pins s σ H x y v u Q I rx ry h) (fun pins s σ H x y v u Q I rx ry ⟨r, ho, h⟩ => ho pins s σ H x y v u Q I rx ry h) ha pe_u pe_u hm) ?_
  intro σ H Q ⟨R, F, S, q⟩
  refine ⟨R, F, S, fun v F1 H1 s1 ρ1 f1 ⟨d1, z1, hb⟩ S1 => ?_⟩
  obtain ⟨F1', f1', S1'⟩ := S1.frz z1
  refine ⟨ρ1, _, hb, R, F1', S1'.tail, fun v2 F2 H2 s2 ρ2 f2 ⟨d2, z2, r, hr, k1, ho, po⟩ S2 => ⟨r, hr, ?_⟩⟩
  obtain ⟨F2', f2', S2'⟩ := S2.frz z2
  have r1 := Dp.up (f2.trans f2') S1'.headF
  refine ho F2' H2 v v2 _ S2'.fh r1 S2'.headF fun w rw' => ?_
  cases rw'
  refine ⟨k1, rfl, ?_⟩
  cases k1 with
  | false => exact q _ F2' H2 _ ρ2 (((f1.trans f1').trans f2).trans f2') po (S2'.tail.consF (.bl false))
  | true =>
    refine ⟨ρ2, _, po, R, F2', S2'.tail, fun v3 F3 H3 s3 ρ3 f3 ⟨d3, z3, r', hr', k2, ho', po'⟩ S3 => ⟨r', hr', ?_⟩⟩
    obtain ⟨F3', f3', S3'⟩ := S3.frz z3
    refine ho' F3' H3 v2 v3 _ S3'.fh (Dp.up (f3.trans f3') S2'.headF) S3'.headF fun w rw' => ?_
    cases rw'
    exact q _ F3' H3 _ ρ3 (((((f1.trans f1').trans f2).trans f2').trans f3).trans f3') po' (S3'.tail.consF (.bl k2))
/-- and, or, not as values -/
theorem de_one {op} (h : DE X a ρ P) : DE X (.BoolOp op [a] pos) ρ P := pe_one h
theorem de_and (h : DE X a ρ fun s ρ1 => ∃ c, s = .frz (.bool c) ∧ if c = true then DE X (.BoolOp .And (b :: rest) pos) ρ1 P else P (.frz (.bool false)) ρ1) : DE X (.BoolOp .And (a :: b :: rest) pos) ρ P :=
  pe_imp (pe_and h pe_u) fun σ H Q ⟨R, F, S, q⟩ => ⟨R, F, S, fun v F' H' s ρ' f ⟨c, hs, p⟩ S' => by
    subst hs
    cases S'.headF
    refine ⟨c, rfl, ?_⟩
    cases c with
    | true => exact ⟨ρ', _, p, R, F', S'.tail, fun v2 F2 H2 s2 ρ2 f2 p2 S2 => q v2 F2 H2 s2 ρ2 (f.trans f2) p2 S2⟩
    | false => exact q _ F' H' _ ρ' f p S'⟩
theorem de_or (h : DE X a ρ fun s ρ1 => ∃ c, s = .frz (.bool c) ∧ if c = true then P (.frz (.bool true)) ρ1 else DE X (.BoolOp .Or (b :: rest) pos) ρ1 P) : DE X (.BoolOp .Or (a :: b :: rest) pos) ρ P :=
  pe_imp (pe_or h pe_u) fun σ H Q ⟨R, F, S, q⟩ => ⟨R, F, S, fun v F' H' s ρ' f ⟨c, hs, p⟩ S' => by
    subst hs
    cases S'.headF
    refine ⟨c, rfl, ?_⟩
    cases c with
    | false => exact ⟨ρ', _, p, R, F', S'.tail, fun v2 F2 H2 s2 ρ2 f2 p2 S2 => q v2 F2 H2 s2 ρ2 (f.trans f2) p2 S2⟩
    | true => exact q _ F' H' _ ρ' f p S'⟩
theorem de_not (h : DE X a ρ fun s ρ1 => ∃ c, s = .frz (.bool c) ∧ P (.frz (.bool (!c))) ρ1) : DE X (.UnaryOp .Not a pos) ρ P :=
  pe_imp (pe_not h) fun σ H Q ⟨R, F, S, q⟩ => ⟨R, F, S, fun v F' H' s ρ' f ⟨c, hs, p⟩ S' => by
    subst hs
    cases S'.headF
    exact ⟨c, rfl, q _ F' H' _ ρ' f p (S'.tail.consF (.bl _))⟩⟩
theorem de_neg (h : DE X a ρ fun s ρ1 => ∃ i, s = .frz (.int i) ∧ P (.frz (.int (-i))) ρ1) : DE X (.UnaryOp .USub a pos) ρ P :=
  pe_imp (pe_un un_neg h) fun σ H Q ⟨R, F, S, q⟩ => ⟨R, F, S, fun v F' H' s ρ' f ⟨c, hs, p⟩ S' => by
    subst hs
    cases S'.headF
    exact ⟨c, rfl, q _ F' H' _ ρ' f p (S'.tail.consF (.int _))⟩⟩
/-- a if c else b -/
theorem de_if (h : DT X c ρ fun k ρ1 => if k = true then DE X a ρ1 P else DE X b ρ1 P) : DE X (.IfExp c a b pos) ρ P :=
  pe_imp (pe_ifExp h pe_u pe_u) fun σ H Q ⟨R, F, S, q⟩ => ⟨R, F, S, fun k F' H' ρ' f p S' => by
    cases k with
    | true => exact ⟨ρ', _, p, R, F', S', fun v2 F2 H2 s2 ρ2 f2 p2 S2 => q v2 F2 H2 s2 ρ2 (f.trans f2) p2 S2⟩
    | false => exact ⟨ρ', _, p, R, F', S', fun v2 F2 H2 s2 ρ2 f2 p2 S2 => q v2 F2 H2 s2 ρ2 (f.trans f2) p2 S2⟩⟩

/-! ### argument lists, displays, built-ins -/
variable {PA' : List PyData → Env → Prop}
theorem da_nil (h : PA' [] ρ) : DA X [] ρ PA' := pa_imp pa_nil fun σ H Q ⟨R, F, S, q⟩ => q [] F H [] ρ (Sub.refl F) h .nil S
theorem da_cons (h : DE X e ρ fun s ρ1 => isF s fun d => DA X es ρ1 fun ds ρ2 => PA' (d :: ds) ρ2) (hs : starEach (e :: es) X.env = (false, eval e X.env) :: starEach es X.env := by rfl) : DA X (e :: es) ρ PA' :=
  pa_imp (pa_cons h pa_u hs) fun σ H Q ⟨R, F, S, q⟩ => ⟨R, F, S, fun v F1 H1 s1 ρ1 f1 ⟨d1, z1, hb⟩ S1 => by
    obtain ⟨F1', f1', S1'⟩ := S1.frz z1
    refine ⟨ρ1, _, hb, R, F1', S1'.tail, fun vs F2 H2 ds ρ2 f2 p2 t2 S2 => ?_⟩
    exact q (v :: vs) F2 H2 (d1 :: ds) ρ2 ((f1.trans f1').trans f2) p2 (.cons (Dp.up f2 S1'.headF) t2) S2⟩
theorem de_tup {j} (h : DA X es ρ fun ds ρ1 => ds.length ≤ sizeLine ∧ P (.frz (.tuple ds)) ρ1) : DE X (.Tuple es j pos) ρ P :=
  pe_imp (pe_tup h) fun σ H Q ⟨R, F, S, q⟩ => ⟨R, F, S, fun vs F1 H1 ds ρ1 f1 ⟨z, p⟩ t S1 => ⟨by rw [t.length]; exact z, fun a ha => q _ _ _ _ ρ1 (f1.trans (Sub.new (S1.freshF ha))) p (S1.newT ha t)⟩⟩
theorem de_lst (h : DA X es ρ fun ds ρ1 => ds.length ≤ sizeLine ∧ ∀ p, P (.own p (oLst p ds)) ρ1) : DE X (.List es pos) ρ P :=
  pe_imp (pe_lst h) fun σ H Q ⟨R, F, S, q⟩ => ⟨R, F, S, fun vs F1 H1 ds ρ1 f1 ⟨z, p⟩ t S1 => ⟨by rw [t.length]; exact z, fun a ha => q _ _ _ _ ρ1 f1 (p a) (S1.newL ha t)⟩⟩
def CalD (X : Cx) (f : Value) (ds : List PyData) (k : Outc → Prop) : Prop := ∃ r, CallR X f r ∧ ∃ o, OpC X.K r ds o ∧ k o
theorem call_any {f : Value} : CallR X f (fun vs H Q => ∃ r, CallR X f r ∧ r vs H Q) := fun pins s σ H xs us Q I rx ⟨r, hr, q⟩ => hr pins s σ H xs us Q I rx q
theorem de_cb {x : Str} {p : Pos} {id : String} (h : DA X (e :: es) ρ fun ds ρ1 => CalD X (.builtin id) ds fun o => o.post fun s => P s ρ1) (hg : Gl X x) (hm : X.mg x = none) (hv : bootBuiltins x = some (.builtin id))
    (hn : x ≠ "__name__" := by decide) (hdb : (x == ("__debug__" : Str)) = false := by decide) (he : starEach (e :: es) X.env = (false, eval e X.env) :: starEach es X.env := by rfl) (hpl : (backTo pos (starEach es X.env)).any (·.1) = false := by rfl) :
    DE X (.Call (.Name x p) (e :: es) [] pos) ρ P :=
  pe_imp (pe_callB call_any hg hm hv h hn hdb he hpl) fun σ H Q ⟨R, F, S, q⟩ => ⟨R, F, S, fun vs F1 H1 ds ρ1 f1 ⟨r, hr, o, ho, po⟩ t S1 => ⟨r, hr, ho F1 H1 vs Q S1.fh t (Out.go S1 f1 po q)⟩⟩
theorem de_ct {x : Str} {p : Pos} {T : String} (h : DA X (e :: es) ρ fun ds ρ1 => CalD X (.type T) ds fun o => o.post fun s => P s ρ1) (hg : Gl X x) (hm : X.mg x = none) (hv : bootBuiltins x = some (.type T))
    (hn : x ≠ "__name__" := by decide) (hdb : (x == ("__debug__" : Str)) = false := by decide) (he : starEach (e :: es) X.env = (false, eval e X.env) :: starEach es X.env := by rfl) (hpl : (backTo pos (starEach es X.env)).any (·.1) = false := by rfl) :
    DE X (.Call (.Name x p) (e :: es) [] pos) ρ P :=
  pe_imp (pe_callTy call_any hg hm hv h hn hdb he hpl) fun σ H Q ⟨R, F, S, q⟩ => ⟨R, F, S, fun vs F1 H1 ds ρ1 f1 ⟨r, hr, o, ho, po⟩ t S1 => ⟨r, hr, ho F1 H1 vs Q S1.fh t (Out.go S1 f1 po q)⟩⟩
theorem all1 {K : PySem.W.Frag} {F : Hp} {vs : List V} {d : PyData} (h : DpAll K F vs [d]) : ∃ v, vs = [v] ∧ Dp K F v d := by
  cases h with
  | cons a t => cases t; exact ⟨_, rfl, a⟩
theorem cl_lenS {x : Str} (hz : x.length ≤ sizeLine) (h : k (.val (.int x.length))) : CalD X (.builtin "len") [.str x] k :=
  ⟨_, call_len_str, _, fun F H vs Q _ t q => by obtain ⟨v, rfl, r⟩ := all1 t; cases r; exact ⟨x, rfl, hz, q _ (.int _)⟩, h⟩
theorem cl_lenL {ds : List PyData} (h : k (.val (.int ds.length))) : CalD X (.builtin "len") [.list ds] k :=
  ⟨_, call_len_seq, _, fun F H vs Q hs t q => by
    obtain ⟨v, rfl, r⟩ := all1 t
    cases r with
    | lst sx tx => exact ⟨_, _, rfl, .inl (sql_up hs sx), by have := q _ (.int _); rw [tx.length]; exact this⟩, h⟩
theorem cl_lenT {ds : List PyData} (h : k (.val (.int ds.length))) : CalD X (.builtin "len") [.tuple ds] k :=
  ⟨_, call_len_seq, _, fun F H vs Q hs t q => by
    obtain ⟨v, rfl, r⟩ := all1 t
    cases r with
    | tup sx tx => exact ⟨_, _, rfl, .inr (sqt_up hs sx), by have := q _ (.int _); rw [tx.length]; exact this⟩, h⟩
theorem cl_listL {ds : List PyData} (h : k (.newL ds)) : CalD X (.type "list") [.list ds] k :=
  ⟨_, call_list_of, _, fun F H vs Q hs t q => by
    obtain ⟨v, rfl, r⟩ := all1 t
    cases r with
    | lst sx tx => exact ⟨_, _, rfl, .inl (sql_up hs sx), fun l hl => q l _ hl tx⟩, h⟩
theorem cl_listT {ds : List PyData} (h : k (.newL ds)) : CalD X (.type "list") [.tuple ds] k :=
  ⟨_, call_list_of, _, fun F H vs Q hs t q => by
    obtain ⟨v, rfl, r⟩ := all1 t
    cases r with
    | tup sx tx => exact ⟨_, _, rfl, .inr (sqt_up hs sx), fun l hl => q l _ hl tx⟩, h⟩
theorem cl_tupL {ds : List PyData} (h : k (.newT ds)) : CalD X (.type "tuple") [.list ds] k :=
  ⟨_, call_tuple_of, _, fun F H vs Q hs t q => by
    obtain ⟨v, rfl, r⟩ := all1 t
    cases r with
    | lst sx tx => exact ⟨_, _, rfl, .inl ⟨sql_up hs sx, fun l hl => q l _ hl tx⟩⟩, h⟩
theorem cl_tupT {ds : List PyData} (h : k (.val (.tuple ds))) : CalD X (.type "tuple") [.tuple ds] k :=
  ⟨_, call_tuple_of, _, fun F H vs Q hs t q => by
    obtain ⟨v, rfl, r⟩ := all1 t
    cases r with
    | tup sx tx => exact ⟨_, _, rfl, .inr ⟨sqt_up hs sx, q _ (.tup sx tx)⟩⟩, h⟩
theorem cl_any {bs : List Bool} (hc : X.calm = true) (h : k (.val (.bool (bs.any id)))) : CalD X (.builtin "any") [.list (bs.map .bool)] k :=
  ⟨_, cr_any hc, _, fun F H vs Q hs t q => by
    obtain ⟨v, rfl, r⟩ := all1 t
    cases r with
    | lst sx tx => exact ⟨_, bs, rfl, by rw [← tx.bls]; exact sql_up hs sx, q _ (.bl _)⟩, h⟩
theorem cl_all {bs : List Bool} (hc : X.calm = true) (h : k (.val (.bool (bs.all id)))) : CalD X (.builtin "all") [.list (bs.map .bool)] k :=
  ⟨_, cr_all hc, _, fun F H vs Q hs t q => by
    obtain ⟨v, rfl, r⟩ := all1 t
    cases r with
    | lst sx tx => exact ⟨_, bs, rfl, by rw [← tx.bls]; exact sql_up hs sx, q _ (.bl _)⟩, h⟩
theorem cl_sum {ns : List Int} (hc : X.calm = true) (h : k (.val (.int ns.sum))) : CalD X (.builtin "sum") [.list (ns.map .int)] k :=
  ⟨_, cr_sum hc, _, fun F H vs Q hs t q => by
    obtain ⟨v, rfl, r⟩ := all1 t
    cases r with
    | lst sx tx => exact ⟨_, ns, rfl, by rw [← tx.ints]; exact sql_up hs sx, q _ (.int _)⟩, h⟩
end
end DL

set_option maxHeartbeats 2000000
/-! DL3: kinds, subscripts, slices, methods of texts, defs called, what is walked, targets, statements, loops, comprehensions. -/
namespace DL
open PySem PySem.Spec PyProof.Rows L2

/-! ### kinds -/
def tyD : PyData → String
  | .none => "NoneType"
  | .bool _ => "bool"
  | .int _ => "int"
  | .str _ => "str"
  | .list _ => "list"
  | .tuple _ => "tuple"
  | .dict _ => "dict"
theorem ty_of {K : PySem.W.Frag} {F H : Hp} {v : V} {d : PyData} (hs : Sub F H) (h : Dp K F v d) : TyX K H v (.type (tyD d)) := by
  cases h with
  | non => exact .base .non
  | bl b => exact .base (.bl b)
  | int i => exact .base (.int i)
  | str x => exact .base (.str x)
  | lst s t =>
    rcases s with (s | ⟨o, s⟩) | ⟨o, its, n, hk, hc, _⟩
    · exact .base (.lst (hs _ _ s))
    · exact .base (.frz (hs _ _ s))
    · exact .kList hk hc
  | tup s t =>
    rcases s with (s | ⟨o, s⟩) | ⟨o, its, n, hk, hc, _⟩
    · exact .base (.tup (hs _ _ s))
    · exact .fTuple (hs _ _ s)
    · exact .kTuple hk hc
@[simp] def kInt : PyData → Bool
  | .int _ => true
  | .bool _ => true
  | _ => false
@[simp] def kBool : PyData → Bool
  | .bool _ => true
  | _ => false
@[simp] def kStr : PyData → Bool
  | .str _ => true
  | _ => false
@[simp] def kList : PyData → Bool
  | .list _ => true
  | _ => false
@[simp] def kTup : PyData → Bool
  | .tuple _ => true
  | _ => false
/-- T is a built-in type whose answer is g -/
def KindOk (T : String) (g : PyData → Bool) : Prop := ∀ d, kitB (tyD d) T = some (g d)
theorem ko_int : KindOk "int" kInt := fun d => match d with
  | .none => (by decide +kernel : kitB "NoneType" "int" = some false) 
  | .bool _ => (by decide +kernel : kitB "bool" "int" = some true) 
  | .int _ => (by decide +kernel : kitB "int" "int" = some true) 
  | .str _ => (by decide +kernel : kitB "str" "int" = some false) 
  | .list _ => (by decide +kernel : kitB "list" "int" = some false) 
  | .tuple _ => (by decide +kernel : kitB "tuple" "int" = some false) 
  | .dict _ => (by decide +kernel : kitB "dict" "int" = some false)
theorem ko_bool : KindOk "bool" kBool := fun d => match d with
  | .none => (by decide +kernel : kitB "NoneType" "bool" = some false) 
  | .bool _ => (by decide +kernel : kitB "bool" "bool" = some true) 
  | .int _ => (by decide +kernel : kitB "int" "bool" = some false) 
  | .str _ => (by decide +kernel : kitB "str" "bool" = some false) 
  | .list _ => (by decide +kernel : kitB "list" "bool" = some false) 
  | .tuple _ => (by decide +kernel : kitB "tuple" "bool" = some false) 
  | .dict _ => (by decide +kernel : kitB "dict" "bool" = some false)
theorem ko_str : KindOk "str" kStr := fun d => match d with
  | .none => (by decide +kernel : kitB "NoneType" "str" = some false) 
  | .bool _ => (by decide +kernel : kitB "bool" "str" = some false) 
  | .int _ => (by decide +kernel : kitB "int" "str" = some false) 
  | .str _ => (by decide +kernel : kitB "str" "str" = some true) 
  | .list _ => (by decide +kernel : kitB "list" "str" = some false) 
  | .tuple _ => (by decide +kernel : kitB "tuple" "str" = some false) 
  | .dict _ => (by decide +kernel : kitB "dict" "str" = some false)
theorem ko_list : KindOk "list" kList := fun d => match d with
  | .none => (by decide +kernel : kitB "NoneType" "list" = some false) 
  | .bool _ => (by decide +kernel : kitB "bool" "list" = some false) 
  | .int _ => (by decide +kernel : kitB "int" "list" = some false) 
  | .str _ => (by decide +kernel : kitB "str" "list" = some false) 
  | .list _ => (by decide +kernel : kitB "list" "list" = some true) 
  | .tuple _ => (by decide +kernel : kitB "tuple" "list" = some false) 
  | .dict _ => (by decide +kernel : kitB "dict" "list" = some false)
theorem ko_tuple : KindOk "tuple" kTup := fun d => match d with
  | .none => (by decide +kernel : kitB "NoneType" "tuple" = some false) 
  | .bool _ => (by decide +kernel : kitB "bool" "tuple" = some false) 
  | .int _ => (by decide +kernel : kitB "int" "tuple" = some false) 
  | .str _ => (by decide +kernel : kitB "str" "tuple" = some false) 
  | .list _ => (by decide +kernel : kitB "list" "tuple" = some false) 
  | .tuple _ => (by decide +kernel : kitB "tuple" "tuple" = some true) 
  | .dict _ => (by decide +kernel : kitB "dict" "tuple" = some false)

section
variable {X : Cx} {e a b c : Expr} {es : List Expr} {ρ : Env} {P P' : Sl → Env → Prop} {pos : Pos} {k : Outc → Prop}
/-- isinstance(e, T) -/
theorem de_isi {T : String} {g : PyData → Bool} {xT xI : Str} {p1 p2 : Pos} (ko : KindOk T g) (h : DE X e ρ fun s ρ1 => isF s fun d => P (.frz (.bool (g d))) ρ1)
    (hg : Gl X xI) (hm : X.mg xI = none) (hv : bootBuiltins xI = some (.builtin "isinstance")) (hgT : Gl X xT) (hmT : X.mg xT = none) (hvT : bootBuiltins xT = some (.type T))
    (hn : xI ≠ "__name__" := by decide) (hdb : (xI == ("__debug__" : Str)) = false := by decide) (hn2 : xT ≠ "__name__" := by decide) (hdb2 : (xT == ("__debug__" : Str)) = false := by decide)
    (he : starEach [e, .Name xT p2] X.env = (false, eval e X.env) :: starEach [.Name xT p2] X.env := by rfl) (he2 : starEach [.Name xT p2] X.env = [(false, eval (.Name xT p2) X.env)] := by rfl) (hpl : (backTo pos (starEach [.Name xT p2] X.env)).any (·.1) = false := by rfl) :
    DE X (.Call (.Name xI p1) [e, .Name xT p2] [] pos) ρ P :=
  pe_imp (pe_callB call_isi hg hm hv (pa_cons h (pa_cons (pe_bltn (v := .ty T) hgT hmT hvT rfl hn2 hdb2) pa_nil he2) he) hn hdb he hpl) fun σ H Q ⟨R, F, S, q⟩ => ⟨R, F, S, fun v F1 H1 s1 ρ1 f1 ⟨d1, z1, p⟩ S1 => by
    obtain ⟨F1', f1', S1'⟩ := S1.frz z1
    exact ⟨v, .ty T, .type (tyD d1), .type T, g d1, rfl, .ty T, ty_of S1'.fh S1'.headF, kit_ty (ko d1), q _ F1' H1 _ ρ1 (f1.trans f1') p (S1'.tail.consF (.bl _))⟩⟩
/-- isinstance(e, (T, U)) -/
theorem de_isi2 {T U : String} {g g' : PyData → Bool} {xT xU xI : Str} {p1 p2 p3 p4 : Pos} {j} (ko : KindOk T g) (ko' : KindOk U g') (h : DE X e ρ fun s ρ1 => isF s fun d => P (.frz (.bool (g d || g' d))) ρ1)
    (hg : Gl X xI) (hm : X.mg xI = none) (hv : bootBuiltins xI = some (.builtin "isinstance")) (hgT : Gl X xT) (hmT : X.mg xT = none) (hvT : bootBuiltins xT = some (.type T)) (hgU : Gl X xU) (hmU : X.mg xU = none) (hvU : bootBuiltins xU = some (.type U))
    (hn : xI ≠ "__name__" := by decide) (hdb : (xI == ("__debug__" : Str)) = false := by decide) (hn2 : xT ≠ "__name__" := by decide) (hdb2 : (xT == ("__debug__" : Str)) = false := by decide) (hn3 : xU ≠ "__name__" := by decide) (hdb3 : (xU == ("__debug__" : Str)) = false := by decide)
    (he : starEach [e, .Tuple [.Name xT p2, .Name xU p3] j p4] X.env = (false, eval e X.env) :: starEach [.Tuple [.Name xT p2, .Name xU p3] j p4] X.env := by rfl) (he2 : starEach [.Tuple [.Name xT p2, .Name xU p3] j p4] X.env = [(false, eval (.Tuple [.Name xT p2, .Name xU p3] j p4) X.env)] := by rfl)
    (he3 : starEach [.Name xT p2, .Name xU p3] X.env = (false, eval (.Name xT p2) X.env) :: starEach [.Name xU p3] X.env := by rfl) (he4 : starEach [.Name xU p3] X.env = [(false, eval (.Name xU p3) X.env)] := by rfl) (hpl : (backTo pos (starEach [.Tuple [.Name xT p2, .Name xU p3] j p4] X.env)).any (·.1) = false := by rfl) :
    DE X (.Call (.Name xI p1) [e, .Tuple [.Name xT p2, .Name xU p3] j p4] [] pos) ρ P :=
  pe_imp (pe_callB call_isiT hg hm hv (pa_cons h (pa_cons (pe_tup (pa_cons (pe_bltn (v := .ty T) hgT hmT hvT rfl hn2 hdb2) (pa_cons (pe_bltn (v := .ty U) hgU hmU hvU rfl hn3 hdb3) pa_nil he4) he3)) pa_nil he2) he) hn hdb he hpl) fun σ H Q ⟨R, F, S, q⟩ => ⟨R, F, S, fun v F1 H1 s1 ρ1 f1 ⟨d1, z1, p⟩ S1 => by
    obtain ⟨F1', f1', S1'⟩ := S1.frz z1
    refine ⟨by show 2 ≤ sizeLine; decide, fun tp htp => ?_⟩
    have S2 := S1'.newH (o := .tup [.ty T, .ty U]) htp
    exact ⟨v, tp, _, .type (tyD d1), [.type T, .type U], g d1 || g' d1, rfl, upd_same, .cons (.ty T) (.cons (.ty U) .nil), ty_of S2.fh S2.headF,
      kitAny_cons (kit_ty (ko d1)) (fun e1 => by rw [e1]; exact kitAny_cons (kit_ty (ko' d1)) (fun e2 => by rw [e2]; exact kitAny_nil) (fun e2 => by rw [e2]; rfl)) (fun e1 => by rw [e1]; rfl),
      q _ F1' _ _ ρ1 (f1.trans f1') p (S2.tail.consF (.bl _))⟩⟩

/-! ### int, str -/
theorem cl_int {i : Int} (h : k (.val (.int i))) : CalD X (.type "int") [.int i] k :=
  ⟨_, call_int1, _, fun F H vs Q hs t q => by obtain ⟨v, rfl, r⟩ := all1 t; cases r; exact .inl ⟨i, rfl, q _ (.int _)⟩, h⟩
theorem cl_intb {b : Bool} (h : k (.val (.int (if b then 1 else 0)))) : CalD X (.type "int") [.bool b] k :=
  ⟨_, call_int1, _, fun F H vs Q hs t q => by obtain ⟨v, rfl, r⟩ := all1 t; cases r; exact .inr ⟨b, rfl, q _ (.int _)⟩, h⟩
theorem cl_str {i : Int} (hz : i.natAbs.log2 < 1920) (h : k (.val (.str (toString i)))) : CalD X (.type "str") [.int i] k :=
  ⟨_, call_str_int, _, fun F H vs Q hs t q => by obtain ⟨v, rfl, r⟩ := all1 t; cases r; exact ⟨i, rfl, hz, q _ (.str _)⟩, h⟩

/-! ### subscripts -/
def SubD (X : Cx) (d e : PyData) (k : PyData → Prop) : Prop := ∃ r, IxR X r ∧ ∃ o, Op2 X.K r d e (.val o) ∧ k o
theorem ix_any : IxR X (fun x y H Q => ∃ r, IxR X r ∧ r x y H Q) := fun value slice pins s σ H x y v u Q I rx ry ⟨r, hr, q⟩ hs => hr value slice pins s σ H x y v u Q I rx ry q hs
theorem de_sub (h : DE X a ρ fun s1 ρ1 => isF s1 fun d1 => DE X b ρ1 fun s2 ρ2 => isF s2 fun d2 => SubD X d1 d2 fun d => P (.frz d) ρ2) (hs : PlainIx b := by exact fun _ _ => rfl) : DE X (.Subscript a b pos) ρ P :=
  pe_imp (pe_ix ix_any h pe_u hs) fun σ H Q ⟨R, F, S, q⟩ => ⟨R, F, S, fun v F1 H1 s1 ρ1 f1 ⟨d1, z1, hb⟩ S1 => by
    obtain ⟨F1', f1', S1'⟩ := S1.frz z1
    refine ⟨ρ1, _, hb, R, F1', S1'.tail, fun v2 F2 H2 s2 ρ2 f2 ⟨d2, z2, r, hr, o, ho, po⟩ S2 => ⟨r, hr, ?_⟩⟩
    obtain ⟨F2', f2', S2'⟩ := S2.frz z2
    exact ho F2' H2 v v2 Q S2'.fh (Dp.up (f2.trans f2') S1'.headF) S2'.headF (Out.go (o := .val o) S2'.tail (((f1.trans f1').trans f2).trans f2') po q)⟩
theorem atI_all {K : PySem.W.Frag} {F : Hp} {vs : List V} {ds : List PyData} {i : Int} {d : PyData} (t : DpAll K F vs ds) (h : atI ds i = some d) : ∃ v, atI vs i = some v ∧ Dp K F v d := by
  unfold atI at h ⊢
  rw [t.length]
  cases e : ixN ds.length i with
  | none => rw [e] at h; cases h
  | some j =>
    rw [e] at h
    obtain ⟨v, h1, h2⟩ := t.get (show ds[j]? = some d from h)
    exact ⟨v, h1, h2⟩
theorem sd_list {ds : List PyData} {i : Int} {d : PyData} {k : PyData → Prop} (h : atI ds i = some d) (q : k d) : SubD X (.list ds) (.int i) k :=
  ⟨_, ix_list, _, fun F H x y Q hs hx hy q => by
    cases hy
    cases hx with
    | lst sx tx =>
      obtain ⟨v, h1, h2⟩ := atI_all tx h
      exact ⟨_, _, _, v, rfl, rfl, sql_up hs sx, h1, q v h2⟩, q⟩
theorem sd_tup {ds : List PyData} {i : Int} {d : PyData} {k : PyData → Prop} (h : atI ds i = some d) (q : k d) : SubD X (.tuple ds) (.int i) k :=
  ⟨_, ix_tup, _, fun F H x y Q hs hx hy q => by
    cases hy
    cases hx with
    | tup sx tx =>
      obtain ⟨v, h1, h2⟩ := atI_all tx h
      exact ⟨_, _, _, v, rfl, rfl, sqt_up hs sx, h1, q v h2⟩, q⟩
theorem sd_str {z : Str} {i : Int} {c : Nat} {k : PyData → Prop} (hz : z.length ≤ sizeLine) (h : atI z.cps.toList i = some c) (q : k (.str ⟨#[c]⟩)) : SubD X (.str z) (.int i) k :=
  ⟨_, ix_str, _, fun F H x y Q hs hx hy q => by
    cases hy; cases hx
    exact ⟨z, i, c, rfl, rfl, hz, h, q _ (.str _)⟩, q⟩
/-- x[b], x a name that holds an own list -/
theorem de_subO (i : Nat) {x : Str} {px : Pos} (h : DE X b ρ fun s ρ1 => ∃ (j : Int) (p : Addr) (ds : List PyData) (d : PyData), s = .frz (.int j) ∧ ρ1[i]? = some (some (.own p (oLst p ds))) ∧ atI ds j = some d ∧ P (.frz d) ρ1) (hi : ∃ p A, ρ[i]? = some (some (.own p A)))
    (hs : PlainIx b := by exact fun _ _ => rfl) (hN : X.N[i]? = some x := by rfl) (hv : Vis X.env.scope x := by first | exact Or.inl rfl | exact Or.inr (Or.inl rfl) | exact Or.inr (Or.inr rfl))
    (hd : (x == ("__debug__" : Str)) = false := by decide) (hcd : (x == ("__classdict__" : Str)) = false := by decide) : DE X (.Subscript (.Name x px) b pos) ρ P :=
  pe_imp (pe_ix ix_list (pe_var hN hv hd hcd) h hs) fun σ H Q ⟨R, F, S, q⟩ => by
    obtain ⟨p0, A0, e0⟩ := hi
    obtain ⟨v0, e1, rfl, r0⟩ := S.sl i _ e0
    refine ⟨_, e1, R, F, S, fun v F1 H1 s ρ1 f1 ⟨j, p, ds, d, hs, ei, ha, po⟩ S1 => ?_⟩
    subst hs
    cases S1.headF
    obtain ⟨v2, e2, rfl, vs, hp, t⟩ := S1.tail.sl i _ ei
    rw [e1] at e2
    cases e2
    obtain ⟨w, h1, h2⟩ := atI_all t ha
    exact ⟨_, _, _, w, rfl, rfl, .of hp, h1, q w F1 H1 _ ρ1 f1 po (S1.tail.consF h2)⟩

/-! ### slices -/
def tDO (K : PySem.W.Frag) (ρ : Env) (P : Option Int → Env → Prop) : TO := fun σ H Q => ∃ R F, StD K R F H σ ρ ∧ ∀ o F' H' ρ', Sub F F' → P o ρ' → StD K R F' H' σ ρ' → Q o H'
def DO (X : Cx) (e : Option Expr) (ρ : Env) (P : Option Int → Env → Prop) : Prop := PO X e (tDO X.K ρ P)
def tUO (X : Cx) (e : Option Expr) : TO := fun σ H Q => ∃ ρ P, DO X e ρ P ∧ tDO X.K ρ P σ H Q
theorem po_u {e : Option Expr} : PO X e (tUO X e) := ⟨fun pins s σ H Q I ⟨_, _, h, q⟩ => h.run pins s σ H Q I q⟩
theorem do_none {P : Option Int → Env → Prop} (h : P none ρ) : DO X none ρ P := ⟨fun pins s σ H Q I ⟨R, F, S, q⟩ => po_none.run pins s σ H Q I (q none F H ρ (Sub.refl F) h S)⟩
theorem do_some {P : Option Int → Env → Prop} (h : DE X e ρ fun s ρ1 => ∃ i, s = .frz (.int i) ∧ P (some i) ρ1) : DO X (some e) ρ P :=
  ⟨fun pins s σ H Q I ⟨R, F, S, q⟩ => (po_some h).run pins s σ H Q I ⟨R, F, S, fun v F1 H1 s1 ρ1 f1 ⟨i, hs, p⟩ S1 => by
    subst hs
    cases S1.headF
    exact ⟨i, rfl, q (some i) F1 H1 ρ1 f1 p S1.tail⟩⟩⟩
def cutG {α : Type} (xs : List α) (lo hi : Option Int) : List α := (xs.drop (HT.sIx xs.length 0 lo)).take (HT.sIx xs.length xs.length hi - HT.sIx xs.length 0 lo)
def SliD (X : Cx) (d : PyData) (lo hi : Option Int) (k : Outc → Prop) : Prop := ∃ r, L2.SlR X r ∧ ∃ o, (∀ (F H : Hp) (x : V) (Q : VK), Sub F H → Dp X.K F x d → Out X.K F H Q o → r x lo hi H Q) ∧ k o
theorem sl_any : L2.SlR X (fun x lo hi H Q => ∃ r, L2.SlR X r ∧ r x lo hi H Q) := fun pins s σ H x v vl vu lo hi sl Q I rx hs pl pu ⟨r, hr, q⟩ => hr pins s σ H x v vl vu lo hi sl Q I rx hs pl pu q
theorem de_slice {lo hi : Option Expr} {p2 : Pos} (h : DE X e ρ fun s ρ1 => isF s fun d => DO X lo ρ1 fun i ρ2 => DO X hi ρ2 fun j ρ3 => SliD X d i j fun o => o.post fun s => P s ρ3) : DE X (.Subscript e (.Slice lo hi none p2) pos) ρ P :=
  pe_imp (pe_slice sl_any h po_u po_u) fun σ H Q ⟨R, F, S, q⟩ => ⟨R, F, S, fun v F1 H1 s1 ρ1 f1 ⟨d1, z1, hb⟩ S1 => by
    obtain ⟨F1', f1', S1'⟩ := S1.frz z1
    refine ⟨ρ1, _, hb, R, F1', S1'.tail, fun i F2 H2 ρ2 f2 h2 S2 => ⟨ρ2, _, h2, R, F2, S2, fun j F3 H3 ρ3 f3 ⟨r, hr, o, ho, po⟩ S3 => ⟨r, hr, ?_⟩⟩⟩
    exact ho F3 H3 v Q S3.fh (Dp.up (f2.trans f3) S1'.headF) (Out.go S3 (((f1.trans f1').trans f2).trans f3) po q)⟩
theorem cutV_all {K : PySem.W.Frag} {F : Hp} {vs : List V} {ds : List PyData} (t : DpAll K F vs ds) (lo hi : Option Int) : DpAll K F (cutV vs lo hi) (cutG ds lo hi) := by
  unfold cutV cutG
  rw [t.length]
  exact (t.drop _).take _
theorem ld_list {ds : List PyData} {lo hi : Option Int} (h : k (.newL (cutG ds lo hi))) : SliD X (.list ds) lo hi k :=
  ⟨_, sl_list, _, fun F H x Q hs hx q => by
    cases hx with
    | lst sx tx => exact ⟨_, _, rfl, sql_up hs sx, fun p hp => q p _ hp (cutV_all tx lo hi)⟩, h⟩
theorem ld_tup {ds : List PyData} {lo hi : Option Int} (hw : ¬ (HT.sIx ds.length 0 lo = 0 ∧ HT.sIx ds.length ds.length hi = ds.length)) (h : k (.newT (cutG ds lo hi))) : SliD X (.tuple ds) lo hi k :=
  ⟨_, sl_tup, _, fun F H x Q hs hx q => by
    cases hx with
    | tup sx tx => exact ⟨_, _, rfl, sqt_up hs sx, by rw [tx.length]; exact hw, fun p hp => q p _ hp (cutV_all tx lo hi)⟩, h⟩
theorem ld_str {z : Str} {lo hi : Option Int} (hz : z.length ≤ sizeLine) (h : k (.val (.str (cutS z lo hi)))) : SliD X (.str z) lo hi k :=
  ⟨_, sl_str, _, fun F H x Q hs hx q => by
    cases hx
    exact ⟨z, rfl, hz, q _ (.str _)⟩, h⟩

/-! ### methods of texts -/
def MetD (X : Cx) (id : String) (d : PyData) (es : List PyData) (k : Outc → Prop) : Prop := ∃ r, MtR X id r ∧ ∃ o, (∀ (F H : Hp) (x : V) (vs : List V) (Q : VK), Sub F H → Dp X.K F x d → DpAll X.K F vs es → Out X.K F H Q o → r x vs H Q) ∧ k o
theorem mt_any {id : String} : MtR X id (fun x vs H Q => ∃ r, MtR X id r ∧ r x vs H Q) := fun pins s σ H x xs v us Q I rx rv ⟨r, hr, q⟩ => hr pins s σ H x xs v us Q I rx rv q
theorem de_m1 {id : String} {name : Str} {apos : Pos} (slot : Slot "str" name id) (ty : typeOf (.builtin id) = pure (.type "method_descriptor"))
    (h : DE X a ρ fun s1 ρ1 => ∃ x, s1 = .frz (.str x) ∧ DE X e ρ1 fun s2 ρ2 => isF s2 fun d2 => MetD X id (.str x) [d2] fun o => o.post fun s => P s ρ2)
    (hs : starEach [e] X.env = [(false, eval e X.env)] := by rfl) (hbase : attributeBase a name X.env (eval a X.env) = eval a X.env := by rfl) (hline : (apos.endLine == pos.line) = true := by rfl) :
    DE X (.Call (.Attribute a name apos) [e] [] pos) ρ P :=
  pe_imp (pe_m1 slot ty mt_any h pe_u hs hbase hline) fun σ H Q ⟨R, F, S, q⟩ => ⟨R, F, S, fun v F1 H1 s1 ρ1 f1 ⟨x, z1, hb⟩ S1 => by
    subst z1
    have r1 := S1.headF
    cases r1
    refine ⟨⟨x, rfl⟩, ρ1, _, hb, R, F1, S1.tail, fun v2 F2 H2 s2 ρ2 f2 ⟨d2, z2, r, hr, o, ho, po⟩ S2 => ⟨r, hr, ?_⟩⟩
    obtain ⟨F2', f2', S2'⟩ := S2.frz z2
    exact ho F2' H2 _ [v2] Q S2'.fh (.str x) (.cons S2'.headF .nil) (Out.go S2'.tail ((f1.trans f2).trans f2') po q)⟩
theorem ml_join {x : Str} {ys : List Str} (hz : (ys.map (·.length)).sum + ys.length * x.length ≤ 16777216) (h : k (.val (.str (Txt.join x ys)))) : MetD X "str.join" (.str x) [.list (ys.map .str)] k :=
  ⟨_, mt_join, _, fun F H u vs Q hs hx t q => by
    cases hx
    obtain ⟨v, rfl, r⟩ := all1 t
    cases r with
    | lst sx tx => exact ⟨x, _, ys, rfl, rfl, .inl (by rw [← tx.strs]; exact sql_up hs sx), hz, q _ (.str _)⟩, h⟩
theorem ml_joinT {x : Str} {ys : List Str} (hz : (ys.map (·.length)).sum + ys.length * x.length ≤ 16777216) (h : k (.val (.str (Txt.join x ys)))) : MetD X "str.join" (.str x) [.tuple (ys.map .str)] k :=
  ⟨_, mt_join, _, fun F H u vs Q hs hx t q => by
    cases hx
    obtain ⟨v, rfl, r⟩ := all1 t
    cases r with
    | tup sx tx => exact ⟨x, _, ys, rfl, rfl, .inr (by rw [← tx.strs]; exact sqt_up hs sx), hz, q _ (.str _)⟩, h⟩
theorem ml_split {x y : Str} (h0 : (y.length == 0) = false) (hz : x.length + 2 ≤ sizeLine) (h : k (.newL ((Txt.split x y).map .str))) : MetD X "str.split" (.str x) [.str y] k :=
  ⟨_, mt_split, _, fun F H u vs Q hs hx t q => by
    cases hx
    obtain ⟨v, rfl, r⟩ := all1 t
    cases r
    exact ⟨x, y, rfl, rfl, h0, hz, fun p hp => q p _ hp (DpAll.of_strs _)⟩, h⟩
theorem ml_index {x y : Str} {i : Nat} {rest : List Nat} (h0 : Builtin.Str.occurrences x y 0 x.length 1 = i :: rest) (h : k (.val (.int (i : Int)))) : MetD X "str.index" (.str x) [.str y] k :=
  ⟨_, mt_sindex, _, fun F H u vs Q hs hx t q => by
    cases hx
    obtain ⟨v, rfl, r⟩ := all1 t
    cases r
    exact ⟨x, y, i, rest, rfl, rfl, h0, q _ (.int _)⟩, h⟩

/-! ### in, not in a list or a tuple of flat things -/
def flatD : PyData → Bool
  | .none => true
  | .bool _ => true
  | .int _ => true
  | .str _ => true
  | _ => false
def eqF : PyData → PyData → Bool
  | .none, .none => true
  | .bool a, .bool b => a == b
  | .bool a, .int b => (if a then 1 else 0) == b
  | .int a, .bool b => a == (if b then 1 else 0)
  | .int a, .int b => a == b
  | .str a, .str b => a == b
  | _, _ => false
theorem flat_of {K : PySem.W.Frag} {F : Hp} {v : V} {d : PyData} (h : Dp K F v d) (f : flatD d = true) : flatV v = true := by cases h <;> first | rfl | cases f
theorem flats_of {K : PySem.W.Frag} {F : Hp} : ∀ {vs : List V} {ds : List PyData}, DpAll K F vs ds → ds.all flatD = true → vs.all flatV = true
  | _, _, .nil, _ => rfl
  | _, _, .cons h t, f => by
    rw [List.all_cons, Bool.and_eq_true] at f ⊢
    exact ⟨flat_of h f.1, flats_of t f.2⟩
theorem eqF_of {K : PySem.W.Frag} {F : Hp} {v w : V} {d e : PyData} (h : Dp K F v d) (h' : Dp K F w e) (f : flatD d = true) (f' : flatD e = true) : eqV v w = eqF d e := by
  cases h <;> cases h' <;> first | rfl | exact absurd f Bool.false_ne_true | exact absurd f' Bool.false_ne_true
theorem inV_of {K : PySem.W.Frag} {F : Hp} {v : V} {d : PyData} (h : Dp K F v d) (f : flatD d = true) : ∀ {vs : List V} {ds : List PyData}, DpAll K F vs ds → ds.all flatD = true → inV v vs = ds.any fun e => eqF e d
  | _, _, .nil, _ => rfl
  | _, _, .cons h1 t, f1 => by
    rw [List.all_cons, Bool.and_eq_true] at f1
    have ih := inV_of h f t f1.2
    unfold inV at ih ⊢
    rw [List.any_cons, List.any_cons, ih, eqF_of h1 h f1.1 f]
variable {kb : Bool → Prop}
theorem cd_inL {d : PyData} {ds : List PyData} (hf : flatD d = true) (hfs : ds.all flatD = true) (h : kb (ds.any fun e => eqF e d)) : CmpD X .In d (.list ds) kb :=
  ⟨_, op_in_seq, _, fun F H x y Q hs hx hy q => by
    cases hy with
    | lst sx tx => exact ⟨_, _, rfl, .inl (sql_up hs sx), flat_of hx hf, flats_of tx hfs, by rw [inV_of hx hf tx hfs]; exact q _ (.bl _)⟩, h⟩
theorem cd_inT {d : PyData} {ds : List PyData} (hf : flatD d = true) (hfs : ds.all flatD = true) (h : kb (ds.any fun e => eqF e d)) : CmpD X .In d (.tuple ds) kb :=
  ⟨_, op_in_seq, _, fun F H x y Q hs hx hy q => by
    cases hy with
    | tup sx tx => exact ⟨_, _, rfl, .inr (sqt_up hs sx), flat_of hx hf, flats_of tx hfs, by rw [inV_of hx hf tx hfs]; exact q _ (.bl _)⟩, h⟩
theorem cd_ninL {d : PyData} {ds : List PyData} (hf : flatD d = true) (hfs : ds.all flatD = true) (h : kb (!ds.any fun e => eqF e d)) : CmpD X .NotIn d (.list ds) kb :=
  ⟨_, op_notIn_seq, _, fun F H x y Q hs hx hy q => by
    cases hy with
    | lst sx tx => exact ⟨_, _, rfl, .inl (sql_up hs sx), flat_of hx hf, flats_of tx hfs, by rw [inV_of hx hf tx hfs]; exact q _ (.bl _)⟩, h⟩
theorem cd_ninT {d : PyData} {ds : List PyData} (hf : flatD d = true) (hfs : ds.all flatD = true) (h : kb (!ds.any fun e => eqF e d)) : CmpD X .NotIn d (.tuple ds) kb :=
  ⟨_, op_notIn_seq, _, fun F H x y Q hs hx hy q => by
    cases hy with
    | tup sx tx => exact ⟨_, _, rfl, .inr (sqt_up hs sx), flat_of hx hf, flats_of tx hfs, by rw [inV_of hx hf tx hfs]; exact q _ (.bl _)⟩, h⟩
end
end DL

set_option maxHeartbeats 2000000
/-! DL4: defs called, what is walked, targets, statements, loops, comprehensions. -/
namespace DL
open PySem PySem.Spec PyProof.Rows L2

/-! ### an own list is written -/
section
variable {K : PySem.W.Frag} {R F H F' H' : Hp} {σ σ' : L2.St} {ρ ρ' : Env} {v : V} {s : Sl} {d : PyData}
/-- own things are written: A's places only -/
theorem StD.write {i : Nat} {p : Addr} {A B : Own} (h : StD K R F H σ ρ) (hi : ρ[i]? = some (some (.own p A))) (hfp : B.fp = A.fp) (hh : ∀ a, a ∉ A.fp → H' a = H a) (r : B.rel K F H') : StD K R F H' σ (ρ.set i (some (.own p B))) := by
  have il : i < ρ.length := (List.getElem?_eq_some_iff.mp hi).1
  have at_ : ∀ (j : Nat) u, (ρ.set i (some (.own p B)))[j]? = some (some u) → (j = i ∧ u = .own p B) ∨ (j ≠ i ∧ ρ[j]? = some (some u)) := fun j u e => by
    by_cases q : j = i
    · subst q
      rw [List.getElem?_set_self il] at e
      cases e
      exact .inl ⟨rfl, rfl⟩
    · rw [List.getElem?_set_ne (Ne.symm q)] at e
      exact .inr ⟨q, e⟩
  have fr : ∀ (a : Addr), (∃ o, F a = some o) ∨ (∃ o, R a = some o) → a ∉ A.fp := fun a hx ha => by
    obtain ⟨n1, n2⟩ := h.ff i _ a hi ha
    rcases hx with ⟨o, e⟩ | ⟨o, e⟩
    · rw [n1] at e; cases e
    · rw [n2] at e; cases e
  refine ⟨fun a o e => by rw [hh a (fr a (.inl ⟨o, e⟩))]; exact h.fh a o e, fun a o e => by rw [hh a (fr a (.inr ⟨o, e⟩))]; exact h.rh a o e, h.rf, fun j u e => ?_, fun j u a e ha => ?_, fun j l u w a ne e1 e2 ha hb => ?_, by rw [List.length_set]; exact h.len⟩
  · rcases at_ j u e with ⟨rfl, rfl⟩ | ⟨ne, e⟩
    · obtain ⟨v, e1, q⟩ := h.sl _ _ hi
      exact ⟨v, e1, q.1, r⟩
    · obtain ⟨v, e1, q⟩ := h.sl j u e
      refine ⟨v, e1, ?_⟩
      cases u with
      | frz d => exact q
      | own p' A' => exact ⟨q.1, A'.loc K F H H' (fun a ha => hh a fun hb => h.dj j i _ _ a ne e hi ha hb) q.2⟩
  · rcases at_ j u e with ⟨rfl, rfl⟩ | ⟨ne, e⟩
    · exact h.ff _ _ a hi (show a ∈ A.fp by rw [← hfp]; exact ha)
    · exact h.ff j u a e ha
  · rcases at_ j u e1 with ⟨j1, u1⟩ | ⟨n1, e3⟩
    · rcases at_ l w e2 with ⟨l1, w1⟩ | ⟨n2, e4⟩
      · exact ne (j1.trans l1.symm)
      · subst u1
        exact h.dj i l _ w a (fun z => ne (j1.trans z)) hi e4 (show a ∈ A.fp by rw [← hfp]; exact ha) hb
    · rcases at_ l w e2 with ⟨l1, w1⟩ | ⟨n2, e4⟩
      · subst w1
        exact h.dj j i u _ a n1 e3 hi ha (show a ∈ A.fp by rw [← hfp]; exact hb)
      · exact h.dj j l u w a ne e3 e4 ha hb
theorem StD.writeL {i : Nat} {p : Addr} {ds es : List PyData} {vs : List V} (h : StD K R F H σ ρ) (hi : ρ[i]? = some (some (.own p (oLst p ds)))) (t : DpAll K F vs es) :
    StD K R F (upd H p (.lst vs)) σ (ρ.set i (some (.own p (oLst p es)))) :=
  h.write (B := oLst p es) hi rfl (fun a ha => upd_ne fun z => ha (by rw [z]; exact List.mem_singleton.mpr rfl)) ⟨vs, upd_same, t⟩
/-- a slot's own thing is told by less -/
theorem StD.weak {i : Nat} {p : Addr} {A B : Own} (h : StD K R F H σ ρ) (hi : ρ[i]? = some (some (.own p A))) (hfp : B.fp = A.fp) (r : ∀ K F H, A.rel K F H → B.rel K F H) : StD K R F H σ (ρ.set i (some (.own p B))) := by
  obtain ⟨v, e, q⟩ := h.sl i _ hi
  exact h.write (B := B) hi hfp (fun _ _ => rfl) (r _ _ _ q.2)
theorem StD.set {i : Nat} (h : StD K R F H (some v :: σ) (some s :: ρ)) : StD K R F H (σ.set i (some v)) (ρ.set i (some s)) := by
  have hl : σ.length = ρ.length := by have := h.len; simpa using this
  refine h.sub (fun j => if j = i then 0 else j + 1) (by rw [List.length_set, List.length_set]; exact hl) (fun j u e => ?_) (fun j k p A ne ej ek => ?_)
  · by_cases q : j = i
    · subst q
      have jl : j < ρ.length := by
        have := (List.getElem?_eq_some_iff.mp e).1
        rw [List.length_set] at this
        exact this
      rw [List.getElem?_set_self jl] at e
      rw [if_pos rfl, List.getElem?_set_self (by omega)]
      exact ⟨e, rfl⟩
    · rw [List.getElem?_set_ne (Ne.symm q)] at e
      rw [if_neg q, List.getElem?_set_ne (Ne.symm q)]
      exact ⟨by simpa using e, by simp⟩
  · intro z
    by_cases j0 : j = i
    · rw [if_pos j0, if_neg (by omega)] at z
      cases z
    · rw [if_neg j0] at z
      by_cases k0 : k = i
      · rw [if_pos k0] at z; cases z
      · rw [if_neg k0] at z; omega
end

section
variable {X : Cx} {e a b c : Expr} {es : List Expr} {ρ : Env} {P P' : Sl → Env → Prop} {pos : Pos} {k : Outc → Prop}
/-- a name whose own list is let stand still where it is -/
theorem de_fz (i : Nat) {x : Str} {p : Addr} {ds : List PyData} (h : P (.frz (.list ds)) (ρ.set i (some (.frz (.list ds))))) (hi : ρ[i]? = some (some (.own p (oLst p ds))) := by rfl) (hN : X.N[i]? = some x := by rfl) (hv : Vis X.env.scope x := by first | exact Or.inl rfl | exact Or.inr (Or.inl rfl) | exact Or.inr (Or.inr rfl))
    (hd : (x == ("__debug__" : Str)) = false := by decide) (hcd : (x == ("__classdict__" : Str)) = false := by decide) : DE X (.Name x pos) ρ P := by
  have h0 : DE X (.Name x pos) ρ fun s ρ1 => s = .own p (oLst p ds) ∧ ρ1 = ρ.set i none := de_give i ⟨rfl, rfl⟩ hi hN hv hd hcd
  refine pe_imp h0 fun σ H Q ⟨R, F, S, q⟩ => ⟨R, F, S, fun v F1 H1 s ρ1 f1 ⟨hs, hr⟩ S1 => ?_⟩
  subst hs hr
  obtain ⟨F2, f2, S2⟩ := S1.freeze
  have S3 := (S2.tail.consF S2.headF).set (i := i)
  rw [List.set_set] at S3
  refine q v F2 H1 _ _ (f1.trans f2) h ?_
  have S4 : StD X.K R F2 H1 (σ.set i (some v)) (ρ.set i (some (.frz (.list ds)))) := S3
  obtain ⟨w, ew, rw0⟩ := S.sl i _ hi
  have hv2 := S1.head
  have il : i < σ.length := (List.getElem?_eq_some_iff.mp ew).1
  have e1 : σ.set i (some v) = σ := by
    have : v = w := by rw [hv2.1, rw0.1]
    rw [this]
    refine List.ext_getElem? fun j => ?_
    by_cases q : j = i
    · subst q; rw [List.getElem?_set_self il]; exact ew.symm
    · rw [List.getElem?_set_ne (Ne.symm q)]
  rw [e1] at S4
  exact S4.consF S2.headF
end

/-! ### defs: their promises by data -/
/-- a def that changes nothing: data in, a thing out -/
def spF (K : PySem.W.Frag) {ι : Type} (pre : ι → Prop) (args : ι → List PyData) (post : ι → Sl → Prop) : Sp := fun vs H Q _ => ∃ (x : ι) (R F : Hp), pre x ∧ StD K R F H [] [] ∧ DpAll K F vs (args x) ∧
  ∀ v F' H' s, Sub F F' → post x s → StD K R F' H' [some v] [some s] → Q v H'
/-- a def that takes an own thing first and gives it back otherwise -/
def spK (K : PySem.W.Frag) {ι : Type} (pre : ι → Prop) (A : ι → Addr → Own) (args : ι → List PyData) (post : ι → Addr → Sl → Own → Prop) : Sp := fun vs H Q _ => ∃ (x : ι) (R F : Hp) (p : Addr) (ws : List V), pre x ∧ vs = .ref p :: ws ∧
  StD K R F H [some (.ref p)] [some (.own p (A x p))] ∧ DpAll K F ws (args x) ∧
  ∀ v F' H' s B, Sub F F' → post x p s B → StD K R F' H' [some v, some (.ref p)] [some s, some (.own p B)] → Q v H'

section
variable {X : Cx} {e a b c : Expr} {es : List Expr} {ρ : Env} {P P' : Sl → Env → Prop} {pos p0 : Pos} {kk : Nat} {f : Addr} {fd : FuncData} {ps : List Str} {x : Str} {ι : Type} {pre : ι → Prop} {args : ι → List PyData} {post : ι → Sl → Prop}
theorem sub_one {K : PySem.W.Frag} {R F H F' H' : Hp} {σ : L2.St} {ρ : Env} {v : V} {s : Sl} {kp : Nat → Bool} (hk : ∀ i p A, ρ[i]? = some (some (.own p A)) → kp i = false) (S : StD K R F H σ ρ) (S' : StD K (mv R H ρ kp) F' H' [some v] [some s]) (f : Sub F F') :
    StD K R F' H' (some v :: σ) (some s :: ρ) := by
  have U := S.unframe S' f
  refine U.sub (fun i => i) (by have := S.len; simp [this]) (fun i u e => ?_) (fun i j p A ne _ _ => ne)
  cases i with
  | zero => exact ⟨e, rfl⟩
  | succ i =>
    have e' : ρ[i]? = some (some u) := by simpa using e
    refine ⟨?_, by simp⟩
    show ([some s] ++ rst ρ kp)[i + 1]? = some (some u)
    rw [List.getElem?_append_right (by simp)]
    cases u with
    | frz d => exact rst_frz (by simpa using e')
    | own p A => exact rst_own (by simpa using e') (hk i p A e')
/-- a call of a def that changes nothing -/
theorem de_call (G : FnOk X.prog X.w X.K X.mg X.base CX0 kk f fd ps (spF X.K pre args post)) (hr : Room kk X.A) (hm : X.mg x = some (.ref f)) (hk : PySem.W.keepIn X.K (.ref f) = true) (hb : Binds X.K fd ps [])
    (h : DA X (e :: es) ρ fun ds ρ1 => ∃ y : ι, pre y ∧ args y = ds ∧ ∀ s, post y s → P s ρ1) (hg : Gl X x := by rfl) (hdb : (x == ("__debug__" : Str)) = false := by decide)
    (he : starEach (e :: es) X.env = (false, eval e X.env) :: starEach es X.env := by rfl) (hpl : (backTo pos (starEach es X.env)).any (·.1) = false := by rfl) : DE X (.Call (.Name x p0) (e :: es) [] pos) ρ P :=
  pe_imp (pe_call G hr hg hm hk hb .nil pass0 h hdb he hpl) fun σ H Q ⟨R, F, S, q⟩ => ⟨R, F, S, fun vs F1 H1 ds ρ1 f1 ⟨y, py, ey, hp⟩ t S1 => by
    show spF X.K pre args post (vs ++ []) H1 Q E0
    rw [List.append_nil]
    have Fr := S1.frame fun _ => false
    refine ⟨y, _, F1, py, Fr.sub (fun i => i) rfl (fun i u e => by cases i <;> cases e) (fun i j p A ne e => by cases i <;> cases e), by rw [ey]; exact t, fun v F2 H2 s f2 po S2 => ?_⟩
    exact q v F2 H2 s ρ1 (f1.trans f2) (hp s po) (sub_one (fun _ _ _ _ => rfl) S1 S2 f2)⟩
theorem sub_own {K : PySem.W.Frag} {R F H F' H' : Hp} {σ : L2.St} {ρ : Env} {v : V} {s : Sl} {i : Nat} {p : Addr} {A B : Own} (hi : ρ[i]? = some (some (.own p A))) (S : StD K R F H σ ρ) (S' : StD K (mv R H ρ fun j => j == i) F' H' [some v, some (.ref p)] [some s, some (.own p B)]) (f : Sub F F') :
    StD K R F' H' (some v :: σ) (some s :: ρ.set i (some (.own p B))) := by
  have U := S.unframe S' f
  obtain ⟨w, ew, rw0⟩ := S.sl i _ hi
  have hw : w = .ref p := rw0.1
  subst hw
  refine U.sub (fun j => if j = 0 then 0 else if j = i + 1 then 1 else j + 1) (by have := S.len; simp [this]) (fun j u e => ?_) (fun j l p A ne ej ek z => ?_)
  · cases j with
    | zero => exact ⟨e, rfl⟩
    | succ j =>
      have e' : (ρ.set i (some (.own p B)))[j]? = some (some u) := by simpa using e
      rw [if_neg (by omega)]
      by_cases q : j = i
      · subst q
        rw [if_pos rfl]
        rw [List.getElem?_set_self (List.getElem?_eq_some_iff.mp hi).1] at e'
        cases e'
        exact ⟨rfl, by simpa using ew⟩
      · rw [if_neg (by omega)]
        rw [List.getElem?_set_ne (Ne.symm q)] at e'
        refine ⟨?_, by simp⟩
        show ([some s, some (.own p B)] ++ rst ρ fun j => j == i)[j + 1 + 1]? = some (some u)
        rw [List.getElem?_append_right (by simp)]
        cases u with
        | frz d => exact rst_frz (by simpa using e')
        | own p A => exact rst_own (by simpa using e') (by simpa using q)
  · have z' : (if j = 0 then 0 else if j = i + 1 then 1 else j + 1) = (if l = 0 then 0 else if l = i + 1 then 1 else l + 1) := z
    split at z' <;> split at z' <;> (try split at z') <;> (try split at z') <;> omega
/-- a call of a def whose first argument is an own thing -/
theorem de_callK {A : ι → Addr → Own} {post : ι → Addr → Sl → Own → Prop} (i : Nat) {y : Str} {py : Pos} (G : FnOk X.prog X.w X.K X.mg X.base CX0 kk f fd ps (spK X.K pre A args post)) (hr : Room kk X.A) (hm : X.mg x = some (.ref f)) (hk : PySem.W.keepIn X.K (.ref f) = true) (hb : Binds X.K fd ps [])
    (h : DA X es ρ fun ds ρ1 => ∃ (z : ι) (p : Addr), pre z ∧ args z = ds ∧ ρ1[i]? = some (some (.own p (A z p))) ∧ ∀ s B, post z p s B → P s (ρ1.set i (some (.own p B)))) (hi : ∃ p A, ρ[i]? = some (some (.own p A)))
    (hg : Gl X x := by rfl) (hN : X.N[i]? = some y := by rfl) (hv : Vis X.env.scope y := by first | exact Or.inl rfl | exact Or.inr (Or.inl rfl) | exact Or.inr (Or.inr rfl)) (hd : (y == ("__debug__" : Str)) = false := by decide) (hcd : (y == ("__classdict__" : Str)) = false := by decide) (hdb : (x == ("__debug__" : Str)) = false := by decide)
    (he : starEach (.Name y py :: es) X.env = (false, eval (.Name y py) X.env) :: starEach es X.env := by rfl) (hpl : (backTo pos (starEach es X.env)).any (·.1) = false := by rfl) : DE X (.Call (.Name x p0) (.Name y py :: es) [] pos) ρ P :=
  pe_imp (pe_call G hr hg hm hk hb .nil pass0 (pa_cons (pe_var hN hv hd hcd) h he) hdb he hpl) fun σ H Q ⟨R, F, S, q⟩ => by
    obtain ⟨p1, A1, e1⟩ := hi
    obtain ⟨w, ew, rfl, _⟩ := S.sl i _ e1
    refine ⟨_, ew, R, F, S, fun vs F1 H1 ds ρ1 f1 ⟨z, p, pz, ez, ei, hp⟩ t S1 => ?_⟩
    show spK X.K pre A args post ((V.ref p1 :: vs) ++ []) H1 Q E0
    rw [List.append_nil]
    obtain ⟨w2, ew2, rfl, r2⟩ := S1.sl i _ ei
    rw [ew] at ew2
    cases ew2
    have Fr := S1.frame fun j => j == i
    refine ⟨z, _, F1, p1, vs, pz, rfl, Fr.sub (fun _ => i) rfl (fun j u e => ?_) (fun j l p A ne ej el => ?_), by rw [ez]; exact t, fun v F2 H2 s B f2 po S2 => ?_⟩
    · cases j with
      | zero =>
        have e' : some (some (Sl.own p1 (A z p1))) = some (some u) := e
        cases e'
        exact ⟨lft_own ei (by simp), by simpa using ew.symm⟩
      | succ j => cases e
    · obtain ⟨u, el⟩ := el
      cases j with
      | zero =>
        cases l with
        | zero => exact absurd rfl ne
        | succ l => cases el
      | succ j => cases ej
    · exact q v F2 H2 s _ (f1.trans f2) (hp s B po) (sub_own ei S1 S2 f2)
end

/-! ### what is walked -/
structure Seqs (K : PySem.W.Frag) (F : Hp) (J : It) (ds : List PyData) : Prop where
  stop : ∀ H, Sub F H → J.stop ds.length H
  go : ∀ i H, i < ds.length → Sub F H → J.go i H
  yld : ∀ i F2 H x H', i < ds.length → Sub F F2 → Sub F2 H → J.yld i H x H' → ∃ d F3, ds[i]? = some d ∧ Sub F2 F3 ∧ Sub F3 H' ∧ Sub H H' ∧ (∀ a, F3 a ≠ none → F2 a ≠ none ∨ H a = none) ∧ Dp K F3 x d
def tDI (K : PySem.W.Frag) (ρ : Env) (P : List PyData → Env → Prop) : TI := fun σ H Rr => ∃ R F, StD K R F H σ ρ ∧ ∀ J F' H' ds ρ', Sub F F' → P ds ρ' → StD K R F' H' σ ρ' → Seqs K F' J ds → Rr J H'
def DI (X : Cx) (tg iter : Expr) (ρ : Env) (P : List PyData → Env → Prop) : Prop := PI X tg iter (tDI X.K ρ P)
theorem pi_imp {X : Cx} {tg iter : Expr} {t t' : TI} (h : PI X tg iter t) (k : ∀ σ H R, t' σ H R → t σ H R) : PI X tg iter t' := ⟨fun pins s σ H R I q => h.run pins s σ H R I (k σ H R q)⟩
section
variable {X : Cx} {e a b tg : Expr} {ρ : Env} {P : List PyData → Env → Prop} {pos p0 : Pos}
theorem seq_list {K : PySem.W.Frag} {F : Hp} {l : Addr} {vs : List V} {ds : List PyData} (h : SqL K F l vs) (t : DpAll K F vs ds) : Seqs K F (Itl K l) ds where
  stop := fun H f => ⟨vs, sql_up f h, by rw [t.length]; exact Nat.le_refl _⟩
  go := fun i H hi f => by
    obtain ⟨d, hd⟩ : ∃ d, ds[i]? = some d := ⟨ds[i], by simp [hi]⟩
    obtain ⟨v, hv, _⟩ := t.get hd
    exact ⟨vs, v, sql_up f h, hv⟩
  yld := fun i F2 H x H' hi f2 fh ⟨e, y⟩ => by
    subst e
    obtain ⟨d, hd, r⟩ := t.getV (y vs (sql_up (f2.trans fh) h))
    exact ⟨d, F2, hd, Sub.refl _, fh, Sub.refl _, fun a n => .inl n, Dp.up f2 r⟩
theorem seq_tup {K : PySem.W.Frag} {F : Hp} {l : Addr} {vs : List V} {ds : List PyData} (h : SqT K F l vs) (t : DpAll K F vs ds) : Seqs K F (Itt K l) ds where
  stop := fun H f => ⟨vs, sqt_up f h, by rw [t.length]; exact Nat.le_refl _⟩
  go := fun i H hi f => by
    obtain ⟨d, hd⟩ : ∃ d, ds[i]? = some d := ⟨ds[i], by simp [hi]⟩
    obtain ⟨v, hv, _⟩ := t.get hd
    exact ⟨vs, v, sqt_up f h, hv⟩
  yld := fun i F2 H x H' hi f2 fh ⟨e, y⟩ => by
    subst e
    obtain ⟨d, hd, r⟩ := t.getV (y vs (sqt_up (f2.trans fh) h))
    exact ⟨d, F2, hd, Sub.refl _, fh, Sub.refl _, fun a n => .inl n, Dp.up f2 r⟩
/-- a range's numbers -/
def rngD (lo : Int) (n : Nat) : List PyData := (List.range n).map fun (i : Nat) => PyData.int (lo + (i : Int))
theorem rngD_len (lo : Int) (n : Nat) : (rngD lo n).length = n := by unfold rngD; rw [List.length_map, List.length_range]
theorem rngD_at {lo : Int} {n i : Nat} {d : PyData} (h : (rngD lo n)[i]? = some d) : i < n ∧ d = .int (lo + (i : Int)) := by
  have hl := (List.getElem?_eq_some_iff.mp h).1
  rw [rngD_len] at hl
  unfold rngD at h
  rw [List.getElem?_map, List.getElem?_range hl] at h
  exact ⟨hl, (Option.some.inj h).symm⟩
theorem seq_rng {K : PySem.W.Frag} {F : Hp} {lo : Int} {n : Nat} : Seqs K F (Itr lo n) (rngD lo n) where
  stop := fun H _ => by rw [rngD_len]; exact Nat.le_refl _
  go := fun i H hi _ => by rw [rngD_len] at hi; exact hi
  yld := fun i F2 H x H' hi f2 fh ⟨e, y⟩ => by
    subst e y
    rw [rngD_len] at hi
    exact ⟨.int (lo + i), F2, by unfold rngD; rw [List.getElem?_map, List.getElem?_range hi] <;> rfl, Sub.refl _, fh, Sub.refl _, fun a n => .inl n, .int _⟩
/-- a text's signs -/
def sgnD (x : Str) : List PyData := x.cps.toList.map fun c => PyData.str ⟨#[c]⟩
theorem seq_str {K : PySem.W.Frag} {F : Hp} {x : Str} : Seqs K F (Its x) (sgnD x) where
  stop := fun H _ => by unfold sgnD; rw [List.length_map]; exact Nat.le_of_eq (by simp)
  go := fun i H hi _ => by unfold sgnD at hi; rw [List.length_map] at hi; show i < x.cps.size; simpa using hi
  yld := fun i F2 H v H' hi f2 fh ⟨e, c, hc, hv⟩ => by
    subst e hv
    refine ⟨.str ⟨#[c]⟩, F2, ?_, Sub.refl _, fh, Sub.refl _, fun a n => .inl n, .str _⟩
    unfold sgnD
    rw [List.getElem?_map]
    have : x.cps.toList[i]? = some c := by simpa using hc
    rw [this] <;> rfl
theorem di_list (h : DE X e ρ fun s ρ1 => isF s fun d => ∃ ds, d = .list ds ∧ P ds ρ1) : DI X tg e ρ P :=
  pi_imp (pi_list h) fun σ H Rr ⟨R, F, S, q⟩ => ⟨R, F, S, fun v F1 H1 s ρ1 f1 ⟨d, z, ds, ed, p⟩ S1 => by
    subst ed
    obtain ⟨F2, f2, S2⟩ := S1.frz z
    cases S2.headF with
    | lst sx tx => exact ⟨_, rfl, ⟨_, sql_up S2.fh sx⟩, q _ F2 H1 ds ρ1 (f1.trans f2) p S2.tail (seq_list sx tx)⟩⟩
theorem di_tup (h : DE X e ρ fun s ρ1 => isF s fun d => ∃ ds, d = .tuple ds ∧ P ds ρ1) : DI X tg e ρ P :=
  pi_imp (pi_tup h) fun σ H Rr ⟨R, F, S, q⟩ => ⟨R, F, S, fun v F1 H1 s ρ1 f1 ⟨d, z, ds, ed, p⟩ S1 => by
    subst ed
    obtain ⟨F2, f2, S2⟩ := S1.frz z
    cases S2.headF with
    | tup sx tx => exact ⟨_, rfl, ⟨_, sqt_up S2.fh sx⟩, q _ F2 H1 ds ρ1 (f1.trans f2) p S2.tail (seq_tup sx tx)⟩⟩
theorem di_str (h : DE X e ρ fun s ρ1 => isF s fun d => ∃ x, d = .str x ∧ P (sgnD x) ρ1) : DI X tg e ρ P :=
  pi_imp (pi_str h) fun σ H Rr ⟨R, F, S, q⟩ => ⟨R, F, S, fun v F1 H1 s ρ1 f1 ⟨d, z, x, ed, p⟩ S1 => by
    subst ed
    obtain ⟨F2, f2, S2⟩ := S1.frz z
    have r := S2.headF
    cases r
    exact ⟨x, rfl, q _ F2 H1 _ ρ1 (f1.trans f2) p S2.tail seq_str⟩⟩
theorem di_range1 (h : DE X a ρ fun s ρ1 => isF s fun d => ∃ n : Int, d = .int n ∧ -(2 ^ 62) ≤ n ∧ n < 2 ^ 62 ∧ P (rngD 0 n.toNat) ρ1) (hm : X.mg "range" = none) (hg : Gl X "range" := by rfl) (hs : starEach [a] X.env = [(false, eval a X.env)] := by rfl) : DI X tg (.Call (.Name "range" p0) [a] [] pos) ρ P :=
  pi_imp (pi_range1 hg hm (pa_cons h pa_nil hs) hs) fun σ H Rr ⟨R, F, S, q⟩ => ⟨R, F, S, fun v F1 H1 s ρ1 f1 ⟨d, z, n, ed, b1, b2, p⟩ S1 => by
    subst ed
    obtain ⟨F2, f2, S2⟩ := S1.frz z
    have r := S2.headF
    cases r
    exact ⟨n, rfl, b1, b2, q _ F2 H1 _ ρ1 (f1.trans f2) p S2.tail seq_rng⟩⟩
theorem di_range2 (h : DE X a ρ fun s ρ1 => isF s fun d => DE X b ρ1 fun s2 ρ2 => isF s2 fun d2 => ∃ m n : Int, d = .int m ∧ d2 = .int n ∧ (-(2 ^ 62) ≤ m ∧ m < 2 ^ 62 ∧ -(2 ^ 62) ≤ n ∧ n < 2 ^ 62) ∧ P (rngD m (n - m).toNat) ρ2) (hm : X.mg "range" = none) (hg : Gl X "range" := by rfl)
    (hs : starEach [a, b] X.env = [(false, eval a X.env), (false, eval b X.env)] := by rfl) (hs2 : starEach [b] X.env = [(false, eval b X.env)] := by rfl) : DI X tg (.Call (.Name "range" p0) [a, b] [] pos) ρ P :=
  pi_imp (pi_range2 hg hm (pa_cons h (pa_cons pe_u pa_nil hs2) (by rw [hs, hs2])) hs hs2) fun σ H Rr ⟨R, F, S, q⟩ => ⟨R, F, S, fun v F1 H1 s ρ1 f1 ⟨d, z, hb⟩ S1 => by
    obtain ⟨F2, f2, S2⟩ := S1.frz z
    refine ⟨ρ1, _, hb, R, F2, S2.tail, fun v3 F3 H3 s3 ρ3 f3 ⟨d2, z2, m, n, e1, e2, bb, p⟩ S3 => ?_⟩
    subst e1 e2
    obtain ⟨F4, f4, S4⟩ := S3.frz z2
    have r := S2.headF
    cases r
    have r2 := S4.headF
    cases r2
    exact ⟨m, n, rfl, bb, q _ F4 H3 _ ρ3 (((f1.trans f2).trans f3).trans f4) p S4.tail seq_rng⟩⟩
/-- a list's items with their numbers -/
def numD (ds : List PyData) : List PyData := ds.mapIdx fun i d => .tuple [.int (i : Int), d]
theorem numD_at {ds : List PyData} {i : Nat} {d : PyData} (h : (numD ds)[i]? = some d) : ∃ e, ds[i]? = some e ∧ d = .tuple [.int (i : Int), e] := by
  unfold numD at h
  rw [List.getElem?_mapIdx] at h
  cases q : ds[i]? with
  | none => rw [q] at h; cases h
  | some e => rw [q] at h; exact ⟨e, rfl, (Option.some.inj h).symm⟩
theorem numD_len (ds : List PyData) : (numD ds).length = ds.length := by unfold numD; rw [List.length_mapIdx]
theorem seq_enum {K : PySem.W.Frag} {F : Hp} {l : Addr} {vs : List V} {ds : List PyData} (h : SqL K F l vs) (t : DpAll K F vs ds) : Seqs K F (Ite K l) (numD ds) where
  stop := fun H f => ⟨vs, sql_up f h, by rw [t.length, numD_len]; exact Nat.le_refl _⟩
  go := fun i H hi f => by
    rw [numD_len] at hi
    obtain ⟨d, hd⟩ : ∃ d, ds[i]? = some d := ⟨ds[i], by simp [hi]⟩
    obtain ⟨v, hv, _⟩ := t.get hd
    exact ⟨vs, v, sql_up f h, hv⟩
  yld := fun i F2 H x H' hi f2 fh ⟨T, w, e, hT, eH, y⟩ => by
    subst e eH
    obtain ⟨d, hd, r⟩ := t.getV (y vs (sql_up (f2.trans fh) h))
    have fT : F2 T = none := by
      cases q : F2 T with
      | none => rfl
      | some u => rw [fh T u q] at hT; cases hT
    refine ⟨.tuple [.int (i : Int), d], upd F2 T (.tup [.int (i : Nat), w]), ?_, Sub.new fT, Sub.upd fh, Sub.new hT, fun a n => ?_, .tup (.of upd_same) (.cons (.int _) (.cons (Dp.up (f2.trans (Sub.new fT)) r) .nil))⟩
    · unfold numD
      rw [List.getElem?_mapIdx, hd] <;> rfl
    · by_cases q : a = T
      · subst q; exact .inr hT
      · rw [upd_ne q] at n; exact .inl n
theorem di_enum {elts : List Expr} {kk : Nat} {tpos : Pos} (h : DE X e ρ fun s ρ1 => isF s fun d => ∃ ds, d = .list ds ∧ P (numD ds) ρ1) (hm : X.mg "enumerate" = none) (hg : Gl X "enumerate" := by rfl) (hs : starEach [e] X.env = [(false, eval e X.env)] := by rfl) : DI X (.Tuple elts kk tpos) (.Call (.Name "enumerate" p0) [e] [] pos) ρ P :=
  pi_imp (pi_enum hg hm (pa_cons h pa_nil hs) hs) fun σ H Rr ⟨R, F, S, q⟩ => ⟨R, F, S, fun v F1 H1 s ρ1 f1 ⟨d, z, ds, ed, p⟩ S1 => by
    subst ed
    obtain ⟨F2, f2, S2⟩ := S1.frz z
    cases S2.headF with
    | lst sx tx => exact ⟨_, _, rfl, sql_up S2.fh sx, q _ F2 H1 _ ρ1 (f1.trans f2) p S2.tail (seq_enum sx tx)⟩⟩
end
end DL

set_option maxHeartbeats 2000000
/-! DL5: targets, statements, loops, comprehensions, a def's body. -/
namespace DL
open PySem PySem.Spec PyProof.Rows L2

/-! ### targets -/
/-- d goes to the target; only the slots vs change -/
def tDG (K : PySem.W.Frag) (vs : List Nat) (d : PyData) (ρ : Env) (N : Env → Prop) : TG := fun v σ H Q => ∃ R F, Dp K F v d ∧ StD K R F H σ ρ ∧
  ∀ σ' F' H' ρ', Sub F F' → N ρ' → (∀ i, i ∉ vs → σ'[i]? = σ[i]?) → σ'.length = σ.length → StD K R F' H' σ' ρ' → Q σ' H'
def DG (X : Cx) (vs : List Nat) (tg : Expr) (d : PyData) (ρ : Env) (N : Env → Prop) : Prop := PG X tg (tDG X.K vs d ρ N)
def tDGs (K : PySem.W.Frag) (vs : List Nat) (ds : List PyData) (ρ : Env) (N : Env → Prop) : TGs := fun ws σ H Q => ∃ R F, DpAll K F ws ds ∧ StD K R F H σ ρ ∧
  ∀ σ' F' H' ρ', Sub F F' → N ρ' → (∀ i, i ∉ vs → σ'[i]? = σ[i]?) → σ'.length = σ.length → StD K R F' H' σ' ρ' → Q σ' H'
def DGs (X : Cx) (vs : List Nat) (tgs : List Expr) (ds : List PyData) (ρ : Env) (N : Env → Prop) : Prop := PGs X tgs (tDGs X.K vs ds ρ N)
theorem pg_imp {X : Cx} {e : Expr} {t t' : TG} (h : PG X e t) (k : ∀ v σ H Q, t' v σ H Q → t v σ H Q) : PG X e t' := ⟨fun pins s σ H v u Q I r q => h.run pins s σ H v u Q I r (k v σ H Q q)⟩
theorem pgs_imp {X : Cx} {e : List Expr} {t t' : TGs} (h : PGs X e t) (k : ∀ v σ H Q, t' v σ H Q → t v σ H Q) : PGs X e t' := ⟨fun pins s σ H v u Q I r q => h.run pins s σ H v u Q I r (k v σ H Q q)⟩
section
variable {X : Cx} {vs : List Nat} {tg : Expr} {d : PyData} {ds : List PyData} {ρ : Env} {N : Env → Prop} {pos : Pos}
def tUG (X : Cx) (vs : List Nat) (tg : Expr) : TG := fun v σ H Q => ∃ d ρ N, DG X vs tg d ρ N ∧ tDG X.K vs d ρ N v σ H Q
theorem pg_u : PG X tg (tUG X vs tg) := ⟨fun pins s σ H v u Q I r ⟨_, _, _, h, q⟩ => h.run pins s σ H v u Q I r q⟩
def tUGs (X : Cx) (vs : List Nat) (tgs : List Expr) : TGs := fun v σ H Q => ∃ d ρ N, DGs X vs tgs d ρ N ∧ tDGs X.K vs d ρ N v σ H Q
theorem pgs_u {tgs : List Expr} : PGs X tgs (tUGs X vs tgs) := ⟨fun pins s σ H v u Q I r ⟨_, _, _, h, q⟩ => h.run pins s σ H v u Q I r q⟩
theorem dg_name (i : Nat) {x : Str} (h : N (ρ.set i (some (.frz d)))) (hN : X.N.Nodup) (hi : X.N[i]? = some x := by rfl) (hx : Loc X.env.scope x := by first | exact Or.inl rfl | exact Or.inr rfl) (hv : i ∈ vs := by decide)
    (hf : X.fn x = true ∨ X.env.scope.names.lookup x = some .local := by first | exact .inl rfl | exact .inr rfl | assumption) : DG X vs (.Name x pos) d ρ N :=
  pg_imp (pg_name hN hi hx hf) fun v σ H Q ⟨R, F, r, S, q⟩ => q _ F H _ (Sub.refl F) h (fun j hj => List.getElem?_set_ne fun z => hj (by rw [← z]; exact hv)) List.length_set (S.consF r).set
theorem dgs_nil (h : N ρ) : DGs X vs [] [] ρ N := pgs_imp pgs_nil fun ws σ H Q ⟨R, F, t, S, q⟩ => by
  cases t
  exact ⟨rfl, q σ F H ρ (Sub.refl F) h (fun _ _ => rfl) rfl S⟩
theorem dgs_cons {e : Expr} {es : List Expr} (h : DG X vs e d ρ fun ρ1 => DGs X vs es ds ρ1 N) (hs : (assignEach (e :: es) X.env).map (·.2) = assign e X.env :: (assignEach es X.env).map (·.2) := by rfl) : DGs X vs (e :: es) (d :: ds) ρ N :=
  pgs_imp (pgs_cons h (pgs_u (vs := vs)) hs) fun ws σ H Q ⟨R, F, t, S, q⟩ => by
    cases t with
    | cons r t =>
      refine ⟨_, _, rfl, R, F, r, S, fun σ1 F1 H1 ρ1 f1 h1 k1 l1 S1 => ⟨_, _, _, h1, R, F1, t.up f1, S1, fun σ2 F2 H2 ρ2 f2 h2 k2 l2 S2 => ?_⟩⟩
      exact q σ2 F2 H2 ρ2 (f1.trans f2) h2 (fun i hi => (k2 i hi).trans (k1 i hi)) (l2.trans l1) S2
theorem dg_tup {es : List Expr} {j n : Nat} (h : DGs X vs es ds ρ N) (hl : ds.length = n) (hc : X.calm = true := by rfl) (hn : (assignEach es X.env).length = n := by rfl) (hst : (assignEach es X.env).findIdx? (·.1) = none := by rfl) : DG X vs (.Tuple es j pos) (.tuple ds) ρ N :=
  pg_imp (pg_tup hc h hn hst) fun v σ H Q ⟨R, F, r, S, q⟩ => by
    cases r with
    | tup sx tx => exact ⟨_, _, rfl, sqt_up S.fh sx, by rw [tx.length]; exact hl, R, F, tx, S, q⟩
end

/-! ### statements -/
structure Po where
  nx : Env → Prop
  rt : Sl → Env → Prop
  bk : Env → Prop := fun _ => False
  ct : Env → Prop := fun _ => False
structure EndsOk (K : PySem.W.Frag) (R F : Hp) (P : Po) (D : Ends) : Prop where
  nx : ∀ σ' F' H' ρ', Sub F F' → P.nx ρ' → StD K R F' H' σ' ρ' → D.nx σ' H'
  rt : ∀ v σ' F' H' s ρ', Sub F F' → P.rt s ρ' → StD K R F' H' (some v :: σ') (some s :: ρ') → D.rt v H'
  bk : ∀ σ' F' H' ρ', Sub F F' → P.bk ρ' → StD K R F' H' σ' ρ' → D.bk σ' H'
  ct : ∀ σ' F' H' ρ', Sub F F' → P.ct ρ' → StD K R F' H' σ' ρ' → D.ct σ' H'
theorem EndsOk.up {K : PySem.W.Frag} {R F F' : Hp} {P : Po} {D : Ends} (h : EndsOk K R F P D) (f : Sub F F') : EndsOk K R F' P D :=
  ⟨fun σ' F2 H' ρ' f2 => h.nx σ' F2 H' ρ' (f.trans f2), fun v σ' F2 H' s ρ' f2 => h.rt v σ' F2 H' s ρ' (f.trans f2), fun σ' F2 H' ρ' f2 => h.bk σ' F2 H' ρ' (f.trans f2), fun σ' F2 H' ρ' f2 => h.ct σ' F2 H' ρ' (f.trans f2)⟩
def tS (K : PySem.W.Frag) (ρ : Env) (P : Po) : TS := fun D σ H => ∃ R F, StD K R F H σ ρ ∧ EndsOk K R F P D
def DS (X : Cx) (st : Stmt) (ρ : Env) (P : Po) : Prop := PS X st (tS X.K ρ P)
def DSs (X : Cx) (st : List Stmt) (ρ : Env) (P : Po) : Prop := PSs X st (tS X.K ρ P)
theorem ps_imp {X : Cx} {st : Stmt} {t t' : TS} (h : PS X st t) (k : ∀ D σ H, t' D σ H → t D σ H) : PS X st t' := ⟨fun pins s σ H D I q => h.run pins s σ H D I (k D σ H q)⟩
theorem pss_imp {X : Cx} {st : List Stmt} {t t' : TS} (h : PSs X st t) (k : ∀ D σ H, t' D σ H → t D σ H) : PSs X st t' := ⟨fun pins s σ H D I q => h.run pins s σ H D I (k D σ H q)⟩
section
variable {X : Cx} {st : Stmt} {rest body orelse : List Stmt} {e a b c tg iter : Expr} {es : List Expr} {ρ : Env} {P : Po} {pos : Pos}
def tUS (X : Cx) (st : List Stmt) : TS := fun D σ H => ∃ ρ P, DSs X st ρ P ∧ tS X.K ρ P D σ H
theorem pss_u {sts : List Stmt} : PSs X sts (tUS X sts) := ⟨fun pins s σ H D I ⟨_, _, h, q⟩ => h.run pins s σ H D I q⟩
theorem dss_mono {P' : Po} {sts : List Stmt} (h : DSs X sts ρ P) (h1 : ∀ ρ', P.nx ρ' → P'.nx ρ') (h2 : ∀ s ρ', P.rt s ρ' → P'.rt s ρ') (h3 : ∀ ρ', P.bk ρ' → P'.bk ρ') (h4 : ∀ ρ', P.ct ρ' → P'.ct ρ') : DSs X sts ρ P' :=
  pss_imp h fun D σ H ⟨R, F, S, E⟩ => ⟨R, F, S, ⟨fun σ' F' H' ρ' f p => E.nx σ' F' H' ρ' f (h1 _ p), fun v σ' F' H' s ρ' f p => E.rt v σ' F' H' s ρ' f (h2 _ _ p), fun σ' F' H' ρ' f p => E.bk σ' F' H' ρ' f (h3 _ p), fun σ' F' H' ρ' f p => E.ct σ' F' H' ρ' f (h4 _ p)⟩⟩
theorem dss_nil (h : P.nx ρ) : DSs X [] ρ P := pss_imp pss_nil fun D σ H ⟨R, F, S, E⟩ => E.nx σ F H ρ (Sub.refl F) h S
theorem dss_cons (h : DS X st ρ { P with nx := fun ρ1 => DSs X rest ρ1 P }) : DSs X (st :: rest) ρ P :=
  pss_imp (pss_cons h pss_u) fun D σ H ⟨R, F, S, E⟩ => ⟨R, F, S, ⟨fun σ' F' H' ρ' f p S' => ⟨ρ', P, p, R, F', S', E.up f⟩, E.rt, E.bk, E.ct⟩⟩
theorem dss_one (h : DS X st ρ P) : DSs X [st] ρ P := pss_one h
/-- a statement, then the rest from what is known behind it -/
theorem dss_cut (M : Env → Prop) (h : DS X st ρ { P with nx := M }) (k : ∀ ρ1, M ρ1 → DSs X rest ρ1 P) : DSs X (st :: rest) ρ P :=
  dss_cons (ps_imp h fun D σ H ⟨R, F, S, E⟩ => ⟨R, F, S, ⟨fun σ' F' H' ρ' f p S' => E.nx σ' F' H' ρ' f (k ρ' p) S', E.rt, E.bk, E.ct⟩⟩)
theorem ds_pass (h : P.nx ρ) : DS X (.Pass pos) ρ P := ps_imp ps_pass fun D σ H ⟨R, F, S, E⟩ => E.nx σ F H ρ (Sub.refl F) h S
theorem ds_ret (h : DE X e ρ P.rt) : DS X (.Return (some e) pos) ρ P := ps_imp (ps_ret h) fun D σ H ⟨R, F, S, E⟩ => ⟨R, F, S, fun v F' H' s ρ' f p S' => E.rt v σ F' H' s ρ' f p S'⟩
theorem ds_retN (h : P.rt (.frz .none) ρ) : DS X (.Return none pos) ρ P := ps_imp ps_retN fun D σ H ⟨R, F, S, E⟩ => E.rt .non σ F H _ ρ (Sub.refl F) h (S.consF .non)
theorem ds_if (h : DT X c ρ fun k ρ1 => if k = true then DSs X body ρ1 P else DSs X orelse ρ1 P) : DS X (.If c body orelse pos) ρ P :=
  ps_imp (ps_if h pss_u pss_u) fun D σ H ⟨R, F, S, E⟩ => ⟨R, F, S, fun k F' H' ρ' f p S' => by
    cases k with
    | true => exact ⟨ρ', P, p, R, F', S', E.up f⟩
    | false => exact ⟨ρ', P, p, R, F', S', E.up f⟩⟩
theorem ds_never (h : False) : DS X st ρ P := h.elim
/-- name = e -/
theorem ds_set (i : Nat) {x : Str} {px : Pos} (h : DE X e ρ fun s ρ1 => P.nx (ρ1.set i (some s))) (hN : X.N.Nodup) (hi : X.N[i]? = some x := by rfl) (hx : Loc X.env.scope x := by first | exact Or.inl rfl | exact Or.inr rfl) (hs : swapsWith e (some (.Name x px)) pos.line X.env = pure false := by rfl)
    (hf : X.fn x = true ∨ X.env.scope.names.lookup x = some .local := by first | exact .inl rfl | exact .inr rfl | assumption) : DS X (.Assign [.Name x px] e pos) ρ P :=
  ps_imp (ps_set hN hi hx h hs hf) fun D σ H ⟨R, F, S, E⟩ => ⟨R, F, S, fun v F' H' s ρ' f p S' => E.nx _ F' H' _ f p S'.set⟩
/-- target = e, what stands still -/
theorem ds_asg {vs : List Nat} (h : DE X e ρ fun s ρ1 => isF s fun d => DG X vs tg d ρ1 P.nx) (hs : swapsWithSole [tg] e pos.line X.env = pure false := by rfl) (hw : swappedStores [tg] e X.env = pure none := by rfl) (h1 : (assignEach [tg] X.env).map (·.2) = [assign tg X.env] := by rfl) : DS X (.Assign [tg] e pos) ρ P :=
  ps_imp (ps_asg h (pg_u (vs := vs)) hs hw h1) fun D σ H ⟨R, F, S, E⟩ => ⟨R, F, S, fun v F1 H1 s ρ1 f1 ⟨d, z, p⟩ S1 => by
    obtain ⟨F2, f2, S2⟩ := S1.frz z
    exact ⟨d, ρ1, _, p, R, F2, S2.headF, S2.tail, fun σ' F' H' ρ' f' p' _ _ S' => E.nx σ' F' H' ρ' ((f1.trans f2).trans f') p' S'⟩⟩
/-- an expression whose value is let go -/
theorem ds_expr (h : DE X e ρ fun _ ρ1 => P.nx ρ1) (hs : swapsWith e none pos.line X.env = pure false := by rfl) : DS X (.Expr e pos) ρ P :=
  ps_imp (ps_expr h hs) fun D σ H ⟨R, F, S, E⟩ => ⟨R, F, S, fun v F' H' s ρ' f p S' => E.nx _ F' H' _ f p S'.tail⟩
/-- x.append(e), x a name that holds an own list -/
theorem ds_append (i : Nat) {x : Str} {px apos cpos : Pos} (h : DE X e ρ fun s ρ1 => isF s fun d => ∃ p ds, ρ1[i]? = some (some (.own p (oLst p ds))) ∧ ds.length < sizeLine ∧ P.nx (ρ1.set i (some (.own p (oLst p (ds ++ [d])))))) (hi : ∃ p ds, ρ[i]? = some (some (.own p (oLst p ds))))
    (hN : X.N[i]? = some x := by rfl) (hv : Vis X.env.scope x := by first | exact Or.inl rfl | exact Or.inr (Or.inl rfl) | exact Or.inr (Or.inr rfl)) (hd : (x == ("__debug__" : Str)) = false := by decide) (hcd : (x == ("__classdict__" : Str)) = false := by decide)
    (hs : swapsWith (.Call (.Attribute (.Name x px) "append" apos) [e] [] cpos) none pos.line X.env = pure false := by rfl) (hbase : attributeBase (.Name x px) "append" X.env (eval (.Name x px) X.env) = eval (.Name x px) X.env := by rfl)
    (hfew : ((backTo cpos (starEach [e] X.env)).all (fun x => !x.1) && (backToKw cpos (keywordEach [] X.env)).all (fun x => x.1.isSome) && decide ([e].length + ([] : List Keyword).length + (if ([] : List Keyword).isEmpty then 0 else 1) < 30)) = true := by rfl)
    (hline : (apos.endLine == cpos.line) = true := by rfl) (hse : starEach [e] X.env = (false, eval e X.env) :: starEach [] X.env := by rfl) (hplain : (backTo cpos (starEach [] X.env)).any (·.1) = false := by rfl) :
    DS X (.Expr (.Call (.Attribute (.Name x px) "append" apos) [e] [] cpos) pos) ρ P :=
  ps_imp (ps_expr (pe_bm PySem.F.plainAttrs_list PySem.F.slot_list_append PySem.F.type_list_append mt_append (pe_var hN hv hd hcd) (pa_cons h pa_nil hse) hbase hfew hline hse hplain) hs) fun D σ H ⟨R, F, S, E⟩ => by
    obtain ⟨p0, ds0, e0⟩ := hi
    obtain ⟨v0, e1, rfl, vs0, hp0, t0⟩ := S.sl i _ e0
    refine ⟨_, e1, .inl ⟨rfl, vs0, .of hp0⟩, R, F, S, fun v F1 H1 s ρ1 f1 ⟨d, z, p, ds, ei, hz, nx⟩ S1 => ?_⟩
    obtain ⟨F2, f2, S2⟩ := S1.frz z
    obtain ⟨v2, e2, rfl, vs, hp, t⟩ := S2.tail.sl i _ ei
    rw [e1] at e2
    cases e2
    exact ⟨_, vs, v, rfl, rfl, hp, by rw [t.length]; exact hz, E.nx σ F2 _ _ (f1.trans f2) nx (S2.tail.writeL ei (t.append (.one S2.headF)))⟩
/-- x[j] = e, x a name that holds an own list -/
theorem ds_item (i : Nat) {x : Str} {px sp : Pos} (h : DE X e ρ fun s ρ1 => isF s fun d => DE X b ρ1 fun s2 ρ2 => ∃ (n : Int) (j : Nat) (p : Addr) (ds : List PyData), s2 = .frz (.int n) ∧ ρ2[i]? = some (some (.own p (oLst p ds))) ∧ ixN ds.length n = some j ∧ P.nx (ρ2.set i (some (.own p (oLst p (ds.set j d)))))) (hi : ∃ p A, ρ[i]? = some (some (.own p A)))
    (hN : X.N[i]? = some x := by rfl) (hv : Vis X.env.scope x := by first | exact Or.inl rfl | exact Or.inr (Or.inl rfl) | exact Or.inr (Or.inr rfl)) (hd : (x == ("__debug__" : Str)) = false := by decide) (hcd : (x == ("__classdict__" : Str)) = false := by decide)
    (hs : swapsWithSole [.Subscript (.Name x px) b sp] e pos.line X.env = pure false := by rfl) (hw : swappedStores [.Subscript (.Name x px) b sp] e X.env = pure none := by rfl) (h1 : (assignEach [.Subscript (.Name x px) b sp] X.env).map (·.2) = [assign (.Subscript (.Name x px) b sp) X.env] := by rfl)
    (ha : ∀ v, assign (.Subscript (.Name x px) b sp) X.env v = (do
      let ov ← holding [v] (eval (.Name x px) X.env)
      let iv ← holding [v, ov] (eval b X.env)
      standAt sp
      holding [v, ov, iv] (setItem ov iv v)
      release [v, ov, iv] []) := by intro _; rfl) : DS X (.Assign [.Subscript (.Name x px) b sp] e pos) ρ P :=
  ps_imp (ps_asg h (pg_sub (pe_var hN hv hd hcd) pe_u set_list ha) hs hw h1) fun D σ H ⟨R, F, S, E⟩ => ⟨R, F, S, fun v F1 H1 s ρ1 f1 ⟨d, z, hb⟩ S1 => by
    obtain ⟨F2, f2, S2⟩ := S1.frz z
    obtain ⟨p0, A0, e0⟩ := hi
    obtain ⟨v0, e1, rfl, _⟩ := S.sl i _ e0
    refine ⟨_, e1, ρ1, _, hb, R, F2, S2.tail, fun v3 F3 H3 s3 ρ3 f3 ⟨n, j, p, ds, hs3, ei, hj, nx⟩ S3 => ?_⟩
    subst hs3
    have r := S3.headF
    cases r
    obtain ⟨v2, e2, rfl, vs, hp, t⟩ := S3.tail.sl i _ ei
    rw [e1] at e2
    cases e2
    exact ⟨_, vs, n, j, rfl, rfl, hp, by rw [t.length]; exact hj, E.nx σ F3 _ _ ((f1.trans f2).trans f3) nx (S3.tail.writeL ei (t.set (Dp.up f3 S2.headF) j))⟩⟩

/-! ### loops -/
theorem ds_for {vs : List Nat} (h : DI X tg iter ρ fun ds ρ1 => ∃ I : Nat → Env → Prop, I 0 ρ1 ∧
      (∀ (i : Nat) d ρ2, ds[i]? = some d → I i ρ2 → DG X vs tg d ρ2 fun ρ3 => DSs X body ρ3 { nx := I (i + 1), rt := P.rt, bk := P.nx, ct := I (i + 1) }) ∧ ∀ ρ2, I ds.length ρ2 → P.nx ρ2)
    (hp : PassesOwn (model X.prog X.w) X.A X.env X.xe := by exact PassesOwn.never) (hc : X.calm = true := by rfl) (hs : ∀ x, foldedSetIterable iter X.env x = pure x := by intro _; rfl) : DS X (.For tg iter body [] pos) ρ P :=
  ps_imp (ps_for hp hc h (pg_u (vs := vs)) pss_u hs) fun D σ H ⟨R, F, S, E⟩ => ⟨R, F, S, fun J F1 H1 ds ρ1 f1 ⟨I, i0, step, fin⟩ S1 Z => by
    refine ⟨fun i m σ H => m = ds.length - i ∧ i ≤ ds.length ∧ ∃ F2 ρ2, Sub F1 F2 ∧ I i ρ2 ∧ StD X.K R F2 H σ ρ2, ⟨_, rfl, Nat.zero_le _, F1, ρ1, Sub.refl _, i0, S1⟩, ?_⟩
    rintro i m σ2 H2 ⟨rfl, hi, F2, ρ2, f2, inv, S2⟩
    by_cases hlt : i < ds.length
    · refine .inr ⟨Z.go i H2 hlt (f2.trans S2.fh), fun σ H => ∃ F3 ρ3, Sub F1 F3 ∧ I (i + 1) ρ3 ∧ StD X.K R F3 H σ ρ3, fun σ' H' ⟨F3, ρ3, f3, i3, S3⟩ => ⟨ds.length - (i + 1), by omega, rfl, hlt, F3, ρ3, f3, i3, S3⟩, fun x H' y => ?_⟩
      obtain ⟨d, F3, hd, g1, g2, g3, g4, r⟩ := Z.yld i F2 H2 x H' hlt f2 S2.fh y
      have S3 := S2.grow g3 g1 g2 g4
      refine ⟨d, ρ2, _, step i d ρ2 hd inv, R, F3, r, S3, fun σ4 F4 H4 ρ4 f4 p4 _ _ S4 => ⟨ρ4, _, p4, R, F4, S4, ?_⟩⟩
      have f5 : Sub F1 F4 := (f2.trans g1).trans f4
      exact ⟨fun σ' F' H' ρ' f p S' => ⟨F', ρ', f5.trans f, p, S'⟩, fun v σ' F' H' s ρ' f p S' => E.rt v σ' F' H' s ρ' (f1.trans (f5.trans f)) p S', fun σ' F' H' ρ' f p S' => E.nx σ' F' H' ρ' (f1.trans (f5.trans f)) p S', fun σ' F' H' ρ' f p S' => ⟨F', ρ', f5.trans f, p, S'⟩⟩
    · have e : i = ds.length := by omega
      subst e
      exact .inl ⟨Z.stop H2 (f2.trans S2.fh), E.nx σ2 F2 H2 ρ2 (f1.trans f2) (fin ρ2 inv) S2⟩⟩
/-- while: an invariant with a measure -/
theorem ds_while (I : Nat → Env → Prop) (h0 : ∃ m, I m ρ) (h : ∀ m ρ1, I m ρ1 → DT X c ρ1 fun k ρ2 => if k = true then DSs X body ρ2 { nx := fun ρ3 => ∃ m', m' < m ∧ I m' ρ3, rt := P.rt, bk := P.nx, ct := fun ρ3 => ∃ m', m' < m ∧ I m' ρ3 } else P.nx ρ2)
    (hp : PassesOwn (model X.prog X.w) X.A X.env X.xe := by exact PassesOwn.never) : DS X (.While c body [] pos) ρ P :=
  ps_imp (ps_while hp (pt_u (X := X) (e := c)) pss_u) fun D σ H ⟨R, F, S, E⟩ => by
    obtain ⟨m0, i0⟩ := h0
    refine ⟨fun m σ H => ∃ F2 ρ2, Sub F F2 ∧ I m ρ2 ∧ StD X.K R F2 H σ ρ2, ⟨m0, F, ρ, Sub.refl F, i0, S⟩, ?_⟩
    rintro m σ2 H2 ⟨F2, ρ2, f2, inv, S2⟩
    refine ⟨ρ2, _, h m ρ2 inv, R, F2, S2, fun k F3 H3 ρ3 f3 p3 S3 => ?_⟩
    cases k with
    | false => exact E.nx σ2 F3 H3 ρ3 (f2.trans f3) p3 S3
    | true =>
      refine ⟨fun σ H => ∃ m', m' < m ∧ ∃ F4 ρ4, Sub F F4 ∧ I m' ρ4 ∧ StD X.K R F4 H σ ρ4, fun σ' H' q => q, ρ3, _, p3, R, F3, S3, ?_⟩
      have f5 : Sub F F3 := f2.trans f3
      exact ⟨fun σ' F' H' ρ' f ⟨m', hm, p⟩ S' => ⟨m', hm, F', ρ', f5.trans f, p, S'⟩, fun v σ' F' H' s ρ' f p S' => E.rt v σ' F' H' s ρ' (f5.trans f) p S', fun σ' F' H' ρ' f p S' => E.nx σ' F' H' ρ' (f5.trans f) p S', fun σ' F' H' ρ' f ⟨m', hm, p⟩ S' => ⟨m', hm, F', ρ', f5.trans f, p, S'⟩⟩
end
end DL

set_option maxHeartbeats 2000000
/-! DL6: comprehensions; a def's body; the deck. -/
namespace DL
open PySem PySem.Spec PyProof.Rows L2

/-! ### the block's own names -/
def wipeE (ρ : Env) : List Nat → Env
  | [] => ρ
  | v :: vs => (wipeE ρ vs).set v none
theorem wipeE_at {ρ : Env} {i : Nat} {s : Sl} : ∀ {vs : List Nat}, (wipeE ρ vs)[i]? = some (some s) → ρ[i]? = some (some s) ∧ i ∉ vs
  | [], h => ⟨h, by simp⟩
  | v :: vs, h => by
    have h' : ((wipeE ρ vs).set v none)[i]? = some (some s) := h
    by_cases q : v = i
    · subst q
      rw [List.getElem?_set] at h'
      rw [if_pos rfl] at h'
      split at h' <;> cases h'
    · rw [List.getElem?_set_ne q] at h'
      obtain ⟨h1, h2⟩ := wipeE_at h'
      exact ⟨h1, by simp only [List.mem_cons, not_or]; exact ⟨fun z => q z.symm, h2⟩⟩
theorem wipeE_length (ρ : Env) : ∀ vs : List Nat, (wipeE ρ vs).length = ρ.length
  | [] => rfl
  | v :: vs => by unfold wipeE; rw [List.length_set, wipeE_length ρ vs]
theorem wipe_mem {σ : L2.St} {i : Nat} : ∀ {vs : List Nat}, i ∈ vs → i < σ.length → (wipe σ vs)[i]? = some none
  | [], h, _ => by cases h
  | v :: vs, h, hl => by
    show ((wipe σ vs).set v none)[i]? = some none
    by_cases q : v = i
    · subst q
      rw [List.getElem?_set_self (by rw [wipe_length]; exact hl)]
    · rw [List.getElem?_set_ne q]
      exact wipe_mem ((List.mem_cons.mp h).resolve_left fun z => q z.symm) hl
theorem wipe_same {σ σ' : L2.St} {vs : List Nat} (h : ∀ i, i ∉ vs → σ'[i]? = (wipe σ vs)[i]?) (hl : σ'.length = σ.length) : wipe σ' vs = wipe σ vs := by
  refine List.ext_getElem? fun i => ?_
  by_cases hi : i ∈ vs
  · by_cases q : i < σ.length
    · rw [wipe_mem hi (by omega), wipe_mem hi q]
    · rw [List.getElem?_eq_none (by rw [wipe_length]; omega), List.getElem?_eq_none (by rw [wipe_length]; omega)]
  · rw [wipe_out hi]
    exact h i hi
section
variable {K : PySem.W.Frag} {R F H F' H' : Hp} {σ σ' : L2.St} {ρ ρ' : Env} {v : V} {s : Sl} {d : PyData}
theorem StD.wiped (h : StD K R F H σ ρ) (vs : List Nat) : StD K R F H (wipe σ vs) (wipeE ρ vs) :=
  h.sub (fun i => i) (by rw [wipe_length, wipeE_length]; exact h.len) (fun i s e => by
    obtain ⟨e1, n⟩ := wipeE_at e
    exact ⟨e1, wipe_out n⟩) (fun i j p A ne _ _ => ne)
theorem StD.unwiped {vs : List Nat} (h : StD K R F H (some v :: wipe σ vs) (some s :: ρ)) : StD K R F H (some v :: σ) (some s :: ρ) :=
  h.sub (fun i => i) (by have := h.len; rw [List.length_cons, List.length_cons, wipe_length] at this; rw [List.length_cons, List.length_cons]; exact this) (fun i u e => ⟨e, by
    cases i with
    | zero => rfl
    | succ i =>
      obtain ⟨w, e1, _⟩ := h.sl (i + 1) u e
      have e2 : (wipe σ vs)[i]? = some (some w) := by simpa using e1
      have e3 : σ[i]? = some (some w) := (wipe_some e2).1
      simp only [List.getElem?_cons_succ]
      rw [e2, e3]⟩) (fun i j p A ne _ _ => ne)
end

def DTs (X : Cx) (ifs : List Expr) (ρ : Env) (P : Bool → Env → Prop) : Prop := PTs X ifs (tDT X.K ρ P)
section
variable {X : Cx} {tg iter elt c : Expr} {ifs : List Expr} {scope : Scope} {own : List (Str × Nat)} {ρ : Env} {P : Sl → Env → Prop} {pos : Pos} {PB : Bool → Env → Prop} {vs : List Nat}
theorem dts_nil (h : PB true ρ) : DTs X [] ρ PB := ⟨fun pins s σ H Q I ⟨R, F, S, q⟩ => pts_nil.run pins s σ H Q I (q true F H ρ (Sub.refl F) h S)⟩
theorem dts_one (h : DT X c ρ PB) : DTs X [c] ρ PB := pts_one h
/-- the block's contexts -/
abbrev Blk (X : Cx) (scope : Scope) (s : Shared) (H : Hp) (C : Addr) (cl : List (Str × Addr)) (fp : List Addr) : Cx := X.blk s H scope (compEnvC scope cl C X.env) fp
def tUGc (X : Cx) (scope : Scope) (vs : List Nat) (tg : Expr) : TG := fun v σ H Q => ∃ d ρ N, (∀ s H C cl fp, DG (Blk X scope s H C cl fp) vs tg d ρ N) ∧ tDG X.K vs d ρ N v σ H Q
def tUTc (X : Cx) (scope : Scope) (ifs : List Expr) : TT := fun σ H Q => ∃ ρ P, (∀ s H C cl fp, DTs (Blk X scope s H C cl fp) ifs ρ P) ∧ tDT X.K ρ P σ H Q
def tUEc (X : Cx) (scope : Scope) (elt : Expr) : TE := fun σ H Q => ∃ ρ P, (∀ s H C cl fp, DE (Blk X scope s H C cl fp) elt ρ P) ∧ tD X.K ρ P σ H Q
theorem pg_uc (s : Shared) (H : Hp) (C : Addr) (cl : List (Str × Addr)) (fp : List Addr) : PG (Blk X scope s H C cl fp) tg (tUGc X scope vs tg) := ⟨fun pins s' σ H' v u Q I r ⟨_, _, _, h, q⟩ => (h s H C cl fp).run pins s' σ H' v u Q I r q⟩
theorem pt_uc (s : Shared) (H : Hp) (C : Addr) (cl : List (Str × Addr)) (fp : List Addr) : PTs (Blk X scope s H C cl fp) ifs (tUTc X scope ifs) := ⟨fun pins s' σ H' Q I ⟨_, _, h, q⟩ => (h s H C cl fp).run pins s' σ H' Q I q⟩
theorem pe_uc (s : Shared) (H : Hp) (C : Addr) (cl : List (Str × Addr)) (fp : List Addr) : PE (Blk X scope s H C cl fp) elt (tUEc X scope elt) := ⟨fun pins s' σ H' Q I ⟨_, _, h, q⟩ => (h s H C cl fp).run pins s' σ H' Q I q⟩
/-- what a comprehension asks -/
def LcOk (X : Cx) (scope : Scope) (vs : List Nat) (tg elt : Expr) (ifs : List Expr) (ds : List PyData) (ρ1 : Env) (P : Sl → Env → Prop) : Prop := ∃ J : Nat → List PyData → Env → Prop, J 0 [] (wipeE ρ1 vs) ∧
  (∀ (i : Nat) d acc ρ2, ds[i]? = some d → J i acc ρ2 → acc.length < sizeLine ∧ ∀ s H C cl fp, DG (Blk X scope s H C cl fp) vs tg d ρ2 fun ρ3 => ∀ s H C cl fp, DTs (Blk X scope s H C cl fp) ifs ρ3 fun k ρ4 =>
    if k = true then ∀ s H C cl fp, DE (Blk X scope s H C cl fp) elt ρ4 fun sl ρ5 => isF sl fun d' => J (i + 1) (acc ++ [d']) (wipeE ρ5 vs) else J (i + 1) acc (wipeE ρ4 vs)) ∧
  ∀ acc ρ2, J ds.length acc ρ2 → ∀ p, P (.own p (oLst p acc)) ρ2
theorem lc_read {σ : L2.St} {H : Hp} {Q : VK} (h : tD X.K ρ P σ H Q) : tLc (tDI X.K ρ fun ds ρ1 => LcOk X scope vs tg elt ifs ds ρ1 P) (tUGc X scope vs tg) (tUTc X scope ifs) (tUEc X scope elt) vs σ H Q := by
  obtain ⟨R, F, S, q⟩ := h
  refine ⟨R, F, S, fun J0 F1 H1 ds ρ1 f1 ⟨J, j0, step, fin⟩ S1 Z D hD => ?_⟩
  refine ⟨fun i m H => m = ds.length - i ∧ i ≤ ds.length ∧ ∃ F2 ρ2 acc, Sub F1 F2 ∧ J i acc ρ2 ∧ StD X.K R F2 H (some (.ref D) :: wipe σ vs) (some (.own D (oLst D acc)) :: ρ2), ⟨_, rfl, Nat.zero_le _, F1, _, [], Sub.refl _, j0, (S1.wiped vs).newL hD .nil⟩, ?_⟩
  rintro i m H2 ⟨rfl, hi, F2, ρ2, acc, f2, inv, S2⟩
  by_cases hlt : i < ds.length
  · refine .inr ⟨Z.go i H2 hlt (f2.trans S2.fh), fun H => ∃ F3 ρ3 acc', Sub F1 F3 ∧ J (i + 1) acc' ρ3 ∧ StD X.K R F3 H (some (.ref D) :: wipe σ vs) (some (.own D (oLst D acc')) :: ρ3), fun H' ⟨F3, ρ3, acc', f3, i3, S3⟩ => ⟨ds.length - (i + 1), by omega, rfl, hlt, F3, ρ3, acc', f3, i3, S3⟩, fun x H' y => ?_⟩
    obtain ⟨d, F3, hd, g1, g2, g3, g4, r⟩ := Z.yld i F2 H2 x H' hlt f2 S2.fh y
    have S3 := S2.grow g3 g1 g2 g4
    obtain ⟨hz, hg⟩ := step i d acc ρ2 hd inv
    have kz : (fun k : Nat => k != 0) 0 = false := rfl
    have T : StD X.K (mv R H' (some (.own D (oLst D acc)) :: ρ2) fun k => k != 0) F3 H' (wipe σ vs) ρ2 :=
      (S3.frame fun k => k != 0).sub (fun i => i + 1) (by have := S3.len; rw [List.length_cons, List.length_cons] at this; omega) (fun i u e => by
        refine ⟨?_, by simp⟩
        cases u with
        | frz d => exact lft_frz (by simpa using e)
        | own p A => exact lft_own (by simpa using e) (by simp)) (fun i j p A ne _ _ z => ne (by omega))
    refine ⟨d, ρ2, _, hg, _, F3, r, T, fun σ4 F4 H4 ρ4 f4 p4 k4 l4 S4 => ⟨wipe_same (fun i hi => k4 i hi) (by rw [l4, wipe_length]), ρ4, _, p4, _, F4, S4, fun k F5 H5 ρ5 f5 p5 S5 => ?_⟩⟩
    have back : ∀ {F' H' : Hp} {σ5 : L2.St} {ρ6 : Env}, Sub F3 F' → StD X.K (mv R _ (some (.own D (oLst D acc)) :: ρ2) fun k => k != 0) F' H' σ5 ρ6 → StD X.K R F' H' (σ5 ++ (some (.ref D) :: wipe σ vs)) (ρ6 ++ rst (some (.own D (oLst D acc)) :: ρ2) fun k => k != 0) := fun f S => S3.unframe S f
    have at0 : ∀ (ρ6 : Env), (ρ6 ++ rst (some (.own D (oLst D acc)) :: ρ2) fun k => k != 0)[ρ6.length]? = some (some (.own D (oLst D acc))) := fun ρ6 => by
      rw [List.getElem?_append_right (Nat.le_refl _), Nat.sub_self]
      exact rst_own (by rfl) kz
    cases k with
    | false =>
      refine iteF ?_
      refine ⟨F5, wipeE ρ5 vs, acc, ((f2.trans g1).trans f4).trans f5, p5, ?_⟩
      have U := back (f4.trans f5) S5
      have hlen := S5.len
      refine U.sub (fun j => if j = 0 then ρ5.length else j - 1) ?_ (fun j u e => ?_) (fun j l p A ne ej el => ?_)
      · rw [List.length_cons, List.length_cons, wipe_length, wipeE_length, ← hlen, l4, wipe_length]
      · cases j with
        | zero =>
          have e' : some (some (Sl.own D (oLst D acc))) = some (some u) := e
          cases e'
          refine ⟨by rw [if_pos rfl]; exact at0 ρ5, ?_⟩
          rw [if_pos rfl, List.getElem?_append_right (by omega), hlen, Nat.sub_self] <;> rfl
        | succ j =>
          have e' : (wipeE ρ5 vs)[j]? = some (some u) := by simpa using e
          obtain ⟨e1, n⟩ := wipeE_at e'
          have jl : j < ρ5.length := (List.getElem?_eq_some_iff.mp e1).1
          rw [if_neg (by omega), Nat.add_sub_cancel]
          rw [List.getElem?_append_left jl, List.getElem?_append_left (by omega)]
          exact ⟨e1, by simpa using (k4 j n).symm⟩
      · obtain ⟨u, el⟩ := el
        have lt : ∀ m, m ≠ 0 → (∃ u, (some (Sl.own D (oLst D acc)) :: wipeE ρ5 vs)[m]? = some (some u)) → m - 1 < ρ5.length := fun m hm ⟨u, e⟩ => by
          have := (List.getElem?_eq_some_iff.mp e).1
          rw [List.length_cons, wipeE_length] at this
          omega
        by_cases j0 : j = 0
        · rw [if_pos j0, if_neg (by omega)]
          have := lt l (by omega) ⟨u, el⟩
          omega
        · rw [if_neg j0]
          have := lt j j0 ⟨_, ej⟩
          by_cases l0 : l = 0
          · rw [if_pos l0]; omega
          · rw [if_neg l0]; omega
    | true =>
      refine iteT ?_
      refine ⟨ρ5, _, p5, _, F5, S5, fun yv F6 H6 sl ρ6 f6 ⟨d', z, p6⟩ S6 => ?_⟩
      obtain ⟨F7, f7, S7⟩ := S6.frz z
      have U := back (((f4.trans f5).trans f6).trans f7) S7
      obtain ⟨w, e1, rfl, ws, hp, t⟩ := U.sl _ _ (at0 (some (.frz d') :: ρ6))
      refine ⟨ws, hp, by rw [t.length]; exact hz, F7, wipeE ρ6 vs, acc ++ [d'], ((((f2.trans g1).trans f4).trans f5).trans f6).trans f7, p6, ?_⟩
      have Wr := U.writeL (at0 (some (.frz d') :: ρ6)) (t.append (.one S7.headF))
      have hlen := S7.len
      rw [List.length_cons, List.length_cons] at hlen
      have il : (some (Sl.frz d') :: ρ6).length < ((some (Sl.frz d') :: ρ6) ++ rst (some (.own D (oLst D acc)) :: ρ2) fun k => k != 0).length := (List.getElem?_eq_some_iff.mp (at0 (some (.frz d') :: ρ6))).1
      refine Wr.sub (fun j => if j = 0 then ρ6.length + 1 else j) ?_ (fun j u e => ?_) (fun j l p A ne ej el => ?_)
      · have l5 : σ4.length = σ.length := by rw [l4, wipe_length]
        rw [List.length_cons, List.length_cons, wipe_length, wipeE_length]
        omega
      · cases j with
        | zero =>
          have e' : some (some (Sl.own D (oLst D (acc ++ [d'])))) = some (some u) := e
          cases e'
          rw [if_pos rfl]
          refine ⟨?_, ?_⟩
          · show (List.set _ (some (Sl.frz d') :: ρ6).length _)[(some (Sl.frz d') :: ρ6).length]? = _
            rw [List.getElem?_set_self il]
          · rw [List.getElem?_append_right (by rw [List.length_cons]; omega), List.length_cons]
            have : ρ6.length + 1 - (σ4.length + 1) = 0 := by omega
            rw [this] <;> rfl
        | succ j =>
          have e' : (wipeE ρ6 vs)[j]? = some (some u) := by simpa using e
          obtain ⟨e2, n⟩ := wipeE_at e'
          have jl : j < ρ6.length := (List.getElem?_eq_some_iff.mp e2).1
          rw [if_neg (by omega)]
          refine ⟨?_, ?_⟩
          · rw [List.getElem?_set_ne (by rw [List.length_cons]; omega), List.getElem?_append_left (by rw [List.length_cons]; omega)]
            simpa using e2
          · rw [List.getElem?_append_left (by rw [List.length_cons]; omega)]
            simpa using (k4 j n).symm
      · obtain ⟨u, el⟩ := el
        have lt : ∀ m, (∃ u, (some (Sl.own D (oLst D (acc ++ [d']))) :: wipeE ρ6 vs)[m]? = some (some u)) → m < ρ6.length + 1 := fun m ⟨u, e⟩ => by
          have := (List.getElem?_eq_some_iff.mp e).1
          rw [List.length_cons, wipeE_length] at this
          omega
        by_cases j0 : j = 0
        · rw [if_pos j0, if_neg (by omega)]
          have := lt l ⟨u, el⟩
          omega
        · rw [if_neg j0]
          have := lt j ⟨_, ej⟩
          by_cases l0 : l = 0
          · rw [if_pos l0]; omega
          · rw [if_neg l0]; omega
  · have e : i = ds.length := by omega
    subst e
    exact .inl ⟨Z.stop H2 (f2.trans S2.fh), q _ F2 H2 _ ρ2 (f1.trans f2) (fin acc ρ2 inv D) S2.unwiped⟩
/-- [elt for tg in iter if ..] -/
theorem de_lc (own : List (Str × Nat)) (h : DI X tg iter ρ fun ds ρ1 => LcOk X scope (own.map (·.2)) tg elt ifs ds ρ1 P) (hN : X.N.Nodup) (ok : BlkOk X.N X.env.scope scope own) (hc : X.calm = true := by rfl) (hs : ∀ x, foldedSetIterable iter X.env x = pure x := by intro _; rfl) :
    DE X (.ListComp elt [⟨tg, iter, ifs, 0⟩] scope pos) ρ P :=
  pe_imp (pe_lc hc hN h ok (fun s H C cl fp => pg_uc (vs := own.map (·.2)) s H C cl fp) (fun s H C cl fp => pt_uc s H C cl fp) (fun s H C cl fp => pe_uc s H C cl fp) hs) fun σ H Q q => lc_read q
/-- y = [elt for tg in iter if ..] -/
theorem ds_lc {D : Po} {y : Str} {py spos : Pos} (i : Nat) (own : List (Str × Nat)) (h : DI X tg iter ρ fun ds ρ1 => LcOk X scope (own.map (·.2)) tg elt ifs ds ρ1 fun s ρ2 => D.nx (ρ2.set i (some s))) (hN : X.N.Nodup) (ok : BlkOk X.N X.env.scope scope own) (hy : X.N[i]? = some y := by rfl) (hyl : X.env.scope.names.lookup y = some .local := by rfl)
    (hsw : swapsWith (.ListComp elt [⟨tg, iter, ifs, 0⟩] scope pos) (some (.Name y py)) spos.line X.env = pure true := by exact sw_true rfl rfl rfl (by decide +kernel)) (hc : X.calm = true := by rfl) (hs : ∀ x, foldedSetIterable iter X.env x = pure x := by intro _; rfl) :
    DS X (.Assign [.Name y py] (.ListComp elt [⟨tg, iter, ifs, 0⟩] scope pos) spos) ρ D :=
  ps_imp (ps_setLc hc hN hy hyl hsw h ok (fun s H C cl fp => pg_uc (vs := own.map (·.2)) s H C cl fp) (fun s H C cl fp => pt_uc s H C cl fp) (fun s H C cl fp => pe_uc s H C cl fp) hs) fun E σ H ⟨R, F, S, ok⟩ =>
    lc_read (P := fun s ρ2 => D.nx (ρ2.set i (some s))) ⟨R, F, S, fun v F' H' s ρ' f p S' => ok.nx _ F' H' _ f p S'.set⟩
end
end DL

set_option maxHeartbeats 2000000
/-! DL7: a def's body; the deck. -/
namespace DL
open PySem PySem.Spec PyProof.Rows L2

def Weak (A B : Own) : Prop := B.fp = A.fp ∧ ∀ K F H, A.rel K F H → B.rel K F H
theorem Weak.refl (A : Own) : Weak A A := ⟨rfl, fun _ _ _ h => h⟩
/-- the slots at a def's entry -/
def ent (ds : List PyData) (n : Nat) : Env := ds.map (fun d => some (Sl.frz d)) ++ List.replicate n none
section
variable {K : PySem.W.Frag} {R F H F' H' : Hp} {σ σ' : L2.St} {ρ ρ' : Env} {v : V} {s : Sl} {d : PyData}
theorem StD.none_ (h : StD K R F H σ ρ) : StD K R F H [] [] := h.sub (fun i => i) rfl (fun i u e => by cases e) (fun i j p A ne e => by cases e)
theorem StD.bare (h : StD K R F H σ ρ) (n : Nat) : StD K R F H (σ ++ List.replicate n none) (ρ ++ List.replicate n none) := by
  have hl := h.len
  refine h.sub (fun i => i) (by rw [List.length_append, List.length_append, hl, List.length_replicate, List.length_replicate]) (fun i u e => ?_) (fun i j p A ne _ _ => ne)
  by_cases q : i < ρ.length
  · rw [List.getElem?_append_left q] at e
    exact ⟨e, List.getElem?_append_left (by omega)⟩
  · rw [List.getElem?_append_right (by omega), List.getElem?_replicate] at e
    split at e <;> cases e
theorem StD.frzs (h : StD K R F H σ ρ) : ∀ {vs : List V} {ds : List PyData}, DpAll K F vs ds → StD K R F H (vs.map some ++ σ) (ds.map (fun d => some (Sl.frz d)) ++ ρ)
  | _, _, .nil => h
  | _, _, .cons r t => (StD.frzs h t).consF r
end
section
variable {P : Program} {w : World} {K : PySem.W.Frag} {mg : Str → Option Value} {base : Heap} {x qual : Str} {params : Arguments} {body : List Stmt} {scope : Scope} {f : Addr} {fd : FuncData} {N ps : List Str} {k : Nat} {ι : Type} {pre : ι → Prop} {args : ι → List PyData}
/-- THE RULE for a def that changes nothing -/
theorem fn_F {post : ι → Sl → Prop} (D : FunD K x qual params body scope [] [] f fd) (S : FnScope N ps scope) (hl : ∀ y, pre y → (args y).length = ps.length)
    (hb : ∀ (cdv : Value) (A : Around) (outer : List PySem.Env) (s : Shared) (H : Hp) (E : XK), Room k (A.deeper (envOfC qual scope s.heap.objs.size f cdv)) → ∀ y, pre y →
      DSs (cxOf CX0 P w K mg base N qual scope f cdv A outer s H E).nox body (ent (args y) (N.length - ps.length)) { nx := fun _ => post y (.frz .none), rt := fun s _ => post y s }) :
    FnOk P w K mg base CX0 (k + 1) f fd ps (spF K pre args post) := by
  refine D.ok S (fun vs H Q E h => ?_) (fun cdv A outer s H vs Q E hr h => ?_)
  · obtain ⟨y, R, F, py, _, t, _⟩ := h
    rw [t.length]; exact hl y py
  · obtain ⟨y, R, F, py, S0, t, q⟩ := h
    refine ⟨_, PSs.nox (hb cdv A outer s H E hr y py), R, F, ?_, fun σ' F' H' ρ' f p S' => q .non F' H' _ f p (S'.none_.consF .non), fun v σ' F' H' s ρ' f p S' => ?_, fun _ _ _ _ _ p => p.elim, fun _ _ _ _ _ p => p.elim⟩
    · have e : N.length - vs.length = N.length - ps.length := by rw [t.length, hl y py]
      have := (StD.frzs (S0.bare (N.length - ps.length)) t)
      unfold L2.start
      rw [e]
      exact this
    · exact q v F' H' s f p (S'.sub (fun i => i) rfl (fun i u e => by
        cases i with
        | zero => exact ⟨e, rfl⟩
        | succ i => cases e) (fun i j p A ne _ _ => ne))
/-- THE RULE for a def that takes an own thing first -/
theorem fn_K {A : ι → Addr → Own} {post : ι → Addr → Sl → Own → Prop} (D : FunD K x qual params body scope [] [] f fd) (S : FnScope N ps scope) (hl : ∀ y, pre y → (args y).length + 1 = ps.length)
    (hb : ∀ (cdv : Value) (Ar : Around) (outer : List PySem.Env) (s : Shared) (H : Hp) (E : XK), Room k (Ar.deeper (envOfC qual scope s.heap.objs.size f cdv)) → ∀ y p, pre y →
      DSs (cxOf CX0 P w K mg base N qual scope f cdv Ar outer s H E).nox body (some (.own p (A y p)) :: ent (args y) (N.length - ps.length))
        { nx := fun ρ' => ∃ B0 B, ρ'[0]? = some (some (.own p B0)) ∧ Weak B0 B ∧ post y p (.frz .none) B, rt := fun s ρ' => ∃ B0 B, ρ'[0]? = some (some (.own p B0)) ∧ Weak B0 B ∧ post y p s B }) :
    FnOk P w K mg base CX0 (k + 1) f fd ps (spK K pre A args post) := by
  refine D.ok S (fun vs H Q E h => ?_) (fun cdv Ar outer s H vs Q E hr h => ?_)
  · obtain ⟨y, R, F, p, ws, py, rfl, _, t, _⟩ := h
    rw [List.length_cons, t.length]; exact hl y py
  · obtain ⟨y, R, F, p, ws, py, rfl, S0, t, q⟩ := h
    have fin : ∀ {v : V} {σ' : L2.St} {F' H' : Hp} {s : Sl} {ρ' : Env}, Sub F F' → (∃ B0 B, ρ'[0]? = some (some (Sl.own p B0)) ∧ Weak B0 B ∧ post y p s B) → StD K R F' H' (some v :: σ') (some s :: ρ') → Q v H' := by
      intro v σ' F' H' s ρ' f ⟨B0, B, e0, wk, po⟩ S'
      obtain ⟨w0, e1, rfl, _⟩ := S'.sl 1 _ (by simpa using e0)
      have S2 := S'.weak (i := 1) (B := B) (by simpa using e0) wk.1 wk.2
      have l1 : 1 < (some s :: ρ').length := (List.getElem?_eq_some_iff.mp (show (some s :: ρ')[1]? = _ by simpa using e0)).1
      refine q v F' H' s B f po (S2.sub (fun i => i) rfl (fun i u e => ?_) (fun i j p A ne _ _ => ne))
      cases i with
      | zero => exact ⟨e, rfl⟩
      | succ i =>
        cases i with
        | zero =>
          have e' : some (some (Sl.own p B)) = some (some u) := e
          cases e'
          exact ⟨List.getElem?_set_self l1, e1.symm⟩
        | succ i => cases e
    refine ⟨_, PSs.nox (hb cdv Ar outer s H E hr y p py), R, F, ?_, fun σ' F' H' ρ' f p S' => fin f p (S'.consF .non), fun v σ' F' H' s ρ' f p S' => fin f p S', fun _ _ _ _ _ p => p.elim, fun _ _ _ _ _ p => p.elim⟩
    have e : N.length - (V.ref p :: ws).length = N.length - ps.length := by rw [List.length_cons, t.length, hl y py]
    have T := StD.frzs S0 t
    have T2 := T.bare (N.length - ps.length)
    unfold L2.start
    rw [e]
    have hlen := t.length
    refine T2.sub (fun j => if j = 0 then ws.length else if j < ws.length + 1 then j - 1 else j) (by simp [ent, hlen]) (fun j u ej => ?_) (fun j l p' A' ne ej el z => ?_)
    · cases j with
      | zero =>
        have e' : some (some (Sl.own p (A y p))) = some (some u) := ej
        cases e'
        rw [if_pos rfl]
        constructor
        · rw [List.getElem?_append_left (by simp [hlen]), List.getElem?_append_right (by simp [hlen])]
          simp [hlen]
        · rw [List.getElem?_append_left (by simp), List.getElem?_append_left (by simp), List.getElem?_append_right (by simp)]
          simp
      | succ j =>
        rw [if_neg (by omega)]
        have ej' : (ent (args y) (N.length - ps.length))[j]? = some (some u) := by simpa using ej
        unfold ent at ej'
        by_cases q2 : j < ws.length
        · rw [if_pos (by omega), Nat.add_sub_cancel]
          rw [List.getElem?_append_left (by rw [List.length_map]; omega)] at ej'
          constructor
          · rw [List.getElem?_append_left (by simp; omega), List.getElem?_append_left (by rw [List.length_map]; omega)]
            exact ej'
          · rw [List.getElem?_append_left (by simp; omega), List.getElem?_append_left (by simp; omega), List.getElem?_append_left (by simp; omega)]
            simp
        · rw [List.getElem?_append_right (by rw [List.length_map]; omega), List.getElem?_replicate] at ej'
          split at ej' <;> cases ej'
    · have lt : ∀ m, m ≠ 0 → (∃ u, (some (Sl.own p (A y p)) :: ent (args y) (N.length - ps.length))[m]? = some (some u)) → m < ws.length + 1 := fun m hm ⟨u, e⟩ => by
        obtain ⟨m, rfl⟩ : ∃ n, m = n + 1 := ⟨m - 1, by omega⟩
        have e' : (ent (args y) (N.length - ps.length))[m]? = some (some u) := by simpa using e
        unfold ent at e'
        by_cases q2 : m < ws.length
        · omega
        · rw [List.getElem?_append_right (by rw [List.length_map]; omega), List.getElem?_replicate] at e'
          split at e' <;> cases e'
      have z' : (if j = 0 then ws.length else if j < ws.length + 1 then j - 1 else j) = (if l = 0 then ws.length else if l < ws.length + 1 then l - 1 else l) := z
      by_cases j0 : j = 0
      · have l1 := lt l (by omega) el
        rw [if_pos j0, if_neg (by omega), if_pos l1] at z'
        omega
      · have j1 := lt j j0 ⟨_, ej⟩
        rw [if_neg j0, if_pos j1] at z'
        by_cases l0 : l = 0
        · rw [if_pos l0] at z'; omega
        · have l1 := lt l l0 el
          rw [if_neg l0, if_pos l1] at z'
          omega
end

/-! ### the deck: [digits, number, count], the count far from great -/
def oDeck (m : Nat) (p : Addr) : Own where
  fp := [p]
  rel := fun K F H => ∃ a b c : Int, H p = some (.lst [.int a, .int b, .int c]) ∧ 0 ≤ b ∧ b < 2147483579 ∧ 0 ≤ c ∧ c + (m : Int) ≤ 1000000000
  up := fun K F F' H e h => h
  loc := fun K F H H' e ⟨a, b, c, h, r⟩ => ⟨a, b, c, by rw [e p (by simp)]; exact h, r⟩
  al := fun K F H ⟨a, b, c, h, r⟩ x hx => by
    have q : x = p := by simpa using hx
    rw [q, h]; simp
theorem weak_deck {m n : Nat} {p : Addr} (h : n ≤ m) : Weak (oDeck m p) (oDeck n p) := ⟨rfl, fun K F H ⟨a, b, c, e, b0, b1, c0, c1⟩ => ⟨a, b, c, e, b0, b1, c0, by omega⟩⟩
theorem weak_lst {m : Nat} {p : Addr} {a b c : Int} (b0 : 0 ≤ b) (b1 : b < 2147483579) (c0 : 0 ≤ c) (c1 : c + (m : Int) ≤ 1000000000) : Weak (oLst p [.int a, .int b, .int c]) (oDeck m p) :=
  ⟨rfl, fun K F H ⟨vs, e, t⟩ => ⟨a, b, c, by
    cases t with
    | cons h1 t => cases h1; cases t with
      | cons h2 t => cases h2; cases t with
        | cons h3 t => cases h3; cases t; exact e, b0, b1, c0, c1⟩⟩
section
variable {X : Cx} {sts : List Stmt} {ρ : Env} {Q : Po}
/-- the deck is looked into -/
theorem dss_deck {m : Nat} {p : Addr} (i : Nat) (hi : ρ[i]? = some (some (.own p (oDeck m p)))) (h : ∀ a b c : Int, 0 ≤ b → b < 2147483579 → 0 ≤ c → c + (m : Int) ≤ 1000000000 → DSs X sts (ρ.set i (some (.own p (oLst p [.int a, .int b, .int c])))) Q) : DSs X sts ρ Q :=
  ⟨fun pins s σ H D I ⟨R, F, S, E⟩ => by
    obtain ⟨v, e, rfl, a, b, c, hp, b0, b1, c0, c1⟩ := S.sl i _ hi
    exact (h a b c b0 b1 c0 c1).run pins s σ H D I ⟨R, F, S.write (B := oLst p [.int a, .int b, .int c]) hi rfl (fun _ _ => rfl) ⟨_, hp, .cons (.int a) (.cons (.int b) (.cons (.int c) .nil))⟩, E⟩⟩
/-- an own thing is told by less -/
theorem dss_weak {p : Addr} {A B : Own} (i : Nat) (hi : ρ[i]? = some (some (.own p A))) (w : Weak A B) (h : DSs X sts (ρ.set i (some (.own p B))) Q) : DSs X sts ρ Q :=
  ⟨fun pins s σ H D I ⟨R, F, S, E⟩ => h.run pins s σ H D I ⟨R, F, S.weak hi w.1 w.2, E⟩⟩
end
end DL

set_option maxHeartbeats 2000000
/-! DL8: the names of built-ins, defs as they stand, short rules. -/
namespace DL
open PySem PySem.Spec PyProof.Rows L2

/-- the built-ins' names are the built-ins' -/
structure Txt (mg : Str → Option Value) : Prop where
  len : mg "len" = none
  range : mg "range" = none
  all : mg "all" = none
  any : mg "any" = none
  isi : mg "isinstance" = none
  int : mg "int" = none
  str : mg "str" = none
  bool : mg "bool" = none
  list : mg "list" = none
  tuple : mg "tuple" = none
  set : mg "set" = none
  sorted : mg "sorted" = none
  enum : mg "enumerate" = none
  zip : mg "zip" = none
  sum : mg "sum" = none
  max : mg "max" = none
  min : mg "min" = none
theorem bb_len : bootBuiltins "len" = some (.builtin "len") := by decide +kernel
theorem bb_all : bootBuiltins "all" = some (.builtin "all") := by decide +kernel
theorem bb_any : bootBuiltins "any" = some (.builtin "any") := by decide +kernel
theorem bb_sum : bootBuiltins "sum" = some (.builtin "sum") := by decide +kernel
theorem bb_max : bootBuiltins "max" = some (.builtin "max") := by decide +kernel
theorem bb_min : bootBuiltins "min" = some (.builtin "min") := by decide +kernel
theorem bb_sorted : bootBuiltins "sorted" = some (.builtin "sorted") := by decide +kernel
theorem bb_isi : bootBuiltins "isinstance" = some (.builtin "isinstance") := by decide +kernel
theorem bb_int : bootBuiltins "int" = some (.type "int") := by decide +kernel
theorem bb_str : bootBuiltins "str" = some (.type "str") := by decide +kernel
theorem bb_bool : bootBuiltins "bool" = some (.type "bool") := by decide +kernel
theorem bb_list : bootBuiltins "list" = some (.type "list") := by decide +kernel
theorem bb_tuple : bootBuiltins "tuple" = some (.type "tuple") := by decide +kernel
theorem bb_set : bootBuiltins "set" = some (.type "set") := by decide +kernel

/-- a def stands at a name -/
structure Has (P : Program) (w : World) (K : PySem.W.Frag) (mg : Str → Option Value) (base : Heap) (k : Nat) (x : Str) (sp : Sp) : Prop where
  ex : ∃ (f : Addr) (fd : FuncData) (ps : List Str), FnOk P w K mg base CX0 k f fd ps sp ∧ mg x = some (.ref f) ∧ PySem.W.keepIn K (.ref f) = true ∧ Binds K fd ps []
/-- a def's object, its name -/
structure Df (K : PySem.W.Frag) (mg : Str → Option Value) (x : Str) (st : Stmt) : Prop where
  ex : ∃ (f : Addr) (fd : FuncData), FunD K x x (defArgs st) (defBody st) (defScope st) [] [] f fd ∧ mg x = some (.ref f)
section
variable {P : Program} {w : World} {K : PySem.W.Frag} {mg : Str → Option Value} {base : Heap} {x : Str} {st : Stmt} {N ps : List Str} {k : Nat} {ι : Type} {pre : ι → Prop} {args : ι → List PyData}
theorem has_F {post : ι → Sl → Prop} (D : Df K mg x st) (S : FnScope N ps (defScope st)) (hl : ∀ y, pre y → (args y).length = ps.length)
    (hbind : ∀ (kV doc pm : Value) (an : Option Addr) (cdv ct : Value) (us : List Value), us.length = ps.length → bindArgs (PySem.W.fnOf x x (defArgs st) (defBody st) (defScope st) .none kV doc pm an cdv ct) ⟨us, []⟩ = pure (ps.zip us))
    (hb : ∀ (f : Addr) (cdv : Value) (A : Around) (outer : List PySem.Env) (s : Shared) (H : Hp) (E : XK), Room k (A.deeper (envOfC x (defScope st) s.heap.objs.size f cdv)) → ∀ y, pre y →
      DSs (cxOf CX0 P w K mg base N x (defScope st) f cdv A outer s H E).nox (defBody st) (ent (args y) (N.length - ps.length)) { nx := fun _ => post y (.frz .none), rt := fun s _ => post y s }) :
    Has P w K mg base (k + 1) x (spF K pre args post) := by
  obtain ⟨f, fd, F, hm⟩ := D.ex
  exact ⟨f, fd, ps, fn_F F S hl (hb f), hm, F.kp, F.bindsN hbind⟩
theorem has_K {A : ι → Addr → Own} {post : ι → Addr → Sl → Own → Prop} (D : Df K mg x st) (S : FnScope N ps (defScope st)) (hl : ∀ y, pre y → (args y).length + 1 = ps.length)
    (hbind : ∀ (kV doc pm : Value) (an : Option Addr) (cdv ct : Value) (us : List Value), us.length = ps.length → bindArgs (PySem.W.fnOf x x (defArgs st) (defBody st) (defScope st) .none kV doc pm an cdv ct) ⟨us, []⟩ = pure (ps.zip us))
    (hb : ∀ (f : Addr) (cdv : Value) (Ar : Around) (outer : List PySem.Env) (s : Shared) (H : Hp) (E : XK), Room k (Ar.deeper (envOfC x (defScope st) s.heap.objs.size f cdv)) → ∀ y p, pre y →
      DSs (cxOf CX0 P w K mg base N x (defScope st) f cdv Ar outer s H E).nox (defBody st) (some (.own p (A y p)) :: ent (args y) (N.length - ps.length))
        { nx := fun ρ' => ∃ B0 B, ρ'[0]? = some (some (.own p B0)) ∧ Weak B0 B ∧ post y p (.frz .none) B, rt := fun s ρ' => ∃ B0 B, ρ'[0]? = some (some (.own p B0)) ∧ Weak B0 B ∧ post y p s B }) :
    Has P w K mg base (k + 1) x (spK K pre A args post) := by
  obtain ⟨f, fd, F, hm⟩ := D.ex
  exact ⟨f, fd, ps, fn_K F S hl (hb f), hm, F.kp, F.bindsN hbind⟩
theorem Has.mono {sp : Sp} {j : Nat} (h : Has P w K mg base j x sp) (hj : j ≤ k) : Has P w K mg base k x sp := by
  obtain ⟨f, fd, ps, F, r⟩ := h.ex
  exact ⟨f, fd, ps, F.mono hj, r⟩
/-- a weaker promise -/
theorem Has.imp {sp sp' : Sp} (h : Has P w K mg base k x sp) (i : ∀ vs H Q E, sp' vs H Q E → sp vs H Q E) : Has P w K mg base k x sp' := by
  obtain ⟨f, fd, ps, F, r⟩ := h.ex
  exact ⟨f, fd, ps, F.imp i, r⟩
end
section
variable {X : Cx} {e a b c : Expr} {es : List Expr} {ρ : Env} {P P' : Sl → Env → Prop} {pos p0 p1 : Pos} {kk : Nat} {x : Str} {ι : Type} {pre : ι → Prop} {args : ι → List PyData} {post : ι → Sl → Prop}
/-- a call of a def that changes nothing -/
theorem de_callF (G : Has X.prog X.w X.K X.mg X.base kk x (spF X.K pre args post)) (hr : Room kk X.A)
    (h : DA X (e :: es) ρ fun ds ρ1 => ∃ y : ι, pre y ∧ args y = ds ∧ ∀ s, post y s → P s ρ1) (hg : Gl X x := by rfl) (hdb : (x == ("__debug__" : Str)) = false := by decide)
    (he : starEach (e :: es) X.env = (false, eval e X.env) :: starEach es X.env := by rfl) (hpl : (backTo pos (starEach es X.env)).any (·.1) = false := by rfl) : DE X (.Call (.Name x p0) (e :: es) [] pos) ρ P := by
  obtain ⟨f, fd, ps, F, hm, hk, hb⟩ := G.ex
  exact de_call F hr hm hk hb h hg hdb he hpl
theorem de_callD {A : ι → Addr → Own} {post : ι → Addr → Sl → Own → Prop} (i : Nat) {y : Str} {py : Pos} (G : Has X.prog X.w X.K X.mg X.base kk x (spK X.K pre A args post)) (hr : Room kk X.A)
    (h : DA X es ρ fun ds ρ1 => ∃ (z : ι) (p : Addr) (B0 : Own), pre z ∧ args z = ds ∧ ρ1[i]? = some (some (.own p B0)) ∧ Weak B0 (A z p) ∧ ∀ s B, post z p s B → P s (ρ1.set i (some (.own p B)))) (hi : ∃ p A, ρ[i]? = some (some (.own p A)) := by exact ⟨_, _, rfl⟩)
    (hg : Gl X x := by rfl) (hN : X.N[i]? = some y := by rfl) (hv : Vis X.env.scope y := by first | exact Or.inl rfl | exact Or.inr (Or.inl rfl) | exact Or.inr (Or.inr rfl)) (hd : (y == ("__debug__" : Str)) = false := by decide) (hcd : (y == ("__classdict__" : Str)) = false := by decide) (hdb : (x == ("__debug__" : Str)) = false := by decide)
    (he : starEach (.Name y py :: es) X.env = (false, eval (.Name y py) X.env) :: starEach es X.env := by rfl) (hpl : (backTo pos (starEach es X.env)).any (·.1) = false := by rfl) : DE X (.Call (.Name x p0) (.Name y py :: es) [] pos) ρ P := by
  obtain ⟨f, fd, ps, F, hm, hk, hb⟩ := G.ex
  refine de_callK i F hr hm hk hb (pa_imp h fun σ H Q ⟨R, F, S, q⟩ => ⟨R, F, S, fun vs F1 H1 ds ρ1 f1 ⟨z, p, B0, pz, ez, ei, wk, hp⟩ t S1 => ?_⟩) hi hg hN hv hd hcd hdb he hpl
  refine q vs F1 H1 ds (ρ1.set i (some (.own p (A z p)))) f1 ⟨z, p, pz, ez, List.getElem?_set_self (List.getElem?_eq_some_iff.mp ei).1, fun s B po => ?_⟩ t (S1.weak ei wk.1 wk.2)
  rw [List.set_set]
  exact hp s B po
variable {k : Outc → Prop} (T : Txt X.mg)
include T
theorem de_len (h : DA X [e] ρ fun ds ρ1 => CalD X (.builtin "len") ds fun o => o.post fun s => P s ρ1) (hg : Gl X "len" := by rfl) (he : starEach [e] X.env = (false, eval e X.env) :: starEach [] X.env := by rfl) (hpl : (backTo pos (starEach [] X.env)).any (·.1) = false := by rfl) : DE X (.Call (.Name "len" p0) [e] [] pos) ρ P :=
  de_cb h hg T.len bb_len (by decide) (by decide) he hpl
theorem de_all (h : DA X [e] ρ fun ds ρ1 => CalD X (.builtin "all") ds fun o => o.post fun s => P s ρ1) (hg : Gl X "all" := by rfl) (he : starEach [e] X.env = (false, eval e X.env) :: starEach [] X.env := by rfl) (hpl : (backTo pos (starEach [] X.env)).any (·.1) = false := by rfl) : DE X (.Call (.Name "all" p0) [e] [] pos) ρ P :=
  de_cb h hg T.all bb_all (by decide) (by decide) he hpl
theorem de_any (h : DA X [e] ρ fun ds ρ1 => CalD X (.builtin "any") ds fun o => o.post fun s => P s ρ1) (hg : Gl X "any" := by rfl) (he : starEach [e] X.env = (false, eval e X.env) :: starEach [] X.env := by rfl) (hpl : (backTo pos (starEach [] X.env)).any (·.1) = false := by rfl) : DE X (.Call (.Name "any" p0) [e] [] pos) ρ P :=
  de_cb h hg T.any bb_any (by decide) (by decide) he hpl
theorem de_toint (h : DA X [e] ρ fun ds ρ1 => CalD X (.type "int") ds fun o => o.post fun s => P s ρ1) (hg : Gl X "int" := by rfl) (he : starEach [e] X.env = (false, eval e X.env) :: starEach [] X.env := by rfl) (hpl : (backTo pos (starEach [] X.env)).any (·.1) = false := by rfl) : DE X (.Call (.Name "int" p0) [e] [] pos) ρ P :=
  de_ct h hg T.int bb_int (by decide) (by decide) he hpl
theorem de_tostr (h : DA X [e] ρ fun ds ρ1 => CalD X (.type "str") ds fun o => o.post fun s => P s ρ1) (hg : Gl X "str" := by rfl) (he : starEach [e] X.env = (false, eval e X.env) :: starEach [] X.env := by rfl) (hpl : (backTo pos (starEach [] X.env)).any (·.1) = false := by rfl) : DE X (.Call (.Name "str" p0) [e] [] pos) ρ P :=
  de_ct h hg T.str bb_str (by decide) (by decide) he hpl
theorem de_tolist (h : DA X [e] ρ fun ds ρ1 => CalD X (.type "list") ds fun o => o.post fun s => P s ρ1) (hg : Gl X "list" := by rfl) (he : starEach [e] X.env = (false, eval e X.env) :: starEach [] X.env := by rfl) (hpl : (backTo pos (starEach [] X.env)).any (·.1) = false := by rfl) : DE X (.Call (.Name "list" p0) [e] [] pos) ρ P :=
  de_ct h hg T.list bb_list (by decide) (by decide) he hpl
theorem de_totup (h : DA X [e] ρ fun ds ρ1 => CalD X (.type "tuple") ds fun o => o.post fun s => P s ρ1) (hg : Gl X "tuple" := by rfl) (he : starEach [e] X.env = (false, eval e X.env) :: starEach [] X.env := by rfl) (hpl : (backTo pos (starEach [] X.env)).any (·.1) = false := by rfl) : DE X (.Call (.Name "tuple" p0) [e] [] pos) ρ P :=
  de_ct h hg T.tuple bb_tuple (by decide) (by decide) he hpl
section
variable {xI : Pos} {pT pU pV : Pos} {j : Nat}
/-- isinstance(e, int) and its like: h : what follows; the types' names are free -/
theorem de_isi_int (h : DE X e ρ fun s ρ1 => isF s fun d => P (.frz (.bool (kInt d))) ρ1) (hg : Gl X "isinstance" := by rfl) (hg2 : Gl X "int" := by rfl)
    (he : starEach [e, .Name "int" pT] X.env = (false, eval e X.env) :: starEach [.Name "int" pT] X.env := by rfl) (he2 : starEach [.Name "int" pT] X.env = [(false, eval (.Name "int" pT) X.env)] := by rfl) (hpl : (backTo pos (starEach [.Name "int" pT] X.env)).any (·.1) = false := by rfl) : DE X (.Call (.Name "isinstance" xI) [e, .Name "int" pT] [] pos) ρ P :=
  de_isi ko_int h hg T.isi bb_isi hg2 T.int bb_int (by decide) (by decide) (by decide) (by decide) he he2 hpl
theorem de_isi_bool (h : DE X e ρ fun s ρ1 => isF s fun d => P (.frz (.bool (kBool d))) ρ1) (hg : Gl X "isinstance" := by rfl) (hg2 : Gl X "bool" := by rfl)
    (he : starEach [e, .Name "bool" pT] X.env = (false, eval e X.env) :: starEach [.Name "bool" pT] X.env := by rfl) (he2 : starEach [.Name "bool" pT] X.env = [(false, eval (.Name "bool" pT) X.env)] := by rfl) (hpl : (backTo pos (starEach [.Name "bool" pT] X.env)).any (·.1) = false := by rfl) : DE X (.Call (.Name "isinstance" xI) [e, .Name "bool" pT] [] pos) ρ P :=
  de_isi ko_bool h hg T.isi bb_isi hg2 T.bool bb_bool (by decide) (by decide) (by decide) (by decide) he he2 hpl
theorem de_isi_str (h : DE X e ρ fun s ρ1 => isF s fun d => P (.frz (.bool (kStr d))) ρ1) (hg : Gl X "isinstance" := by rfl) (hg2 : Gl X "str" := by rfl)
    (he : starEach [e, .Name "str" pT] X.env = (false, eval e X.env) :: starEach [.Name "str" pT] X.env := by rfl) (he2 : starEach [.Name "str" pT] X.env = [(false, eval (.Name "str" pT) X.env)] := by rfl) (hpl : (backTo pos (starEach [.Name "str" pT] X.env)).any (·.1) = false := by rfl) : DE X (.Call (.Name "isinstance" xI) [e, .Name "str" pT] [] pos) ρ P :=
  de_isi ko_str h hg T.isi bb_isi hg2 T.str bb_str (by decide) (by decide) (by decide) (by decide) he he2 hpl
theorem de_isi_list (h : DE X e ρ fun s ρ1 => isF s fun d => P (.frz (.bool (kList d))) ρ1) (hg : Gl X "isinstance" := by rfl) (hg2 : Gl X "list" := by rfl)
    (he : starEach [e, .Name "list" pT] X.env = (false, eval e X.env) :: starEach [.Name "list" pT] X.env := by rfl) (he2 : starEach [.Name "list" pT] X.env = [(false, eval (.Name "list" pT) X.env)] := by rfl) (hpl : (backTo pos (starEach [.Name "list" pT] X.env)).any (·.1) = false := by rfl) : DE X (.Call (.Name "isinstance" xI) [e, .Name "list" pT] [] pos) ρ P :=
  de_isi ko_list h hg T.isi bb_isi hg2 T.list bb_list (by decide) (by decide) (by decide) (by decide) he he2 hpl
theorem de_isi_tuple (h : DE X e ρ fun s ρ1 => isF s fun d => P (.frz (.bool (kTup d))) ρ1) (hg : Gl X "isinstance" := by rfl) (hg2 : Gl X "tuple" := by rfl)
    (he : starEach [e, .Name "tuple" pT] X.env = (false, eval e X.env) :: starEach [.Name "tuple" pT] X.env := by rfl) (he2 : starEach [.Name "tuple" pT] X.env = [(false, eval (.Name "tuple" pT) X.env)] := by rfl) (hpl : (backTo pos (starEach [.Name "tuple" pT] X.env)).any (·.1) = false := by rfl) : DE X (.Call (.Name "isinstance" xI) [e, .Name "tuple" pT] [] pos) ρ P :=
  de_isi ko_tuple h hg T.isi bb_isi hg2 T.tuple bb_tuple (by decide) (by decide) (by decide) (by decide) he he2 hpl
end
end
end DL

set_option maxHeartbeats 2000000
/-! DL9: comprehensions that map and filter; parallel stores; cuts. -/
namespace DL
open PySem PySem.Spec PyProof.Rows L2
section
variable {X : Cx} {tg iter elt c e a b : Expr} {ifs es : List Expr} {scope : Scope} {ρ ρ1 : Env} {P : Sl → Env → Prop} {pos : Pos} {PB : Bool → Env → Prop} {vs : List Nat} {ds : List PyData} {k : Outc → Prop}
theorem wipeE_wipeE (ρ : Env) (vs : List Nat) : wipeE (wipeE ρ vs) vs = wipeE ρ vs := by
  refine List.ext_getElem? fun i => ?_
  cases q : (wipeE ρ vs)[i]? with
  | none => rw [List.getElem?_eq_none_iff, wipeE_length]; rw [List.getElem?_eq_none_iff] at q; exact q
  | some o =>
    by_cases hi : i ∈ vs
    · have m : ∀ (σ : Env) {ws : List Nat}, i ∈ ws → i < σ.length → (wipeE σ ws)[i]? = some none := by
        intro σ ws
        induction ws with
        | nil => intro h; cases h
        | cons v ws ih =>
          intro h hl
          show ((wipeE σ ws).set v none)[i]? = some none
          by_cases z : v = i
          · subst z; rw [List.getElem?_set_self (by rw [wipeE_length]; exact hl)]
          · rw [List.getElem?_set_ne z]
            exact ih ((List.mem_cons.mp h).resolve_left fun y => z y.symm) hl
      have hl := (List.getElem?_eq_some_iff.mp q).1
      rw [m _ hi hl]
      rw [wipeE_length] at hl
      rw [m ρ hi hl] at q
      exact q
    · have o : ∀ (σ : Env) {ws : List Nat}, i ∉ ws → (wipeE σ ws)[i]? = σ[i]? := by
        intro σ ws
        induction ws with
        | nil => intro _; rfl
        | cons v ws ih =>
          intro h
          show ((wipeE σ ws).set v none)[i]? = σ[i]?
          rw [List.getElem?_set_ne (fun z => h (by rw [z]; exact List.mem_cons_self))]
          exact ih fun z => h (List.mem_cons_of_mem _ z)
      rw [o _ hi]
      exact q
/-- each item gives one thing -/
theorem lc_map {α : Type} {xs : List α} {f : α → PyData} (g : α → PyData) (hds : ds = xs.map f) (hz : xs.length < sizeLine)
    (step : ∀ (i : Nat) x, xs[i]? = some x → ∀ s H C cl fp, DG (Blk X scope s H C cl fp) vs tg (f x) (wipeE ρ1 vs) fun ρ3 => ∀ s H C cl fp, DTs (Blk X scope s H C cl fp) ifs ρ3 fun k ρ4 =>
      k = true ∧ ∀ s H C cl fp, DE (Blk X scope s H C cl fp) elt ρ4 fun sl ρ5 => isF sl fun d' => d' = g x ∧ wipeE ρ5 vs = wipeE ρ1 vs)
    (fin : ∀ p, P (.own p (oLst p (xs.map g))) (wipeE ρ1 vs)) : LcOk X scope vs tg elt ifs ds ρ1 P := by
  subst hds
  refine ⟨fun i acc ρ => acc = (xs.take i).map g ∧ ρ = wipeE ρ1 vs, ⟨by simp, rfl⟩, fun i d acc ρ2 hd ⟨ha, hρ⟩ => ?_, fun acc ρ2 ⟨ha, hρ⟩ p => ?_⟩
  · subst ha hρ
    rw [List.getElem?_map] at hd
    cases hx : xs[i]? with
    | none => rw [hx] at hd; cases hd
    | some x =>
      rw [hx] at hd
      cases hd
      have il : i < xs.length := (List.getElem?_eq_some_iff.mp hx).1
      refine ⟨by rw [List.length_map, List.length_take]; omega, fun s H C cl fp => pg_imp (step i x hx s H C cl fp) fun v σ H Q ⟨R, F, r, S, q⟩ => ⟨R, F, r, S, fun σ' F' H' ρ' f' p k l S' => q σ' F' H' ρ' f' (fun s H C cl fp => ⟨fun pins s1 σ1 H1 Q1 I ⟨R, F, S, q⟩ => (p s H C cl fp).run pins s1 σ1 H1 Q1 I ⟨R, F, S, fun c F' H' ρ' f' ⟨pc, pe⟩ S' => q c F' H' ρ' f' ?_ S'⟩⟩) k l S'⟩⟩
      subst pc
      refine iteT ?_
      exact fun s H C cl fp => de_mono (pe s H C cl fp) fun sl ρ5 ⟨d', z, hd', hw⟩ => ⟨d', z, by
        rw [List.take_succ, hx, List.map_append, hd']; rfl, hw⟩
  · subst ha hρ
    rw [List.length_map, List.take_length]
    exact fin p
/-- .. if it is asked for -/
theorem lc_filter {α : Type} {xs : List α} {f : α → PyData} (t : α → Bool) (g : α → PyData) (hds : ds = xs.map f) (hz : xs.length < sizeLine)
    (step : ∀ (i : Nat) x, xs[i]? = some x → ∀ s H C cl fp, DG (Blk X scope s H C cl fp) vs tg (f x) (wipeE ρ1 vs) fun ρ3 => ∀ s H C cl fp, DTs (Blk X scope s H C cl fp) ifs ρ3 fun k ρ4 =>
      k = t x ∧ (k = false → wipeE ρ4 vs = wipeE ρ1 vs) ∧ (k = true → ∀ s H C cl fp, DE (Blk X scope s H C cl fp) elt ρ4 fun sl ρ5 => isF sl fun d' => d' = g x ∧ wipeE ρ5 vs = wipeE ρ1 vs))
    (fin : ∀ p, P (.own p (oLst p ((xs.filter t).map g))) (wipeE ρ1 vs)) : LcOk X scope vs tg elt ifs ds ρ1 P := by
  subst hds
  refine ⟨fun i acc ρ => acc = ((xs.take i).filter t).map g ∧ ρ = wipeE ρ1 vs, ⟨by simp, rfl⟩, fun i d acc ρ2 hd ⟨ha, hρ⟩ => ?_, fun acc ρ2 ⟨ha, hρ⟩ p => ?_⟩
  · subst ha hρ
    rw [List.getElem?_map] at hd
    cases hx : xs[i]? with
    | none => rw [hx] at hd; cases hd
    | some x =>
      rw [hx] at hd
      cases hd
      have il : i < xs.length := (List.getElem?_eq_some_iff.mp hx).1
      have hle := List.length_filter_le t (xs.take i)
      rw [List.length_take] at hle
      refine ⟨by rw [List.length_map]; omega, fun s H C cl fp => pg_imp (step i x hx s H C cl fp) fun v σ H Q ⟨R, F, r, S, q⟩ => ⟨R, F, r, S, fun σ' F' H' ρ' f' p k l S' => q σ' F' H' ρ' f' (fun s H C cl fp => ⟨fun pins s1 σ1 H1 Q1 I ⟨R, F, S, q⟩ => (p s H C cl fp).run pins s1 σ1 H1 Q1 I ⟨R, F, S, fun c F' H' ρ' f' ⟨pc, pf, pe⟩ S' => q c F' H' ρ' f' ?_ S'⟩⟩) k l S'⟩⟩
      cases c with
      | true =>
        refine iteT ?_
        exact fun s H C cl fp => de_mono (pe rfl s H C cl fp) fun sl ρ5 ⟨d', z, hd', hw⟩ => ⟨d', z, by
          rw [List.take_succ, hx, List.filter_append, List.map_append, hd']
          show _ = _ ++ ([x].filter t).map g
          rw [List.filter_cons, if_pos pc.symm]
          rfl, hw⟩
      | false =>
        refine iteF ?_
        refine ⟨?_, pf rfl⟩
        rw [List.take_succ, hx, List.filter_append, List.map_append]
        show _ = _ ++ ([x].filter t).map g
        rw [List.filter_cons, if_neg (by rw [← pc]; exact Bool.false_ne_true)]
        simp
  · subst ha hρ
    rw [List.length_map, List.take_length]
    exact fin p

/-! ### built-ins over what a comprehension has made -/
theorem cl_allM {α : Type} {xs : List α} {f : α → Bool} (h : k (.val (.bool (xs.all f)))) (hc : X.calm = true := by rfl) : CalD X (.builtin "all") [.list (xs.map fun x => PyData.bool (f x))] k := by
  have e : (xs.map fun x => PyData.bool (f x)) = (xs.map f).map PyData.bool := by rw [List.map_map] <;> rfl
  rw [e]
  refine cl_all hc ?_
  have e2 : (xs.map f).all id = xs.all f := by rw [List.all_map] <;> rfl
  rw [e2]; exact h
theorem cl_anyM {α : Type} {xs : List α} {f : α → Bool} (h : k (.val (.bool (xs.any f)))) (hc : X.calm = true := by rfl) : CalD X (.builtin "any") [.list (xs.map fun x => PyData.bool (f x))] k := by
  have e : (xs.map fun x => PyData.bool (f x)) = (xs.map f).map PyData.bool := by rw [List.map_map] <;> rfl
  rw [e]
  refine cl_any hc ?_
  have e2 : (xs.map f).any id = xs.any f := by rw [List.any_map] <;> rfl
  rw [e2]; exact h
theorem ml_joinM {α : Type} {x : Str} {xs : List α} {f : α → Str} (hz : ((xs.map f).map (·.length)).sum + (xs.map f).length * x.length ≤ 16777216) (h : k (.val (.str (Txt.join x (xs.map f))))) : MetD X "str.join" (.str x) [.list (xs.map fun x => PyData.str (f x))] k := by
  have e : (xs.map fun x => PyData.str (f x)) = (xs.map f).map PyData.str := by rw [List.map_map] <;> rfl
  rw [e]
  exact ml_join hz h

/-! ### cuts -/
/-- a test that changes nothing and gives k -/
theorem dt_eq (k : Bool) (h : DT X c ρ fun b ρ' => b = k ∧ ρ' = ρ) (h2 : PB k ρ) : DT X c ρ PB := dt_mono h fun b ρ' ⟨h1, h3⟩ => by rw [h1, h3]; exact h2
theorem de_eq (d : PyData) (h : DE X e ρ fun s ρ' => s = .frz d ∧ ρ' = ρ) (h2 : P (.frz d) ρ) : DE X e ρ P := de_mono h fun b ρ' ⟨h1, h3⟩ => by rw [h1, h3]; exact h2
/-- a loop over what is known as xs, each turn from a state by xs's first part -/
theorem ds_forM {α : Type} {body : List Stmt} {Q : Po} {vs : List Nat} (h : DI X tg iter ρ fun ds ρ1 => ∃ (xs : List α) (f : α → PyData) (I : Nat → Env → Prop), ds = xs.map f ∧ I 0 ρ1 ∧
      (∀ (i : Nat) x ρ2, xs[i]? = some x → I i ρ2 → DG X vs tg (f x) ρ2 fun ρ3 => DSs X body ρ3 { nx := I (i + 1), rt := Q.rt, bk := Q.nx, ct := I (i + 1) }) ∧ ∀ ρ2, I xs.length ρ2 → Q.nx ρ2)
    (hp : PassesOwn (model X.prog X.w) X.A X.env X.xe := by exact PassesOwn.never) (hc : X.calm = true := by rfl) (hs : ∀ x, foldedSetIterable iter X.env x = pure x := by intro _; rfl) : DS X (.For tg iter body [] pos) ρ Q := by
  refine ds_for (vs := vs) (pi_imp h fun σ H Rr ⟨R, F, S, q⟩ => ⟨R, F, S, fun J F' H' ds ρ' f' ⟨xs, f, I, e, i0, st, fin⟩ S' Z => q J F' H' ds ρ' f' ⟨I, i0, fun i d ρ2 hd hI => ?_, by rw [e, List.length_map]; exact fin⟩ S' Z⟩) hp hc hs
  rw [e, List.getElem?_map] at hd
  cases hx : xs[i]? with
  | none => rw [hx] at hd; cases hd
  | some x => rw [hx] at hd; cases hd; exact st i x ρ2 hx hI

/-! ### things side by side -/
variable {PBs : List Sl → Env → Prop}
theorem db_nil (h : PBs [] ρ) : DB X [] ρ PBs := pa_imp pa_nil fun σ H Q ⟨R, F, S, q⟩ => q [] F H [] ρ (Sub.refl F) h rfl S
theorem db_cons (h : DE X e ρ fun s ρ1 => DB X es ρ1 fun ss ρ2 => PBs (s :: ss) ρ2) (hs : starEach (e :: es) X.env = (false, eval e X.env) :: starEach es X.env := by rfl) : DB X (e :: es) ρ PBs :=
  pa_imp (pa_cons h pb_u hs) fun σ H Q ⟨R, F, S, q⟩ => ⟨R, F, S, fun v F1 H1 s1 ρ1 f1 hb S1 => by
    have T := S1.frame fun k => k != 0
    have T2 : StD X.K (mv R H1 (some s1 :: ρ1) fun k => k != 0) F1 H1 σ ρ1 := T.sub (fun i => i + 1) (by have := S1.len; rw [List.length_cons, List.length_cons] at this; omega) (fun i u e => by
        refine ⟨?_, by simp⟩
        cases u with
        | frz d => exact lft_frz (by simpa using e)
        | own p A => exact lft_own (by simpa using e) (by simp)) (fun i j p A ne _ _ z => ne (by omega))
    refine ⟨ρ1, _, hb, _, F1, T2, fun vs F2 H2 ss ρ2 f2 p2 l2 S2 => ?_⟩
    have U := S1.unframe S2 f2
    have hl := S2.len
    have hl2 : vs.length + σ.length = ss.length + ρ2.length := by simpa using hl
    refine q (v :: vs) F2 H2 (s1 :: ss) ρ2 (f1.trans f2) p2 (by rw [List.length_cons, List.length_cons, l2]) ?_
    refine U.sub (fun j => if j = 0 then (ss.map some ++ ρ2).length else j - 1) (by simp; omega) (fun j u ej => ?_) (fun j l p A ne ej el => ?_)
    · cases j with
      | zero =>
        have e' : some (some s1) = some (some u) := ej
        cases e'
        rw [if_pos rfl]
        constructor
        · rw [List.getElem?_append_right (Nat.le_refl _), Nat.sub_self]
          cases s1 with
          | frz d => exact rst_frz (by rfl)
          | own p A => exact rst_own (by rfl) rfl
        · have e3 : (ss.map some ++ ρ2).length = (vs.map some ++ σ).length := hl.symm
          rw [e3]
          have e4 : (vs.map some ++ σ ++ some v :: σ)[(vs.map some ++ σ).length]? = some (some v) := by rw [List.getElem?_append_right (Nat.le_refl _), Nat.sub_self] <;> rfl
          rw [e4] <;> rfl
      | succ j =>
        have e' : (ss.map some ++ ρ2)[j]? = some (some u) := by simpa using ej
        have jl := (List.getElem?_eq_some_iff.mp e').1
        rw [if_neg (by omega), Nat.add_sub_cancel]
        constructor
        · rw [List.getElem?_append_left jl]; exact e'
        · have e4 : (vs.map some ++ σ ++ some v :: σ)[j]? = (vs.map some ++ σ)[j]? := List.getElem?_append_left (by rw [hl]; exact jl)
          rw [e4]; simp
    · have lt : ∀ m, m ≠ 0 → (∃ u, ((s1 :: ss).map some ++ ρ2)[m]? = some (some u)) → m - 1 < (ss.map some ++ ρ2).length := fun m hm ⟨u, e⟩ => by
        have := (List.getElem?_eq_some_iff.mp e).1
        simp at this ⊢
        omega
      by_cases j0 : j = 0
      · rw [if_pos j0, if_neg (by omega)]
        have := lt l (by omega) el
        omega
      · rw [if_neg j0]
        have := lt j j0 ⟨_, ej⟩
        by_cases l0 : l = 0
        · rw [if_pos l0]; omega
        · rw [if_neg l0]; omega⟩
/-- a, b = x, y with plain local names -/
theorem ds_par2 {Q : Po} {x y : Str} {px py pt : Pos} {kt k2 pt2} (i j : Nat) (h : DB X [a, b] ρ fun ss ρ1 => ∃ s t, ss = [s, t] ∧ Q.nx ((ρ1.set i (some s)).set j (some t))) (hN : X.N.Nodup) (hi : X.N[i]? = some x := by rfl) (hj : X.N[j]? = some y := by rfl) (hij : i ≠ j := by decide)
    (hx : X.env.scope.names.lookup x = some .local := by rfl) (hy : X.env.scope.names.lookup y = some .local := by rfl) (hc : X.calm = true := by rfl)
    (hw : swappedStores [.Tuple [.Name x px, .Name y py] kt pt] (.Tuple [a, b] k2 pt2) X.env = pure (some [x, y]) := by rfl)
    (hs : swapsWithSole [.Tuple [.Name x px, .Name y py] kt pt] (.Tuple [a, b] k2 pt2) pos.line X.env = pure false := by rfl) : DS X (.Assign [.Tuple [.Name x px, .Name y py] kt pt] (.Tuple [a, b] k2 pt2) pos) ρ Q :=
  ps_imp (ps_par hc hN hi hj hij hx hy h hw hs) fun D σ H ⟨R, F, S, E⟩ => ⟨R, F, S, fun vs F1 H1 ss ρ1 f1 ⟨s, t, es, p⟩ l S1 => by
    subst es
    match vs, l with
    | [v, w], _ =>
      refine ⟨v, w, rfl, E.nx _ F1 H1 _ f1 p ?_⟩
      have S2 : StD X.K R F1 H1 (some v :: (some w :: σ)) (some s :: (some t :: ρ1)) := S1
      have S3 := S2.set (i := i + 1)
      have S4 : StD X.K R F1 H1 (some w :: σ.set i (some v)) (some t :: ρ1.set i (some s)) := S3
      exact S4.set (i := j)⟩
theorem ds_par3 {Q : Po} {x y z : Str} {px py pz pt : Pos} {kt k2 pt2} (i j l : Nat) (h : DB X [a, b, c] ρ fun ss ρ1 => ∃ s t u, ss = [s, t, u] ∧ Q.nx (((ρ1.set i (some s)).set j (some t)).set l (some u))) (hN : X.N.Nodup) (hi : X.N[i]? = some x := by rfl) (hj : X.N[j]? = some y := by rfl) (hl : X.N[l]? = some z := by rfl) (hij : i ≠ j := by decide) (hil : i ≠ l := by decide) (hjl : j ≠ l := by decide)
    (hx : X.env.scope.names.lookup x = some .local := by rfl) (hy : X.env.scope.names.lookup y = some .local := by rfl) (hz : X.env.scope.names.lookup z = some .local := by rfl) (hc : X.calm = true := by rfl)
    (hw : swappedStores [.Tuple [.Name x px, .Name y py, .Name z pz] kt pt] (.Tuple [a, b, c] k2 pt2) X.env = pure (some [x, y, z]) := by rfl)
    (hs : swapsWithSole [.Tuple [.Name x px, .Name y py, .Name z pz] kt pt] (.Tuple [a, b, c] k2 pt2) pos.line X.env = pure false := by rfl) : DS X (.Assign [.Tuple [.Name x px, .Name y py, .Name z pz] kt pt] (.Tuple [a, b, c] k2 pt2) pos) ρ Q :=
  ps_imp (ps_par3 hc hN hi hj hl hij hil hjl hx hy hz h hw hs) fun D σ H ⟨R, F, S, E⟩ => ⟨R, F, S, fun vs F1 H1 ss ρ1 f1 ⟨s, t, u, es, p⟩ ll S1 => by
    subst es
    match vs, ll with
    | [v, w, r], _ =>
      refine ⟨v, w, r, rfl, E.nx _ F1 H1 _ f1 p ?_⟩
      have S2 : StD X.K R F1 H1 (some v :: (some w :: (some r :: σ))) (some s :: (some t :: (some u :: ρ1))) := S1
      have S3 : StD X.K R F1 H1 (some w :: (some r :: σ.set i (some v))) (some t :: (some u :: ρ1.set i (some s))) := S2.set (i := i + 2)
      have S4 : StD X.K R F1 H1 (some r :: (σ.set i (some v)).set j (some w)) (some u :: (ρ1.set i (some s)).set j (some t)) := S3.set (i := j + 1)
      exact S4.set (i := l)⟩
end

/-! ### the module's constants -/
structure Con (K : PySem.W.Frag) (mg : Str → Option Value) (x : Str) (d : PyData) : Prop where
  ex : ∃ v u, mg x = some u ∧ RelV v u ∧ ∀ F, Dp K F v d
theorem de_con {X : Cx} {x : Str} {d : PyData} {ρ : Env} {P : Sl → Env → Prop} {pos : Pos} (C : Con X.K X.mg x d) (h : P (.frz d) ρ) (hg : Gl X x := by rfl) (hd : (x == ("__debug__" : Str)) = false := by decide) : DE X (.Name x pos) ρ P := by
  obtain ⟨v, u, hm, r, rd⟩ := C.ex
  exact de_glob hg hm r rd h hd
theorem Con.int {K : PySem.W.Frag} {mg : Str → Option Value} {x : Str} {i : Int} (h : ∃ t, mg x = some (.int i t)) : Con K mg x (.int i) := by
  obtain ⟨t, e⟩ := h
  exact ⟨.int i, _, e, ⟨t, rfl⟩, fun _ => .int i⟩
theorem Con.str {K : PySem.W.Frag} {mg : Str → Option Value} {x z : Str} (h : ∃ t, mg x = some (.str z t)) : Con K mg x (.str z) := by
  obtain ⟨t, e⟩ := h
  exact ⟨.str z, _, e, ⟨t, rfl⟩, fun _ => .str z⟩

/-! ### and, or, chains that change nothing, as one truth value -/
section
variable {X : Cx} {e a b c : Expr} {rest : List Expr} {ρ : Env} {P : Sl → Env → Prop} {PB : Bool → Env → Prop} {pos : Pos}
theorem de_andP (h : DE X a ρ fun s ρ1 => ∃ k, s = .frz (.bool k) ∧ ∃ k2, (k = true → DE X (.BoolOp .And (b :: rest) pos) ρ1 fun s ρ2 => s = .frz (.bool k2) ∧ ρ2 = ρ1) ∧ P (.frz (.bool (k && k2))) ρ1) : DE X (.BoolOp .And (a :: b :: rest) pos) ρ P :=
  de_and (de_mono h fun s ρ1 ⟨k, hs, k2, h2, p⟩ => ⟨k, hs, by
    cases k with
    | true => exact iteT (de_mono (h2 rfl) fun s ρ2 ⟨e1, e2⟩ => by rw [e1, e2]; exact p)
    | false => exact iteF p⟩)
theorem de_orP (h : DE X a ρ fun s ρ1 => ∃ k, s = .frz (.bool k) ∧ ∃ k2, (k = false → DE X (.BoolOp .Or (b :: rest) pos) ρ1 fun s ρ2 => s = .frz (.bool k2) ∧ ρ2 = ρ1) ∧ P (.frz (.bool (k || k2))) ρ1) : DE X (.BoolOp .Or (a :: b :: rest) pos) ρ P :=
  de_or (de_mono h fun s ρ1 ⟨k, hs, k2, h2, p⟩ => ⟨k, hs, by
    cases k with
    | true => exact iteT p
    | false => exact iteF (de_mono (h2 rfl) fun s ρ2 ⟨e1, e2⟩ => by rw [e1, e2]; exact p)⟩)
theorem dw_mono {PB' : Bool → Env → Prop} (h : DW X e ρ PB) (k : ∀ s ρ', PB s ρ' → PB' s ρ') : DW X e ρ PB' := pw_imp h fun σ H Q ⟨R, F, S, q⟩ => ⟨R, F, S, fun b F' H' ρ' f p S' => q b F' H' ρ' f (k b ρ' p) S'⟩
theorem dw_andP (h : DT X a ρ fun k ρ1 => ∃ k2, (k = true → DW X (.BoolOp .And (b :: rest) pos) ρ1 fun s ρ2 => s = k2 ∧ ρ2 = ρ1) ∧ PB (k && k2) ρ1) : DW X (.BoolOp .And (a :: b :: rest) pos) ρ PB :=
  dw_and (dt_mono h fun k ρ1 ⟨k2, h2, p⟩ => by
    cases k with
    | true => exact iteT (dw_mono (h2 rfl) fun s ρ2 ⟨e1, e2⟩ => by rw [e1, e2]; exact p)
    | false => exact iteF p)
theorem dw_orP (h : DT X a ρ fun k ρ1 => ∃ k2, (k = false → DW X (.BoolOp .Or (b :: rest) pos) ρ1 fun s ρ2 => s = k2 ∧ ρ2 = ρ1) ∧ PB (k || k2) ρ1) : DW X (.BoolOp .Or (a :: b :: rest) pos) ρ PB :=
  dw_or (dt_mono h fun k ρ1 ⟨k2, h2, p⟩ => by
    cases k with
    | true => exact iteT p
    | false => exact iteF (dw_mono (h2 rfl) fun s ρ2 ⟨e1, e2⟩ => by rw [e1, e2]; exact p))
theorem cmp_mono {op : CmpOp} {d e : PyData} {k k' : Bool → Prop} (h : CmpD X op d e k) (i : ∀ b, k b → k' b) : CmpD X op d e k' := by
  obtain ⟨r, hr, b, ho, hk⟩ := h
  exact ⟨r, hr, b, ho, i b hk⟩
theorem isF_mono {s : Sl} {k k' : PyData → Prop} (h : isF s k) (i : ∀ d, k d → k' d) : isF s k' := by
  obtain ⟨d, z, hk⟩ := h
  exact ⟨d, z, i d hk⟩
theorem de_chainP {op op' : CmpOp} (ha : DE X a ρ fun s1 ρ1 => isF s1 fun d1 => DE X b ρ1 fun s2 ρ2 => isF s2 fun d2 => CmpD X op d1 d2 fun k1 => ∃ k2, (k1 = true → DE X c ρ2 fun s3 ρ3 => isF s3 fun d3 => CmpD X op' d2 d3 fun k => k = k2 ∧ ρ3 = ρ2) ∧ P (.frz (.bool (k1 && k2))) ρ2)
    (hm : lastMarks [op, op'] [b, c] = false := by with_unfolding_all rfl) : DE X (.Compare a [op, op'] [b, c] pos) ρ P :=
  de_chain (de_mono ha fun s1 ρ1 h1 => isF_mono h1 fun d1 h2 => de_mono h2 fun s2 ρ2 h3 => isF_mono h3 fun d2 h4 => cmp_mono h4 fun k1 ⟨k2, h5, p⟩ => by
    cases k1 with
    | true => exact iteT (de_mono (h5 rfl) fun s3 ρ3 h6 => isF_mono h6 fun d3 h7 => cmp_mono h7 fun k ⟨e1, e2⟩ => by rw [e1, e2]; exact p)
    | false => exact iteF p) hm
theorem dt_chainP {op op' : CmpOp} (ha : DE X a ρ fun s1 ρ1 => isF s1 fun d1 => DE X b ρ1 fun s2 ρ2 => isF s2 fun d2 => CmpD X op d1 d2 fun k1 => ∃ k2, (k1 = true → DE X c ρ2 fun s3 ρ3 => isF s3 fun d3 => CmpD X op' d2 d3 fun k => k = k2 ∧ ρ3 = ρ2) ∧ PB (k1 && k2) ρ2)
    (hm : lastMarks [op, op'] [b, c] = false := by with_unfolding_all rfl) : DT X (.Compare a [op, op'] [b, c] pos) ρ PB :=
  dt_chain (de_mono ha fun s1 ρ1 h1 => isF_mono h1 fun d1 h2 => de_mono h2 fun s2 ρ2 h3 => isF_mono h3 fun d2 h4 => cmp_mono h4 fun k1 ⟨k2, h5, p⟩ => by
    cases k1 with
    | true => exact iteT (de_mono (h5 rfl) fun s3 ρ3 h6 => isF_mono h6 fun d3 h7 => cmp_mono h7 fun k ⟨e1, e2⟩ => by rw [e1, e2]; exact p)
    | false => exact iteF p) hm
end

theorem atI_zero {α : Type} (x : α) (xs : List α) : atI (x :: xs) 0 = some x := atI_nat (j := 0) rfl
theorem ixN_nat {n j : Nat} (h : j < n) : ixN n (j : Int) = some j := by
  unfold ixN
  rw [if_pos (by omega), if_pos (by omega)]; simp
end DL

set_option maxHeartbeats 2000000
/-! DL10: enumerate of a tuple. -/
namespace PySem
open Sem (wp)
open AutoSeq1 (wpAny_loadPart')
theorem meets_enumerate_newU (l : Addr) (items : Array Value) (n : Nat) (dct : Option Addr) (sl : Array (Option Value)) :
    Meets (Builtin.«enumerate.__new__» ⟨[.type "enumerate", .ref l], []⟩) (fun _ R s => s.heap.get? l = some { cls := .type "tuple", dict := dct, data := .seq items n, slots := sl } ∧
      R (.ok (.ret (.ref (s.heap.push { cls := .type "tuple_iterator", data := .fields #[.ref l, .int 0 0] }).objs.size)))
        { s with heap := (s.heap.push { cls := .type "tuple_iterator", data := .fields #[.ref l, .int 0 0] }).push { cls := .type "enumerate", data := .fields #[.none, .bool false, .ref s.heap.objs.size, rawInt 0, .none, .none] } }) :=
  .of_wp fun prog w A R s h => by
    obtain ⟨hp, g, d, tk, os⟩ := s; obtain ⟨hl, h⟩ := h
    have hsub := sub_enumerate
    have hL : Heap.IsTuple (Shared.heap ⟨hp, g, d, tk, os⟩) l items := ⟨_, hl, rfl, n, rfl⟩
    wp_walk using wpAny_loadPart' hl
    refine wpAny_stack_any fun st => wpAny_pure ?_
    split
    · rename_i c _ _ _ _ _
      cases (c == Value.type "enumerate")
      · wp_walk using wpAny_loadPart' hl, wpAny_pyIter_tuple hL
        exact ⟨_, rfl, h⟩
      · wp_walk using wpAny_loadPart' hl, wpAny_pyIter_tuple hL
        exact ⟨_, rfl, h⟩
    · wp_walk using wpAny_loadPart' hl, wpAny_pyIter_tuple hL
      exact ⟨_, rfl, h⟩
section
variable {prog : Program} {w : World} {A : Around} {E : Value → Shared → Prop} {s : Shared}
theorem call_enumerate_tup {l : Addr} {items : Array Value} {Q : Value → Shared → Prop} (hL : s.heap.IsTuple l items)
    (h : ∀ h', IsEnum h' (s.heap.objs.size + 1) s.heap.objs.size 0 .none → h'.IsTupleIter s.heap.objs.size l 0 → h'.objs.size = s.heap.objs.size + 2 →
      (∀ b o, s.heap.get? b = some o → h'.get? b = some o) → Q (.ref (s.heap.objs.size + 1)) { s with heap := h' }) :
    wpAny (model prog w) A (call (.type "enumerate") [.ref l]) Q E s := by
  obtain ⟨⟨c, dct, dt, sl⟩, hl, hc, n, hd⟩ := hL
  replace hc : c = .type "tuple" := hc
  replace hd : dt = .seq items n := hd
  subst hc hd
  refine callType_new F.called_enumerate (by decide) (F.typeCall_enumerate_1 _) (F.newCall_enumerate_1 _) (fun obj => F.args_object_init_2 obj _) F.entry_enumerate_new
    (meets_enumerate_newU l items n dct sl) ⟨hl, ?_⟩
  have hz : (s.heap.push { cls := .type "tuple_iterator", data := .fields #[.ref l, .int 0 0] }).objs.size = s.heap.objs.size + 1 := Heap.size_push ..
  show _ ∧ _
  rw [hz]
  have he : IsEnum ((s.heap.push { cls := .type "tuple_iterator", data := .fields #[.ref l, .int 0 0] }).push
      { cls := .type "enumerate", data := .fields #[.none, .bool false, .ref s.heap.objs.size, rawInt 0, .none, .none] }) (s.heap.objs.size + 1) s.heap.objs.size 0 .none := by
    have := Heap.get?_push_size (s.heap.push { cls := .type "tuple_iterator", data := .fields #[.ref l, .int 0 0] })
      (o := { cls := .type "enumerate", data := .fields #[.none, .bool false, .ref s.heap.objs.size, rawInt 0, .none, .none] }) rfl
    rw [hz] at this; exact this
  refine ⟨⟨_, he, rfl⟩, h _ he ⟨_, Heap.get?_push_of_some _ (Heap.get?_push_size _ rfl), rfl, rfl⟩ (by rw [Heap.size_push, hz]) fun b o x => Heap.get?_push_of_some _ (Heap.get?_push_of_some _ x)⟩
end
end PySem
namespace DL
open PySem PySem.Spec PyProof.Rows L2
def IteU (K : PySem.W.Frag) (a : Addr) : It :=
  ⟨fun i H => ∃ (xs : List V) (x : V), SqT K H a xs ∧ xs[i]? = some x, fun i H v H' => ∃ T x, v = .ref T ∧ H T = none ∧ H' = upd H T (.tup [.int (i : Nat), x]) ∧ ∀ xs, SqT K H a xs → xs[i]? = some x, fun i H => ∃ xs : List V, SqT K H a xs ∧ xs.length = i⟩
theorem turn_enumU {P : Program} {w : World} {K : PySem.W.Frag} {elts : List Expr} {kk : Nat} {tpos : Pos} (a e it : Addr) :
    Turn P w K (.Tuple elts kk tpos) (IteU K a) [e, it] e (fun i h => (∃ old, IsEnum h e it ((i : Nat) : Int) old) ∧ h.IsTupleIter it a i ∧ e ≠ it) where
  mem := by simp
  obj := fun i h st b hb => by
    obtain ⟨⟨old, he⟩, ⟨o, ho, hc, hd⟩, _⟩ := st
    have e' : b = e ∨ b = it := by simpa using hb
    rcases e' with z | z
    · rw [z]; exact ⟨_, he, fun v q => nomatch q⟩
    · rw [z]; exact ⟨o, ho, fun v q => by rw [hd] at q; cases q⟩
  keep := fun i h h' st k => let ⟨⟨old, he⟩, hi, hne⟩ := st; ⟨⟨old, k e (by simp) _ he⟩, hi.at fun o q => k it (by simp) o q, hne⟩
  item := by
    intro X hP hw hK hc i pins s σ H E I hf st hg
    subst hP hw hK
    obtain ⟨⟨old, he⟩, hit, hne⟩ := st
    obtain ⟨xs, x, hq, hx⟩ := hg
    obtain ⟨its, rv, p, hz⟩ := I.tuple hq
    obtain ⟨u, hu, ru⟩ := rv.get hx
    have p2 : s.heap.IsTuple a its.toArray := p
    obtain ⟨oa, hoa, hca, na, hda⟩ := id p2
    have hae : a ≠ e := fun z => by
      subst z
      rw [he] at hoa
      cases hoa
      exact absurd (Value.type.inj hca) (by decide)
    have hai : a ≠ it := fun z => by
      subst z
      obtain ⟨o, ho, hc2, hd2⟩ := hit
      rw [hoa] at ho
      cases ho
      rw [hc2] at hca
      exact absurd (Value.type.inj hca) (by decide)
    have hil0 : i < its.toArray.size := by
      have := (List.getElem?_eq_some_iff.mp hu).1
      simpa using this
    have hel : e < s.heap.objs.size := Heap.lt_size he
    have hil : it < s.heap.objs.size := by obtain ⟨_, q, _⟩ := hit; exact Heap.lt_size q
    refine wpAny_pyNext_enum_itemD (Draws.tuple (A := X.A.in1) (I.ok.hd hc) it a hai its.toArray) he ⟨hit, p2⟩ hil0 hne (by simp [hne, hae.symm]) fun x2 h' tk hP2 ho hst hT hsz hk => ?_
    obtain ⟨hit', _⟩ := hst
    have ex : x2 = u := by
      have h1 : its[i]? = some x2 := by simpa using hP2
      rw [hu] at h1
      exact (Option.some.inj h1).symm
    subst ex
    refine ⟨_, rfl, wpAny_letOwnedTupleGo_enum (s := { s with heap := h', toks := tk + 1 }) ho fun h'' he' sb => ?_⟩
    have hT2 : h''.get? s.heap.objs.size = some { cls := .type "tuple", data := .seq #[.int i tk, x2] } := (sb.2 _ (Nat.ne_of_gt hel)).trans hT
    have new : ObjOk X.prog X.w (upd H s.heap.objs.size (.tup [.int (i : Nat), x])) h'' s.heap.objs.size (.tup [.int (i : Nat), x]) :=
      ⟨by show 2 ≤ sizeLine; decide, [.int i tk, x2], .cons ⟨_, rfl⟩ (.cons ru .nil), ⟨_, hT2, rfl, _, rfl⟩⟩
    have I1 : Inv X pins σ (upd H s.heap.objs.size (.tup [.int (i : Nat), x])) { s with heap := h'', toks := tk + 1 } :=
      I.turnedNew (ch := [e, it]) (fun b ob hb q => (sb.2 b (fun z => hb (by simp [z]))).trans (hk b ob (fun z => hb (by simp [z])) (fun z => hb (by simp [z])) q)) hf (Nat.le_refl _) new
    refine ⟨.ref s.heap.objs.size, _, I1, rfl, ⟨_, x, rfl, I.hok.fresh (Nat.le_refl _), rfl, fun ys hy => by rw [I.tuple_inj hy hq]; exact hx⟩, ⟨⟨x2, ?_⟩, hit'.at fun o q => (sb.2 it (Ne.symm hne)).trans q, hne⟩, fun b hb => ?_⟩
    · have e1 : ((i + 1 : Nat) : Int) = (i : Int) + 1 := by omega
      rw [e1]; exact he'
    · have hb' : b < s.heap.objs.size := by
        have e' : b = e ∨ b = it := by simpa using hb
        rcases e' with z | z
        · rw [z]; exact hel
        · rw [z]; exact hil
      rw [upd_ne (Nat.ne_of_lt hb')]
      exact (hf b hb).1
  done := by
    intro X hP hw hK hc i pins s σ H E I hf st hg
    subst hP hw hK
    obtain ⟨⟨old, he⟩, hit, hne⟩ := st
    obtain ⟨xs, hq, hx⟩ := hg
    obtain ⟨its, rv, p, hz⟩ := I.tuple hq
    obtain ⟨f0, f1, f2, f3, f4, f5⟩ := hf it (by simp)
    have p2 : s.heap.IsTuple a its.toArray := p
    obtain ⟨oa, hoa, hca, na, hda⟩ := id p2
    have hai : a ≠ it := fun z => by
      subst z
      obtain ⟨o, ho, hc2, hd2⟩ := hit
      rw [hoa] at ho
      cases ho
      rw [hc2] at hca
      exact absurd (Value.type.inj hca) (by decide)
    have hl := rv.length
    have hn : i = its.toArray.size := by simp; omega
    refine wpAny_pyNext_enum_endD (Draws.tuple (A := X.A.in1) (I.ok.hd hc) it a hai its.toArray) he ⟨hn ▸ hit, p2⟩ fun h' eb => ⟨rfl, I.turned (t' := s.toks) (fun b o hb q => eb b o hb q) f0 f1 f3 f4 f5⟩
  self := fun A i s Q E st h => let ⟨⟨_, he⟩, _⟩ := st; wpAny_pyIter_enum he h
def iEnumU (K : PySem.W.Frag) (ta : TA) : TI := fun σ H R => ta σ H fun vs H1 => ∃ a xs, vs = [.ref a] ∧ SqT K H1 a xs ∧ R (IteU K a) H1
theorem pi_enumU {X : Cx} {e : Expr} {ta : TA} {p pos tpos : Pos} {elts : List Expr} {kk : Nat} (hg : Gl X "enumerate") (hm : X.mg "enumerate" = none) (ha : PA X [e] ta) (hs : starEach [e] X.env = [(false, eval e X.env)] := by rfl) :
    PI X (.Tuple elts kk tpos) (.Call (.Name "enumerate" p) [e] [] pos) (iEnumU X.K ta) := by
  refine ⟨fun pins s σ H R I h => ?_⟩
  refine Call_ (ld_blt I hg hm boot_enumerate (PyProof.Rows.callWith_type1 (thn (ha.run pos pins s σ H _ I h) fun us s1 ⟨vs, H1, I1, r1, q1⟩ => ?_) hs rfl))
  obtain ⟨a, xs, ex, hq, q⟩ := q1
  subst ex
  cases r1 with
  | cons r rr =>
    cases rr
    cases r
    obtain ⟨its, rv, p', hz⟩ := I1.tuple hq
    refine call_enumerate_tup p' fun h' he hit hsz hk => wpAny_pyIter_enum he ?_
    have I2 : Inv X pins σ H1 { s1 with heap := h' } := I1.kept (t' := s1.toks) hk
    refine ⟨s1.heap.objs.size + 1, [s1.heap.objs.size + 1, s1.heap.objs.size], _, _, H1, rfl, I2, turn_enumU a (s1.heap.objs.size + 1) s1.heap.objs.size, ⟨⟨.none, he⟩, hit, Nat.succ_ne_self _⟩, fun b hb => ?_, q⟩
    have e' : b = s1.heap.objs.size + 1 ∨ b = s1.heap.objs.size := by simpa using hb
    have hle : s1.heap.objs.size ≤ b := by
      rcases e' with z | z
      · rw [z]; exact Nat.le_add_right _ _
      · rw [z]; exact Nat.le_refl _
    exact I1.fpOk hle (I1.hok.fresh hle)
theorem seq_enumU {K : PySem.W.Frag} {F : Hp} {l : Addr} {vs : List V} {ds : List PyData} (h : SqT K F l vs) (t : DpAll K F vs ds) : Seqs K F (IteU K l) (numD ds) where
  stop := fun H f => ⟨vs, sqt_up f h, by rw [t.length, numD_len]⟩
  go := fun i H hi f => by
    rw [numD_len] at hi
    obtain ⟨d, hd⟩ : ∃ d, ds[i]? = some d := ⟨ds[i], by simp [hi]⟩
    obtain ⟨v, hv, _⟩ := t.get hd
    exact ⟨vs, v, sqt_up f h, hv⟩
  yld := fun i F2 H x H' hi f2 fh ⟨T, w, e, hT, eH, y⟩ => by
    subst e eH
    obtain ⟨d, hd, r⟩ := t.getV (y vs (sqt_up (f2.trans fh) h))
    have fT : F2 T = none := by
      cases q : F2 T with
      | none => rfl
      | some u => rw [fh T u q] at hT; cases hT
    refine ⟨.tuple [.int (i : Int), d], upd F2 T (.tup [.int (i : Nat), w]), ?_, Sub.new fT, Sub.upd fh, Sub.new hT, fun a n => ?_, .tup (.of upd_same) (.cons (.int _) (.cons (Dp.up (f2.trans (Sub.new fT)) r) .nil))⟩
    · unfold numD
      rw [List.getElem?_mapIdx, hd] <;> rfl
    · by_cases q : a = T
      · subst q; exact .inr hT
      · rw [upd_ne q] at n; exact .inl n
section
variable {X : Cx} {e : Expr} {ρ : Env} {pos p0 tpos : Pos}
theorem di_enumU {P : List PyData → Env → Prop} {elts : List Expr} {kk : Nat} (h : DE X e ρ fun s ρ1 => isF s fun d => ∃ ds, d = .tuple ds ∧ P (numD ds) ρ1) (hm : X.mg "enumerate" = none) (hg : Gl X "enumerate" := by rfl) (hs : starEach [e] X.env = [(false, eval e X.env)] := by rfl) : DI X (.Tuple elts kk tpos) (.Call (.Name "enumerate" p0) [e] [] pos) ρ P :=
  pi_imp (pi_enumU hg hm (pa_cons h pa_nil hs) hs) fun σ H Rr ⟨R, F, S, q⟩ => ⟨R, F, S, fun v F1 H1 s ρ1 f1 ⟨d, z, ds, ed, p⟩ S1 => by
    subst ed
    obtain ⟨F2, f2, S2⟩ := S1.frz z
    cases S2.headF with
    | tup sx tx => exact ⟨_, _, rfl, sqt_up S2.fh sx, q _ F2 H1 _ ρ1 (f1.trans f2) p S2.tail (seq_enumU sx tx)⟩⟩
end
end DL

set_option maxHeartbeats 2000000
/-! DL11: lists and tuples put together. -/
namespace L2
open PySem PySem.Spec PyProof.Rows
section
variable {X : Cx}
def rCatL (K : PySem.W.Frag) : R2 := fun x y H Q => ∃ a b xs ys, x = .ref a ∧ y = .ref b ∧ SqL K H a xs ∧ SqL K H b ys ∧ xs.length + ys.length ≤ sizeLine ∧ ∀ p, H p = none → Q (.ref p) (upd H p (.lst (xs ++ ys)))
theorem op_catL : OpR X (binaryOp .Add) (rCatL X.K) := by
  intro pins s σ H x y v u Q I rx ry h
  obtain ⟨a, b, xs, ys, rfl, rfl, ha, hb, hz, q⟩ := h
  cases rx
  cases ry
  obtain ⟨its, r1, p1, _⟩ := I.list ha
  obtain ⟨its2, r2, p2, _⟩ := I.list hb
  have i1 := p1.isList
  have i2 := p2.isList
  obtain ⟨⟨cls, dd, data, sl⟩, ho, hc, n, hd⟩ := i1
  obtain ⟨⟨cls2, dd2, data2, sl2⟩, ho2, hc2, n2, hd2⟩ := i2
  simp only at hc hd hc2 hd2
  subst hc hd hc2 hd2
  have l1 := r1.length
  have l2 := r2.length
  have e : its.toArray ++ its2.toArray = (its ++ its2).toArray := by simp
  refine concat_meets ⟨_, ho, rfl⟩ ⟨_, ho2, rfl⟩ noFill_list_add seq_list_add PySem.F.slot_list_add PySem.F.entry_list_add (PySem.F.args_list_add_2 _ _) (list_addW a b its.toArray its2.toArray n n2 dd dd2 sl sl2 (by rw [List.size_toArray, List.size_toArray]; omega)) ⟨ho, ho2, ?_⟩
  rw [e]
  exact ⟨.ref _, _, I.lnew (t' := s.toks) (r1.append r2) (by rw [List.length_append]; omega), rfl, q _ I.fresh⟩
end
end L2
namespace DL
open PySem PySem.Spec PyProof.Rows L2
section
variable {X : Cx} {k : Outc → Prop}
theorem bd_catL {ds es : List PyData} (hz : ds.length + es.length ≤ sizeLine) (h : k (.newL (ds ++ es))) : BinD X .Add (.list ds) (.list es) k :=
  ⟨_, op_catL, _, fun F H u v Q hs hx hy q => by
    cases hx with
    | lst sx tx =>
      cases hy with
      | lst sy ty =>
        have l1 := tx.length
        have l2 := ty.length
        exact ⟨_, _, _, _, rfl, rfl, sql_up hs sx, sql_up hs sy, by omega, fun p hp => q p _ hp (tx.append ty)⟩, h⟩
/-- t + u, t empty -/
theorem bd_catT0 {es : List PyData} (hz : es.length ≤ sizeLine) (h : k (.val (.tuple es))) : BinD X .Add (.tuple []) (.tuple es) k :=
  ⟨_, op_catA, _, fun F H u v Q hs hx hy q => by
    cases hx with
    | tup sx tx =>
      cases tx
      cases hy with
      | tup sy ty =>
        have l2 := ty.length
        exact ⟨_, _, _, _, rfl, rfl, sqt_up hs sx, sqt_up hs sy, by show 0 + _ ≤ _; omega, fun _ => q _ (.tup sy ty), fun z => absurd rfl z, fun z => absurd rfl z⟩, h⟩
/-- a tuple that is not empty, so many times -/
theorem bd_repT {ds : List PyData} {i : Int} (h1 : ds ≠ []) (h2 : 2 ≤ i) (h3 : i ≤ 1000) (hz : ds.length ≤ 1000) (h : k (.newT (List.replicate i.toNat ds).flatten)) : BinD X .Mult (.tuple ds) (.int i) k :=
  ⟨_, op_repT, _, fun F H u v Q hs hx hy q => by
    cases hy
    cases hx with
    | tup sx tx =>
      have l1 := tx.length
      refine ⟨_, _, _, rfl, rfl, sqt_up hs sx, fun z => h1 ?_, h2, h3, by omega, fun p hp => q p _ hp ?_⟩
      · subst z; cases tx; rfl
      · generalize i.toNat = m
        induction m with
        | zero => exact .nil
        | succ m ih =>
          rw [List.replicate_succ, List.replicate_succ, List.flatten_cons, List.flatten_cons]
          exact tx.append ih, h⟩
/-- the whole of a tuple is the tuple -/
theorem ld_tupW {ds : List PyData} {lo hi : Option Int} (hw : HT.sIx ds.length 0 lo = 0 ∧ HT.sIx ds.length ds.length hi = ds.length) (h : k (.val (.tuple ds))) : SliD X (.tuple ds) lo hi k :=
  ⟨_, sl_tupA, _, fun F H x Q hs hx q => by
    cases hx with
    | tup sx tx => exact ⟨_, _, rfl, sqt_up hs sx, fun _ => q _ (.tup sx tx), fun n => absurd (by rw [tx.length]; exact hw) n⟩, h⟩
end
end DL

set_option maxHeartbeats 2000000
/-! DL12: own lists of own lists. -/
namespace DL
open PySem PySem.Spec PyProof.Rows L2
def oLls (p : Addr) (qs : List (Addr × List PyData)) : Own where
  fp := p :: qs.map Prod.fst
  rel := fun K F H => (p :: qs.map Prod.fst).Nodup ∧ H p = some (.lst (qs.map fun z => V.ref z.1)) ∧ ∀ z ∈ qs, ∃ vs, H z.1 = some (.lst vs) ∧ DpAll K F vs z.2
  up := fun K F F' H e ⟨nd, h, t⟩ => ⟨nd, h, fun z hz => let ⟨vs, h1, h2⟩ := t z hz; ⟨vs, h1, DpAll.up e h2⟩⟩
  loc := fun K F H H' e ⟨nd, h, t⟩ => ⟨nd, by rw [e p List.mem_cons_self]; exact h, fun z hz => let ⟨vs, h1, h2⟩ := t z hz; ⟨vs, by rw [e z.1 (List.mem_cons_of_mem _ (List.mem_map_of_mem hz))]; exact h1, h2⟩⟩
  al := fun K F H ⟨nd, h, t⟩ a ha => by
    rcases List.mem_cons.mp ha with rfl | ha
    · rw [h]; simp
    · obtain ⟨z, hz, rfl⟩ := List.mem_map.mp ha
      obtain ⟨vs, h1, _⟩ := t z hz
      rw [h1]; simp
section
variable {K : PySem.W.Frag} {R F H F' H' : Hp} {σ σ' : L2.St} {ρ ρ' : Env} {v : V} {s : Sl} {d : PyData}
theorem StD.absorb {i j : Nat} {p q : Addr} {A B C : Own} (h : StD K R F H σ ρ) (hi : ρ[i]? = some (some (.own p A))) (hj : ρ[j]? = some (some (.own q B))) (ij : i ≠ j) (hfp : ∀ a ∈ C.fp, a ∈ A.fp ∨ a ∈ B.fp) (hh : ∀ a, a ∉ A.fp → H' a = H a) (r : C.rel K F H') :
    StD K R F H' σ ((ρ.set j none).set i (some (.own p C))) := by
  have il : i < ρ.length := (List.getElem?_eq_some_iff.mp hi).1
  have jl : j < ρ.length := (List.getElem?_eq_some_iff.mp hj).1
  have at_ : ∀ (m : Nat) u, ((ρ.set j none).set i (some (.own p C)))[m]? = some (some u) → (m = i ∧ u = .own p C) ∨ (m ≠ i ∧ m ≠ j ∧ ρ[m]? = some (some u)) := fun m u e => by
    by_cases q : m = i
    · subst q
      rw [List.getElem?_set_self (by rw [List.length_set]; exact il)] at e
      cases e
      exact .inl ⟨rfl, rfl⟩
    · rw [List.getElem?_set_ne (Ne.symm q)] at e
      by_cases q2 : m = j
      · subst q2
        rw [List.getElem?_set_self jl] at e
        cases e
      · rw [List.getElem?_set_ne (Ne.symm q2)] at e
        exact .inr ⟨q, q2, e⟩
  have fr : ∀ (a : Addr), (∃ o, F a = some o) ∨ (∃ o, R a = some o) → a ∉ A.fp := fun a hx ha => by
    obtain ⟨n1, n2⟩ := h.ff i _ a hi ha
    rcases hx with ⟨o, e⟩ | ⟨o, e⟩
    · rw [n1] at e; cases e
    · rw [n2] at e; cases e
  refine ⟨fun a o e => by rw [hh a (fr a (.inl ⟨o, e⟩))]; exact h.fh a o e, fun a o e => by rw [hh a (fr a (.inr ⟨o, e⟩))]; exact h.rh a o e, h.rf, fun m u e => ?_, fun m u a e ha => ?_, fun m l u w a ne e1 e2 ha hb => ?_, by rw [List.length_set, List.length_set]; exact h.len⟩
  · rcases at_ m u e with ⟨rfl, rfl⟩ | ⟨ne, ne2, e⟩
    · obtain ⟨v, e1, q⟩ := h.sl _ _ hi
      exact ⟨v, e1, q.1, r⟩
    · obtain ⟨v, e1, q⟩ := h.sl m u e
      refine ⟨v, e1, ?_⟩
      cases u with
      | frz d => exact q
      | own p' A' => exact ⟨q.1, A'.loc K F H H' (fun a ha => hh a fun hb => h.dj m i _ _ a ne e hi ha hb) q.2⟩
  · rcases at_ m u e with ⟨rfl, rfl⟩ | ⟨ne, ne2, e⟩
    · rcases hfp a ha with h1 | h1
      · exact h.ff _ _ a hi h1
      · exact h.ff _ _ a hj h1
    · exact h.ff m u a e ha
  · rcases at_ m u e1 with ⟨j1, u1⟩ | ⟨n1, n1', e3⟩
    · rcases at_ l w e2 with ⟨l1, w1⟩ | ⟨n2, n2', e4⟩
      · exact ne (j1.trans l1.symm)
      · subst u1
        rcases hfp a ha with h1 | h1
        · exact h.dj i l _ w a (fun z => n2 z.symm) hi e4 h1 hb
        · exact h.dj j l _ w a (fun z => n2' z.symm) hj e4 h1 hb
    · rcases at_ l w e2 with ⟨l1, w1⟩ | ⟨n2, n2', e4⟩
      · subst w1
        rcases hfp a hb with h1 | h1
        · exact h.dj m i u _ a n1 e3 hi ha h1
        · exact h.dj m j u _ a n1' e3 hj ha h1
      · exact h.dj m l u w a ne e3 e4 ha hb
theorem lls_new {D : Addr} (h : StD K R F H (some (.ref D) :: σ) (some (.own D (oLst D [])) :: ρ)) : StD K R F H (some (.ref D) :: σ) (some (.own D (oLls D [])) :: ρ) :=
  h.weak (i := 0) (B := oLls D []) rfl rfl fun K F H ⟨vs, h1, h2⟩ => ⟨(by simp), by cases h2; exact h1, fun z hz => by cases hz⟩
theorem lls_app {D q : Addr} {acc : List (Addr × List PyData)} {es : List PyData} {vs : List V} (nd : (D :: acc.map Prod.fst).Nodup) (hp : H D = some (.lst (acc.map fun z => V.ref z.1))) (hr : ∀ z ∈ acc, ∃ vs, H z.1 = some (.lst vs) ∧ DpAll K F vs z.2)
    (qd : q ∉ (oLls D acc).fp) (hq : H q = some (.lst vs)) (t : DpAll K F vs es) : (oLls D (acc ++ [(q, es)])).rel K F (upd H D (.lst ((acc.map fun z => V.ref z.1) ++ [.ref q]))) := by
  have qn : q ≠ D := fun z => qd (by rw [z]; exact List.mem_cons_self)
  have qa : q ∉ acc.map Prod.fst := fun z => qd (List.mem_cons_of_mem _ z)
  refine ⟨?_, by rw [upd_same, List.map_append]; rfl, fun z hz => ?_⟩
  · rw [List.map_append]
    rw [List.nodup_cons] at nd ⊢
    refine ⟨fun h => ?_, ?_⟩
    · rcases List.mem_append.mp h with h | h
      · exact nd.1 h
      · exact qn (List.mem_singleton.mp h).symm
    · rw [List.nodup_append]
      refine ⟨nd.2, (by simp), fun a ha b hb => ?_⟩
      have : b = q := List.mem_singleton.mp hb
      subst this
      exact fun z => qa (z ▸ ha)
  · rcases List.mem_append.mp hz with h | h
    · obtain ⟨vs, h1, h2⟩ := hr z h
      refine ⟨vs, ?_, h2⟩
      rw [upd_ne]
      · exact h1
      · intro e
        rw [List.nodup_cons] at nd
        exact nd.1 (by rw [← e]; exact List.mem_map_of_mem h)
    · have : z = (q, es) := List.mem_singleton.mp h
      subst this
      exact ⟨vs, by rw [upd_ne qn]; exact hq, t⟩
open Classical in
/-- an own thing is let stand still -/
theorem StD.freezeG {p : Addr} {A : Own} (h : StD K R F H (some v :: σ) (some (.own p A) :: ρ)) (hd : ∀ F', Sub F F' → (∀ a ∈ A.fp, F' a = H a) → Dp K F' v d) : ∃ F', Sub F F' ∧ (∀ a ∈ A.fp, F' a = H a) ∧ StD K R F' H (some v :: σ) (some (.frz d) :: ρ) := by
  have T := h.tail
  have sub : Sub F (fun a => if a ∈ A.fp then H a else F a) := fun a o e => by
    show (if a ∈ A.fp then H a else F a) = some o
    by_cases q : a ∈ A.fp
    · rw [(h.ff 0 _ a rfl q).1] at e; cases e
    · rw [if_neg q]; exact e
  refine ⟨fun a => if a ∈ A.fp then H a else F a, sub, fun a ha => by show (if a ∈ A.fp then H a else F a) = H a; rw [if_pos ha], ?_⟩
  have base : StD K R (fun a => if a ∈ A.fp then H a else F a) H σ ρ :=
    { fh := fun a o e => by
        have e' : (if a ∈ A.fp then H a else F a) = some o := e
        by_cases q : a ∈ A.fp
        · rw [if_pos q] at e'; exact e'
        · rw [if_neg q] at e'; exact T.fh a o e'
      rh := T.rh
      rf := fun a hr => by
        show (if a ∈ A.fp then H a else F a) = none
        by_cases q : a ∈ A.fp
        · exact absurd (h.ff 0 _ a rfl q).2 hr
        · rw [if_neg q]; exact T.rf a hr
      sl := fun i s e => by
        obtain ⟨v, e1, r⟩ := T.sl i s e
        refine ⟨v, e1, ?_⟩
        cases s with
        | frz d => exact Dp.up sub r
        | own q A => exact ⟨r.1, A.up K F _ H sub r.2⟩
      ff := fun i s a e ha => by
        obtain ⟨n1, n2⟩ := T.ff i s a e ha
        refine ⟨?_, n2⟩
        show (if a ∈ A.fp then H a else F a) = none
        rw [if_neg]
        · exact n1
        · intro q
          exact h.dj 0 (i + 1) _ s a (by omega) rfl (by simpa using e) q ha
      dj := T.dj
      len := T.len }
  exact base.consF (hd _ sub fun a ha => by show (if a ∈ A.fp then H a else F a) = H a; rw [if_pos ha])
theorem StD.freezeLls {p : Addr} {qs : List (Addr × List PyData)} (h : StD K R F H (some v :: σ) (some (.own p (oLls p qs)) :: ρ)) : ∃ F', Sub F F' ∧ StD K R F' H (some v :: σ) (some (.frz (.list (qs.map fun z => .list z.2))) :: ρ) := by
  obtain ⟨rfl, nd, hp, hr⟩ := h.head
  suffices z : ∃ F', Sub F F' ∧ (∀ a ∈ (oLls p qs).fp, F' a = H a) ∧ StD K R F' H (some (.ref p) :: σ) (some (.frz (.list (qs.map fun z => .list z.2))) :: ρ) by
    obtain ⟨F', a, _, b⟩ := z
    exact ⟨F', a, b⟩
  refine h.freezeG fun F' f hf => ?_
  refine .lst (.of (by rw [hf p List.mem_cons_self]; exact hp)) ?_
  have go : ∀ rs : List (Addr × List PyData), (∀ z ∈ rs, z ∈ qs) → DpAll K F' (rs.map fun z => V.ref z.1) (rs.map fun z => .list z.2) := by
    intro rs
    induction rs with
    | nil => exact fun _ => .nil
    | cons a t ih =>
      intro hz
      obtain ⟨vs, h1, h2⟩ := hr a (hz a List.mem_cons_self)
      exact .cons (.lst (.of (by rw [hf a.1 (List.mem_cons_of_mem _ (List.mem_map_of_mem (hz a List.mem_cons_self)))]; exact h1)) (DpAll.up f h2)) (ih fun z q => hz z (List.mem_cons_of_mem _ q))
  exact go qs fun _ h => h
end

theorem lls_set {K : PySem.W.Frag} {F H : Hp} {p q : Addr} {qs : List (Addr × List PyData)} {es es' : List PyData} {vs vs' : List V} {j : Nat} (nd : (p :: qs.map Prod.fst).Nodup) (hp : H p = some (.lst (qs.map fun z => V.ref z.1))) (hr : ∀ z ∈ qs, ∃ vs, H z.1 = some (.lst vs) ∧ DpAll K F vs z.2)
    (hj : qs[j]? = some (q, es)) (hq : H q = some (.lst vs)) (t : DpAll K F vs' es') : (oLls p (qs.set j (q, es'))).rel K F (upd H q (.lst vs')) := by
  have jl := (List.getElem?_eq_some_iff.mp hj).1
  have mq : q ∈ qs.map Prod.fst := List.mem_map_of_mem (f := Prod.fst) (List.mem_of_getElem? hj)
  have qp : p ≠ q := fun z => by rw [List.nodup_cons] at nd; exact nd.1 (z ▸ mq)
  have same : ∀ {β : Type} (f : Addr → β), (qs.set j (q, es')).map (fun z => f z.1) = qs.map fun z => f z.1 := fun f => by
    rw [List.map_set]
    refine List.ext_getElem? fun k => ?_
    by_cases kj : k = j
    · subst kj
      rw [List.getElem?_set_self (by rw [List.length_map]; exact jl), List.getElem?_map, hj] <;> rfl
    · rw [List.getElem?_set_ne (Ne.symm kj)]
  refine ⟨by rw [same fun a => a]; exact nd, by rw [upd_ne qp, same V.ref]; exact hp, fun z hz => ?_⟩
  obtain ⟨k, hk⟩ := List.mem_iff_getElem?.mp hz
  by_cases kj : k = j
  · subst kj
    rw [List.getElem?_set_self jl] at hk
    cases hk
    exact ⟨vs', upd_same, t⟩
  · rw [List.getElem?_set_ne (Ne.symm kj)] at hk
    obtain ⟨ws, h1, h2⟩ := hr z (List.mem_of_getElem? hk)
    refine ⟨ws, ?_, h2⟩
    rw [upd_ne]
    · exact h1
    · intro e
      rw [List.nodup_cons] at nd
      have e1 : (qs.map Prod.fst)[k]? = some q := by rw [List.getElem?_map, hk]; exact congrArg some e
      have e2 : (qs.map Prod.fst)[j]? = some q := by rw [List.getElem?_map, hj] <;> rfl
      have kl : k < (qs.map Prod.fst).length := (List.getElem?_eq_some_iff.mp e1).1
      exact kj ((List.getElem?_inj kl nd.2).mp (e1.trans e2.symm))
section
variable {X : Cx} {tg iter elt c e a b : Expr} {ifs : List Expr} {scope : Scope} {own : List (Str × Nat)} {ρ : Env} {P : Sl → Env → Prop} {pos p0 : Pos} {PB : Bool → Env → Prop} {vs : List Nat}
/-- what a comprehension asks -/
def LcOkO (X : Cx) (scope : Scope) (vs : List Nat) (tg elt : Expr) (ifs : List Expr) (ds : List PyData) (ρ1 : Env) (P : Sl → Env → Prop) : Prop := ∃ J : Nat → List (Addr × List PyData) → Env → Prop, J 0 [] (wipeE ρ1 vs) ∧
  (∀ (i : Nat) d acc ρ2, ds[i]? = some d → J i acc ρ2 → acc.length < sizeLine ∧ ∀ s H C cl fp, DG (Blk X scope s H C cl fp) vs tg d ρ2 fun ρ3 => ∀ s H C cl fp, DTs (Blk X scope s H C cl fp) ifs ρ3 fun k ρ4 =>
    if k = true then ∀ s H C cl fp, DE (Blk X scope s H C cl fp) elt ρ4 fun sl ρ5 => ∃ q es, sl = .own q (oLst q es) ∧ J (i + 1) (acc ++ [(q, es)]) (wipeE ρ5 vs) else J (i + 1) acc (wipeE ρ4 vs)) ∧
  ∀ acc ρ2, J ds.length acc ρ2 → ∀ p, P (.own p (oLls p acc)) ρ2
theorem lc_readO {σ : L2.St} {H : Hp} {Q : VK} (h : tD X.K ρ P σ H Q) : tLc (tDI X.K ρ fun ds ρ1 => LcOkO X scope vs tg elt ifs ds ρ1 P) (tUGc X scope vs tg) (tUTc X scope ifs) (tUEc X scope elt) vs σ H Q := by
  obtain ⟨R, F, S, q⟩ := h
  refine ⟨R, F, S, fun J0 F1 H1 ds ρ1 f1 ⟨J, j0, step, fin⟩ S1 Z D hD => ?_⟩
  refine ⟨fun i m H => m = ds.length - i ∧ i ≤ ds.length ∧ ∃ F2 ρ2 acc, Sub F1 F2 ∧ J i acc ρ2 ∧ StD X.K R F2 H (some (.ref D) :: wipe σ vs) (some (.own D (oLls D acc)) :: ρ2), ⟨_, rfl, Nat.zero_le _, F1, _, [], Sub.refl _, j0, lls_new ((S1.wiped vs).newL hD .nil)⟩, ?_⟩
  rintro i m H2 ⟨rfl, hi, F2, ρ2, acc, f2, inv, S2⟩
  by_cases hlt : i < ds.length
  · refine .inr ⟨Z.go i H2 hlt (f2.trans S2.fh), fun H => ∃ F3 ρ3 acc', Sub F1 F3 ∧ J (i + 1) acc' ρ3 ∧ StD X.K R F3 H (some (.ref D) :: wipe σ vs) (some (.own D (oLls D acc')) :: ρ3), fun H' ⟨F3, ρ3, acc', f3, i3, S3⟩ => ⟨ds.length - (i + 1), by omega, rfl, hlt, F3, ρ3, acc', f3, i3, S3⟩, fun x H' y => ?_⟩
    obtain ⟨d, F3, hd, g1, g2, g3, g4, r⟩ := Z.yld i F2 H2 x H' hlt f2 S2.fh y
    have S3 := S2.grow g3 g1 g2 g4
    obtain ⟨hz, hg⟩ := step i d acc ρ2 hd inv
    have kz : (fun k : Nat => k != 0) 0 = false := rfl
    have T : StD X.K (mv R H' (some (.own D (oLls D acc)) :: ρ2) fun k => k != 0) F3 H' (wipe σ vs) ρ2 :=
      (S3.frame fun k => k != 0).sub (fun i => i + 1) (by have := S3.len; rw [List.length_cons, List.length_cons] at this; omega) (fun i u e => by
        refine ⟨?_, by simp⟩
        cases u with
        | frz d => exact lft_frz (by simpa using e)
        | own p A => exact lft_own (by simpa using e) (by simp)) (fun i j p A ne _ _ z => ne (by omega))
    refine ⟨d, ρ2, _, hg, _, F3, r, T, fun σ4 F4 H4 ρ4 f4 p4 k4 l4 S4 => ⟨wipe_same (fun i hi => k4 i hi) (by rw [l4, wipe_length]), ρ4, _, p4, _, F4, S4, fun k F5 H5 ρ5 f5 p5 S5 => ?_⟩⟩
    have back : ∀ {F' H' : Hp} {σ5 : L2.St} {ρ6 : Env}, Sub F3 F' → StD X.K (mv R _ (some (.own D (oLls D acc)) :: ρ2) fun k => k != 0) F' H' σ5 ρ6 → StD X.K R F' H' (σ5 ++ (some (.ref D) :: wipe σ vs)) (ρ6 ++ rst (some (.own D (oLls D acc)) :: ρ2) fun k => k != 0) := fun f S => S3.unframe S f
    have at0 : ∀ (ρ6 : Env), (ρ6 ++ rst (some (.own D (oLls D acc)) :: ρ2) fun k => k != 0)[ρ6.length]? = some (some (.own D (oLls D acc))) := fun ρ6 => by
      rw [List.getElem?_append_right (Nat.le_refl _), Nat.sub_self]
      exact rst_own (by rfl) kz
    cases k with
    | false =>
      refine iteF ?_
      refine ⟨F5, wipeE ρ5 vs, acc, ((f2.trans g1).trans f4).trans f5, p5, ?_⟩
      have U := back (f4.trans f5) S5
      have hlen := S5.len
      refine U.sub (fun j => if j = 0 then ρ5.length else j - 1) ?_ (fun j u e => ?_) (fun j l p A ne ej el => ?_)
      · rw [List.length_cons, List.length_cons, wipe_length, wipeE_length, ← hlen, l4, wipe_length]
      · cases j with
        | zero =>
          have e' : some (some (Sl.own D (oLls D acc))) = some (some u) := e
          cases e'
          refine ⟨by rw [if_pos rfl]; exact at0 ρ5, ?_⟩
          rw [if_pos rfl, List.getElem?_append_right (by omega), hlen, Nat.sub_self] <;> rfl
        | succ j =>
          have e' : (wipeE ρ5 vs)[j]? = some (some u) := by simpa using e
          obtain ⟨e1, n⟩ := wipeE_at e'
          have jl : j < ρ5.length := (List.getElem?_eq_some_iff.mp e1).1
          rw [if_neg (by omega), Nat.add_sub_cancel]
          rw [List.getElem?_append_left jl, List.getElem?_append_left (by omega)]
          exact ⟨e1, by simpa using (k4 j n).symm⟩
      · obtain ⟨u, el⟩ := el
        have lt : ∀ m, m ≠ 0 → (∃ u, (some (Sl.own D (oLls D acc)) :: wipeE ρ5 vs)[m]? = some (some u)) → m - 1 < ρ5.length := fun m hm ⟨u, e⟩ => by
          have := (List.getElem?_eq_some_iff.mp e).1
          rw [List.length_cons, wipeE_length] at this
          omega
        by_cases j0 : j = 0
        · rw [if_pos j0, if_neg (by omega)]
          have := lt l (by omega) ⟨u, el⟩
          omega
        · rw [if_neg j0]
          have := lt j j0 ⟨_, ej⟩
          by_cases l0 : l = 0
          · rw [if_pos l0]; omega
          · rw [if_neg l0]; omega
    | true =>
      refine iteT ?_
      refine ⟨ρ5, _, p5, _, F5, S5, fun yv F6 H6 sl ρ6 f6 ⟨q, es, z, p6⟩ S6 => ?_⟩
      subst z
      have U := back ((f4.trans f5).trans f6) S6
      obtain ⟨w, e1, rfl, nd, hp, hr⟩ := U.sl _ _ (at0 (some (.own q (oLst q es)) :: ρ6))
      obtain ⟨w2, e3, rfl, vs2, hq2, t2⟩ := U.sl 0 _ rfl
      cases e3
      have qd : q ∉ (oLls D acc).fp := U.dj 0 _ _ _ q (by rw [List.length_cons]; omega) rfl (at0 (some (.own q (oLst q es)) :: ρ6)) (List.mem_singleton.mpr rfl)
      refine ⟨_, hp, by rw [List.length_map]; exact hz, F6, wipeE ρ6 vs, acc ++ [(q, es)], (((f2.trans g1).trans f4).trans f5).trans f6, p6, ?_⟩
      have Wr := U.absorb (C := oLls D (acc ++ [(q, es)])) (H' := upd H6 D (.lst ((acc.map fun z => V.ref z.1) ++ [.ref q]))) (at0 (some (.own q (oLst q es)) :: ρ6)) (j := 0) rfl (by rw [List.length_cons]; omega) (fun a ha => by
          have ha' : a = D ∨ a ∈ (acc ++ [(q, es)]).map Prod.fst := List.mem_cons.mp ha
          rcases ha' with rfl | ha'
          · exact .inl List.mem_cons_self
          · rw [List.map_append, List.mem_append] at ha'
            rcases ha' with h1 | h1
            · exact .inl (List.mem_cons_of_mem _ h1)
            · exact .inr h1) (fun a ha => upd_ne fun z => ha (by rw [z]; exact List.mem_cons_self)) (lls_app nd hp hr qd hq2 t2)
      have hlen := S6.len
      rw [List.length_cons, List.length_cons] at hlen
      have il : (some (Sl.own q (oLst q es)) :: ρ6).length < ((some (Sl.own q (oLst q es)) :: ρ6) ++ rst (some (.own D (oLls D acc)) :: ρ2) fun k => k != 0).length := (List.getElem?_eq_some_iff.mp (at0 (some (.own q (oLst q es)) :: ρ6))).1
      refine Wr.sub (fun j => if j = 0 then ρ6.length + 1 else j) ?_ (fun j u e => ?_) (fun j l p A ne ej el => ?_)
      · have l5 : σ4.length = σ.length := by rw [l4, wipe_length]
        rw [List.length_cons, List.length_cons, wipe_length, wipeE_length]
        omega
      · cases j with
        | zero =>
          have e' : some (some (Sl.own D (oLls D (acc ++ [(q, es)])))) = some (some u) := e
          cases e'
          rw [if_pos rfl]
          refine ⟨?_, ?_⟩
          · show (List.set (List.set _ _ _) (some (Sl.own q (oLst q es)) :: ρ6).length _)[(some (Sl.own q (oLst q es)) :: ρ6).length]? = _
            rw [List.getElem?_set_self (by rw [List.length_set]; exact il)]
          · rw [List.getElem?_append_right (by rw [List.length_cons]; omega), List.length_cons]
            have : ρ6.length + 1 - (σ4.length + 1) = 0 := by omega
            rw [this] <;> rfl
        | succ j =>
          have e' : (wipeE ρ6 vs)[j]? = some (some u) := by simpa using e
          obtain ⟨e2, n⟩ := wipeE_at e'
          have jl : j < ρ6.length := (List.getElem?_eq_some_iff.mp e2).1
          rw [if_neg (by omega)]
          refine ⟨?_, ?_⟩
          · rw [List.getElem?_set_ne (by rw [List.length_cons]; omega), List.getElem?_set_ne (by omega), List.getElem?_append_left (by rw [List.length_cons]; omega)]
            simpa using e2
          · rw [List.getElem?_append_left (by rw [List.length_cons]; omega)]
            simpa using (k4 j n).symm
      · obtain ⟨u, el⟩ := el
        have lt : ∀ m, (∃ u, (some (Sl.own D (oLls D (acc ++ [(q, es)]))) :: wipeE ρ6 vs)[m]? = some (some u)) → m < ρ6.length + 1 := fun m ⟨u, e⟩ => by
          have := (List.getElem?_eq_some_iff.mp e).1
          rw [List.length_cons, wipeE_length] at this
          omega
        by_cases j0 : j = 0
        · rw [if_pos j0, if_neg (by omega)]
          have := lt l ⟨u, el⟩
          omega
        · rw [if_neg j0]
          have := lt j ⟨_, ej⟩
          by_cases l0 : l = 0
          · rw [if_pos l0]; omega
          · rw [if_neg l0]; omega
  · have e : i = ds.length := by omega
    subst e
    exact .inl ⟨Z.stop H2 (f2.trans S2.fh), q _ F2 H2 _ ρ2 (f1.trans f2) (fin acc ρ2 inv D) S2.unwiped⟩
/-- [elt for tg in iter if ..] -/
theorem de_lcO (own : List (Str × Nat)) (h : DI X tg iter ρ fun ds ρ1 => LcOkO X scope (own.map (·.2)) tg elt ifs ds ρ1 P) (hN : X.N.Nodup) (ok : BlkOk X.N X.env.scope scope own) (hc : X.calm = true := by rfl) (hs : ∀ x, foldedSetIterable iter X.env x = pure x := by intro _; rfl) :
    DE X (.ListComp elt [⟨tg, iter, ifs, 0⟩] scope pos) ρ P :=
  pe_imp (pe_lc hc hN h ok (fun s H C cl fp => pg_uc (vs := own.map (·.2)) s H C cl fp) (fun s H C cl fp => pt_uc s H C cl fp) (fun s H C cl fp => pe_uc s H C cl fp) hs) fun σ H Q q => lc_readO q
/-- y = [elt for tg in iter if ..] -/
theorem ds_lcO {D : Po} {y : Str} {py spos : Pos} (i : Nat) (own : List (Str × Nat)) (h : DI X tg iter ρ fun ds ρ1 => LcOkO X scope (own.map (·.2)) tg elt ifs ds ρ1 fun s ρ2 => D.nx (ρ2.set i (some s))) (hN : X.N.Nodup) (ok : BlkOk X.N X.env.scope scope own) (hy : X.N[i]? = some y := by rfl) (hyl : X.env.scope.names.lookup y = some .local := by rfl)
    (hsw : swapsWith (.ListComp elt [⟨tg, iter, ifs, 0⟩] scope pos) (some (.Name y py)) spos.line X.env = pure true := by exact sw_true rfl rfl rfl (by decide +kernel)) (hc : X.calm = true := by rfl) (hs : ∀ x, foldedSetIterable iter X.env x = pure x := by intro _; rfl) :
    DS X (.Assign [.Name y py] (.ListComp elt [⟨tg, iter, ifs, 0⟩] scope pos) spos) ρ D :=
  ps_imp (ps_setLc hc hN hy hyl hsw h ok (fun s H C cl fp => pg_uc (vs := own.map (·.2)) s H C cl fp) (fun s H C cl fp => pt_uc s H C cl fp) (fun s H C cl fp => pe_uc s H C cl fp) hs) fun E σ H ⟨R, F, S, ok⟩ =>
    lc_readO (P := fun s ρ2 => D.nx (ρ2.set i (some s))) ⟨R, F, S, fun v F' H' s ρ' f p S' => ok.nx _ F' H' _ f p S'.set⟩

/-- a name whose own list of lists is let stand still where it is -/
theorem de_fzL (i : Nat) {x : Str} {p : Addr} {qs : List (Addr × List PyData)} (h : P (.frz (.list (qs.map fun z => .list z.2))) (ρ.set i (some (.frz (.list (qs.map fun z => .list z.2)))))) (hi : ρ[i]? = some (some (.own p (oLls p qs))) := by rfl) (hN : X.N[i]? = some x := by rfl) (hv : Vis X.env.scope x := by first | exact Or.inl rfl | exact Or.inr (Or.inl rfl) | exact Or.inr (Or.inr rfl))
    (hd : (x == ("__debug__" : Str)) = false := by decide) (hcd : (x == ("__classdict__" : Str)) = false := by decide) : DE X (.Name x pos) ρ P := by
  have h0 : DE X (.Name x pos) ρ fun s ρ1 => s = .own p (oLls p qs) ∧ ρ1 = ρ.set i none := de_give i ⟨rfl, rfl⟩ hi hN hv hd hcd
  refine pe_imp h0 fun σ H Q ⟨R, F, S, q⟩ => ⟨R, F, S, fun v F1 H1 s ρ1 f1 ⟨hs, hr⟩ S1 => ?_⟩
  subst hs hr
  obtain ⟨F2, f2, S2⟩ := S1.freezeLls
  have S3 := (S2.tail.consF S2.headF).set (i := i)
  rw [List.set_set] at S3
  refine q v F2 H1 _ _ (f1.trans f2) h ?_
  have S4 : StD X.K R F2 H1 (σ.set i (some v)) (ρ.set i (some (.frz (.list (qs.map fun z => .list z.2))))) := S3
  obtain ⟨w, ew, rw0⟩ := S.sl i _ hi
  have hv2 := S1.head
  have il : i < σ.length := (List.getElem?_eq_some_iff.mp ew).1
  have e1 : σ.set i (some v) = σ := by
    have : v = w := by rw [hv2.1, rw0.1]
    rw [this]
    refine List.ext_getElem? fun j => ?_
    by_cases q : j = i
    · subst q; rw [List.getElem?_set_self il]; exact ew.symm
    · rw [List.getElem?_set_ne (Ne.symm q)]
  rw [e1] at S4
  exact S4.consF S2.headF
/-- len(x), x a name that holds an own list -/
theorem de_lenO (i n : Nat) {x : Str} {px : Pos} {p : Addr} {A : Own} (hl : ∀ K F H, A.rel K F H → ∃ vs : List V, H p = some (.lst vs) ∧ vs.length = n) (h : P (.frz (.int (n : Int))) ρ) (T : X.mg "len" = none) (hi : ρ[i]? = some (some (.own p A)) := by rfl) (hN : X.N[i]? = some x := by rfl) (hv : Vis X.env.scope x := by first | exact Or.inl rfl | exact Or.inr (Or.inl rfl) | exact Or.inr (Or.inr rfl))
    (hd : (x == ("__debug__" : Str)) = false := by decide) (hcd : (x == ("__classdict__" : Str)) = false := by decide)
    (hg : Gl X "len" := by rfl) (he : starEach [.Name x px] X.env = (false, eval (.Name x px) X.env) :: starEach [] X.env := by rfl) (hpl : (backTo pos (starEach [] X.env)).any (·.1) = false := by rfl) : DE X (.Call (.Name "len" p0) [.Name x px] [] pos) ρ P :=
  pe_imp (pe_callB call_len_seq hg T bb_len (pa_cons (pe_var hN hv hd hcd) pa_nil he) (by decide) (by decide) he hpl) fun σ H Q ⟨R, F, S, q⟩ => by
    obtain ⟨v0, e1, rfl, r0⟩ := S.sl i _ hi
    obtain ⟨vs, hp, hn⟩ := hl _ _ _ r0
    exact ⟨_, e1, _, vs, rfl, .inl (.of hp), by rw [hn]; exact q _ F H _ ρ (Sub.refl F) h (S.consF (.int _))⟩
theorem lls_len {p : Addr} {qs : List (Addr × List PyData)} (K : PySem.W.Frag) (F H : Hp) (h : (oLls p qs).rel K F H) : ∃ vs : List V, H p = some (.lst vs) ∧ vs.length = qs.length := ⟨_, h.2.1, by rw [List.length_map]⟩
/-- x[a][b] = e, x a name that holds an own list of own lists -/
theorem ds_item2 {Q : Po} (i : Nat) {x : Str} {px sp s2 : Pos} (h : DE X e ρ fun s ρ1 => isF s fun d => DE X a ρ1 fun s2 ρ2 => ∃ (n : Int) (j : Nat) (p q : Addr) (qs : List (Addr × List PyData)) (es : List PyData), s2 = .frz (.int n) ∧ ρ2[i]? = some (some (.own p (oLls p qs))) ∧ ixN qs.length n = some j ∧ qs[j]? = some (q, es) ∧
        DE X b ρ2 fun s3 ρ3 => ∃ (m : Int) (l : Nat), s3 = .frz (.int m) ∧ ρ3[i]? = some (some (.own p (oLls p qs))) ∧ ixN es.length m = some l ∧ Q.nx (ρ3.set i (some (.own p (oLls p (qs.set j (q, es.set l d))))))) (hi : ∃ p A, ρ[i]? = some (some (.own p A)))
    (hpl : PlainIx a := by exact fun _ _ => rfl) (hN : X.N[i]? = some x := by rfl) (hv : Vis X.env.scope x := by first | exact Or.inl rfl | exact Or.inr (Or.inl rfl) | exact Or.inr (Or.inr rfl)) (hd : (x == ("__debug__" : Str)) = false := by decide) (hcd : (x == ("__classdict__" : Str)) = false := by decide)
    (hs : swapsWithSole [.Subscript (.Subscript (.Name x px) a s2) b sp] e pos.line X.env = pure false := by rfl) (hw : swappedStores [.Subscript (.Subscript (.Name x px) a s2) b sp] e X.env = pure none := by rfl) (h1 : (assignEach [.Subscript (.Subscript (.Name x px) a s2) b sp] X.env).map (·.2) = [assign (.Subscript (.Subscript (.Name x px) a s2) b sp) X.env] := by rfl)
    (ha : ∀ v, assign (.Subscript (.Subscript (.Name x px) a s2) b sp) X.env v = (do
      let ov ← holding [v] (eval (.Subscript (.Name x px) a s2) X.env)
      let iv ← holding [v, ov] (eval b X.env)
      standAt sp
      holding [v, ov, iv] (setItem ov iv v)
      release [v, ov, iv] []) := by intro _; rfl) : DS X (.Assign [.Subscript (.Subscript (.Name x px) a s2) b sp] e pos) ρ Q :=
  ps_imp (ps_asg h (pg_sub (pe_ix ix_list (pe_var hN hv hd hcd) pe_u hpl) pe_u set_list ha) hs hw h1) fun D σ H ⟨R, F, S, E⟩ => ⟨R, F, S, fun v F1 H1 s ρ1 f1 ⟨d, z, hb⟩ S1 => by
    obtain ⟨F2, f2, S2⟩ := S1.frz z
    obtain ⟨p0, A0, e0⟩ := hi
    obtain ⟨v0, e1, rfl, _⟩ := S.sl i _ e0
    refine ⟨_, e1, ρ1, _, hb, R, F2, S2.tail, fun v3 F3 H3 s3 ρ3 f3 ⟨n, j, p, q, qs, es, hs3, ei, hj, hqs, hb2⟩ S3 => ?_⟩
    subst hs3
    have r := S3.headF
    cases r
    obtain ⟨v2, e2, rfl, nd, hp, hr⟩ := S3.tail.sl i _ ei
    rw [e1] at e2
    cases e2
    refine ⟨_, _, _, .ref q, rfl, rfl, .of hp, ?_, ρ3, _, hb2, R, F3, S3.tail, fun v4 F4 H4 s4 ρ4 f4 ⟨m, l, hs4, ei4, hl, nx⟩ S4 => ?_⟩
    · unfold atI
      rw [List.length_map, hj]
      show (qs.map fun z => V.ref z.1)[j]? = _
      rw [List.getElem?_map, hqs] <;> rfl
    · subst hs4
      have r := S4.headF
      cases r
      obtain ⟨v5, e5, rfl, nd4, hp4, hr4⟩ := S4.tail.sl i _ ei4
      obtain ⟨vs4, hq4, t4⟩ := hr4 _ (List.mem_of_getElem? hqs)
      refine ⟨_, vs4, m, l, rfl, rfl, hq4, by rw [t4.length]; exact hl, E.nx σ F4 _ _ (((f1.trans f2).trans f3).trans f4) nx (S4.tail.write (B := oLls _ (qs.set j (q, es.set l d))) ei4 ?_ (fun c hc => upd_ne fun z => hc ?_) ?_)⟩
      · have jl := (List.getElem?_eq_some_iff.mp hqs).1
        have e6 := (List.getElem?_eq_some_iff.mp hqs).2
        show _ :: (qs.set j (q, es.set l d)).map Prod.fst = _ :: qs.map Prod.fst
        rw [List.map_set]
        congr 1
        refine List.ext_getElem? fun k => ?_
        by_cases kj : k = j
        · subst kj
          rw [List.getElem?_set_self (by rw [List.length_map]; exact jl), List.getElem?_map, hqs] <;> rfl
        · rw [List.getElem?_set_ne (Ne.symm kj)]
      · rw [z]
        exact List.mem_cons_of_mem _ (List.mem_map_of_mem (f := Prod.fst) (List.mem_of_getElem? hqs))
      · exact lls_set nd4 hp4 hr4 hqs hq4 (t4.set (Dp.up (f3.trans f4) S2.headF) l)⟩
end
end DL

set_option maxHeartbeats 2000000
/-! DL13: texts as lists of signs. -/
namespace DL
open PySem PySem.Spec PyProof.Rows L2
theorem str_ext {x y : Str} (h : x.cps.toList = y.cps.toList) : x = y := by
  cases x; cases y
  congr 1
  exact Array.toList_inj.mp h
theorem app_l (a y : Str) : (a ++ y).cps.toList = a.cps.toList ++ y.cps.toList := by
  show (Str.append a y).cps.toList = _
  unfold Str.append
  simp
theorem joinE_list : ∀ ys : List Str, (Txt.join "" ys).cps.toList = (ys.map fun y => y.cps.toList).flatten := by
  intro ys
  show (Builtin.Str.glued "" ys).cps.toList = _
  rw [StrLaws.glued_eq_join]
  induction ys with
  | nil => rfl
  | cons a t ih =>
    cases t with
    | nil => show a.cps.toList = _; simp
    | cons b t =>
      show (a ++ "" ++ Str.join "" (b :: t)).cps.toList = _
      rw [app_l, app_l, ih]
      have : ("" : Str).cps.toList = [] := by decide
      rw [this]
      simp
theorem len_l (x : Str) : x.length = x.cps.toList.length := (Array.length_toList).symm
theorem join_ones_len : ∀ (cs : List Nat), ((cs.map fun c => (⟨#[c]⟩ : Str)).map (·.length)).sum = cs.length
  | [] => rfl
  | c :: cs => by
    rw [List.map_cons, List.map_cons, List.sum_cons, join_ones_len cs, List.length_cons]
    show 1 + _ = _
    omega
theorem joinE_ones (cs : List Nat) : Txt.join "" (cs.map fun c => (⟨#[c]⟩ : Str)) = ⟨cs.toArray⟩ := by
  refine str_ext ?_
  rw [joinE_list, List.map_map]
  show _ = cs
  induction cs with
  | nil => rfl
  | cons c cs ih =>
    rw [List.map_cons, List.flatten_cons, ih]
    rfl
theorem cutS_tail {z : Str} (h : 1 ≤ z.length) : (cutS z (some 1) none).cps.toList = z.cps.toList.drop 1 := by
  unfold cutS
  have e : HT.sIx z.length 0 (some 1) = 1 := by
    unfold HT.sIx
    show (if (1 : Int) < 0 then _ else min (1 : Int).toNat z.length) = 1
    rw [if_neg (by decide)]
    show min 1 z.length = 1
    omega
  have e2 : HT.sIx z.length z.length none = z.length := rfl
  rw [e, e2]
  show List.take (z.length - 1) (z.cps.toList.drop 1) = _
  rw [List.take_of_length_le]
  rw [List.length_drop, ← len_l]
  exact Nat.le_refl _
end DL

set_option maxHeartbeats 2000000
/-! DL14: an own list is looked at, and stays one's own. -/
namespace DL
open PySem PySem.Spec PyProof.Rows L2
/-- what stands still -/
def hideE : List (Option Sl) → List (Option Sl)
  | [] => []
  | some (.own _ _) :: t => none :: hideE t
  | s :: t => s :: hideE t
theorem hideE_at : ∀ {ρ : List (Option Sl)} {i : Nat} {s : Sl}, (hideE ρ)[i]? = some (some s) → ρ[i]? = some (some s) ∧ ∃ d, s = .frz d
  | [], i, s, h => by simp [hideE] at h
  | some (.own p A) :: t, i, s, h => by
    cases i with
    | zero => simp [hideE] at h
    | succ i =>
      have h' : (hideE t)[i]? = some (some s) := by simpa [hideE] using h
      simpa using hideE_at h'
  | some (.frz d) :: t, i, s, h => by
    cases i with
    | zero =>
      have h' : some (some (Sl.frz d)) = some (some s) := by simpa [hideE] using h
      cases h'
      exact ⟨rfl, d, rfl⟩
    | succ i =>
      have h' : (hideE t)[i]? = some (some s) := by simpa [hideE] using h
      simpa using hideE_at h'
  | none :: t, i, s, h => by
    cases i with
    | zero => simp [hideE] at h
    | succ i =>
      have h' : (hideE t)[i]? = some (some s) := by simpa [hideE] using h
      simpa using hideE_at h'
theorem hideE_len : ∀ ρ : List (Option Sl), (hideE ρ).length = ρ.length
  | [] => rfl
  | some (.own p A) :: t => congrArg (· + 1) (hideE_len t)
  | some (.frz d) :: t => congrArg (· + 1) (hideE_len t)
  | none :: t => congrArg (· + 1) (hideE_len t)
section
variable {K : PySem.W.Frag} {R F H F' H' : Hp} {σ σ' : L2.St} {ρ ρ' : List (Option Sl)} {v : V} {s : Sl} {d : PyData}
/-- the own things untouched, the old knowledge is back -/
theorem StD.back (h : StD K R F H σ ρ) (f : Sub F H') (r : Sub R H') (k : ∀ (i : Nat) p A, ρ[i]? = some (some (.own p A)) → ∀ a ∈ A.fp, H' a = H a) : StD K R F H' σ ρ where
  fh := f
  rh := r
  rf := h.rf
  sl := fun i s e => by
    obtain ⟨v, e1, q⟩ := h.sl i s e
    refine ⟨v, e1, ?_⟩
    cases s with
    | frz d => exact q
    | own p A => exact ⟨q.1, A.loc K F H H' (k i p A e) q.2⟩
  ff := h.ff
  dj := h.dj
  len := h.len
def peekE (ρ : List (Option Sl)) (i : Nat) (d : PyData) : List (Option Sl) := (hideE ρ).set i (some (.frz d))
theorem StD.peek {i : Nat} {p : Addr} {ds : List PyData} (h : StD K R F H σ ρ) (hi : ρ[i]? = some (some (.own p (oLst p ds)))) : ∃ R2 F2, Sub F F2 ∧ StD K R2 F2 H σ (peekE ρ i (.list ds)) ∧
    ∀ F' H', Sub F2 F' → (∃ σ' ρ', StD K R2 F' H' σ' ρ') → StD K R F H' σ ρ := by
  have T := h.frame fun k => k == i
  have il : i < ρ.length := (List.getElem?_eq_some_iff.mp hi).1
  obtain ⟨v0, ev, rv⟩ := h.sl i _ hi
  have U : StD K (mv R H ρ fun k => k == i) F H (some v0 :: σ) (some (.own p (oLst p ds)) :: (hideE ρ).set i none) := T.sub (fun j => if j = 0 then i else j - 1) (by rw [List.length_cons, List.length_cons, List.length_set, hideE_len, h.len]) (fun j s ej => by
      cases j with
      | zero =>
        have e' : some (some (Sl.own p (oLst p ds))) = some (some s) := ej
        cases e'
        exact ⟨lft_own hi (by simp), by simpa using ev.symm⟩
      | succ j =>
        have e' : ((hideE ρ).set i none)[j]? = some (some s) := by simpa using ej
        by_cases q : j = i
        · subst q
          rw [List.getElem?_set_self (by rw [hideE_len]; exact il)] at e'
          cases e'
        · rw [List.getElem?_set_ne (Ne.symm q)] at e'
          obtain ⟨e2, d, rfl⟩ := hideE_at e'
          rw [if_neg (by omega)]
          exact ⟨lft_frz (by simpa using e2), by simp⟩) (fun j l p' A' ne ej ⟨u, el⟩ => by
      cases j with
      | zero =>
        cases l with
        | zero => exact absurd rfl ne
        | succ l =>
          rw [if_pos rfl, if_neg (by omega)]
          intro z
          have e' : ((hideE ρ).set i none)[l]? = some (some u) := by simpa using el
          have : l = i := by omega
          subst this
          rw [List.getElem?_set_self (by rw [hideE_len]; exact il)] at e'
          cases e'
      | succ j =>
        have e' : ((hideE ρ).set i none)[j]? = some (some (.own p' A')) := by simpa using ej
        by_cases q : j = i
        · subst q
          rw [List.getElem?_set_self (by rw [hideE_len]; exact il)] at e'
          cases e'
        · rw [List.getElem?_set_ne (Ne.symm q)] at e'
          obtain ⟨_, d, z⟩ := hideE_at e'
          cases z)
  obtain ⟨F2, f2, g2, S2⟩ := U.freezeG (d := .list ds) fun F' f hf => by
    obtain ⟨rfl, vs, hp, t⟩ := rv
    exact .lst (.of (by rw [hf p (List.mem_singleton.mpr rfl)]; exact hp)) (DpAll.up f t)
  have S3 := S2.set (i := i)
  rw [List.set_set] at S3
  have e1 : σ.set i (some v0) = σ := by
    have il' : i < σ.length := (List.getElem?_eq_some_iff.mp ev).1
    refine List.ext_getElem? fun j => ?_
    by_cases q : j = i
    · subst q; rw [List.getElem?_set_self il']; exact ev.symm
    · rw [List.getElem?_set_ne (Ne.symm q)]
  rw [e1] at S3
  refine ⟨_, F2, f2, S3, fun F' H' f' ⟨σ', ρ', S'⟩ => h.back (H' := H') ((f2.trans f').trans S'.fh) (fun a o e => S'.rh a o ?_) fun j p' A' ej a ha => ?_⟩
  · unfold mv
    split
    · exact h.rh a o e
    · exact e
  · have al := SlR.al (s := .own p' A') (h.sl j _ ej).choose_spec.2 a ha
    by_cases q : j = i
    · subst q
      rw [hi] at ej
      cases ej
      have := g2 a ha
      cases z : H a with
      | none => exact absurd z al
      | some o => exact S'.fh a o (f' a o (by rw [this, z]))
    · cases z : H a with
      | none => exact absurd z al
      | some o =>
        refine S'.rh a o ?_
        unfold mv
        rw [if_pos ⟨j, _, ej, by simpa using q, ha⟩]
        exact z
end
section
variable {X : Cx} {c e : Expr} {ρ : List (Option Sl)} {P : Sl → List (Option Sl) → Prop} {PB : Bool → List (Option Sl) → Prop}
/-- a test that looks at an own list -/
theorem dt_peek (i : Nat) (k : Bool) {p : Addr} {ds : List PyData} (h : DT X c (peekE ρ i (.list ds)) fun b _ => b = k) (q : PB k ρ) (hi : ρ[i]? = some (some (.own p (oLst p ds))) := by rfl) : DT X c ρ PB :=
  pt_imp h fun σ H Q ⟨R, F, S, qq⟩ => by
    obtain ⟨R2, F2, f2, S2, bk⟩ := S.peek hi
    exact ⟨R2, F2, S2, fun b F' H' ρ' f pb S' => by
      subst pb
      exact qq b F H' ρ (Sub.refl F) q (bk F' H' f ⟨_, _, S'⟩)⟩
/-- .. a flat thing told by an own list -/
theorem de_peek (i : Nat) (d : PyData) {p : Addr} {ds : List PyData} (h : DE X e (peekE ρ i (.list ds)) fun s _ => s = .frz d) (hf : flatD d = true) (q : P (.frz d) ρ) (hi : ρ[i]? = some (some (.own p (oLst p ds))) := by rfl) : DE X e ρ P :=
  pe_imp h fun σ H Q ⟨R, F, S, qq⟩ => by
    obtain ⟨R2, F2, f2, S2, bk⟩ := S.peek hi
    exact ⟨R2, F2, S2, fun v F' H' s ρ' f ps S' => by
      subst ps
      have r := S'.headF
      have r2 : Dp X.K F v d := by
        cases r <;> first | exact absurd hf Bool.false_ne_true | constructor
      exact qq v F H' _ ρ (Sub.refl F) q ((bk F' H' f ⟨_, _, S'⟩).consF r2)⟩
end
end DL

set_option maxHeartbeats 2000000
/-! DL15: short rules. -/
namespace DL
open PySem PySem.Spec PyProof.Rows L2
section
variable {X : Cx} {P : Sl → Prop}
/-- a tuple and one thing more -/
theorem bd_catP {ds : List PyData} {e : PyData} (hz : ds.length + 1 ≤ sizeLine) (h : P (.frz (.tuple (ds ++ [e])))) : BinD X .Add (.tuple ds) (.tuple [e]) fun o => o.post P := by
  cases ds with
  | nil => exact bd_catT0 (by show 1 ≤ sizeLine; decide) h
  | cons a t => exact bd_cat (List.cons_ne_nil _ _) (List.cons_ne_nil _ _) hz h
end
end DL

set_option maxHeartbeats 2000000
/-! DL16: tables with text keys: the module's, written out. -/
namespace DL
open PySem PySem.Spec PyProof.Rows L2
/-- the module's table -/
structure TabC (K : PySem.W.Frag) (w : World) (mg : Str → Option Value) (x : Str) (es : List (Str × PyData)) : Prop where
  ex : ∃ a, mg x = some (.ref a) ∧ ∀ z d, (z, d) ∈ es → ∃ v, KDct K w a z v ∧ ∀ F, Dp K F v d
section
variable {X : Cx} {b : Expr} {ρ : List (Option Sl)} {P : Sl → List (Option Sl) → Prop} {pos p1 : Pos} {x : Str}
theorem de_tabC {es : List (Str × PyData)} (C : TabC X.K X.w X.mg x es) (h : DE X b ρ fun s ρ1 => ∃ z d, s = .frz (.str z) ∧ (z, d) ∈ es ∧ P (.frz d) ρ1) (hs : PlainIx b := by exact fun _ _ => rfl) (hg : Gl X x := by rfl) (hd : (x == ("__debug__" : Str)) = false := by decide) : DE X (.Subscript (.Name x p1) b pos) ρ P := by
  obtain ⟨a, hm, C⟩ := C.ex
  refine pe_imp (pe_ix ix_kdict (pe_glob (v := .ref a) hg hm rfl hd) h hs) fun σ H Q ⟨R, F, S, q⟩ => ⟨R, F, S, fun v F1 H1 s ρ1 f1 ⟨z, d, hs, hm, po⟩ S1 => ?_⟩
  subst hs
  have r := S1.headF
  cases r
  obtain ⟨v, kd, rd⟩ := C z d hm
  exact ⟨a, z, v, rfl, rfl, kd, q v F1 H1 _ ρ1 f1 po (S1.tail.consF (rd F1))⟩
/-- constants, pair by pair -/
abbrev trsC (es : List (Str × Int)) : List (TE × TE) := es.map fun e => (tC (.str e.1), tC (.int e.2))
theorem tPairs_C {σ : L2.St} : ∀ (es : List (Str × Int)) (H : Hp) (Q : List (V × V) → Hp → Prop), Q (es.map fun e => (V.str e.1, V.int e.2)) H → tPairs (trsC es) σ H Q
  | [], H, Q, h => h
  | e :: es, H, Q, h => tPairs_C es H (fun ps H3 => Q ((V.str e.1, V.int e.2) :: ps) H3) h
def tabV (es : List (Str × Int)) : List (Key × V) := mergeK [] (es.map fun e => (Sum.inr e.1, V.int e.2))
/-- {..}[b], all of it constants -/
theorem de_dlit {keys : List (Option Expr)} {values : List Expr} (es : List (Str × Int)) (hp : PPs X p1 keys values (trsC es)) (hu : X.A.units + 1 < cLine)
    (h : DE X b ρ fun s ρ1 => ∃ z i, s = .frz (.str z) ∧ valV (tabV es) (Sum.inr z) = some (.int i) ∧ P (.frz (.int i)) ρ1) (h15 : es.length ≤ 15) (hall : keys.all (·.isSome) = true := by rfl) (hl : keys.length = values.length := by rfl) (h0 : keys ≠ [] := by exact fun z => nomatch z)
    (hk15 : keys.length ≤ 15 := by decide) (hs : NoSl b := by exact fun _ _ => rfl) : DE X (.Subscript (.Dict keys values p1) b pos) ρ P :=
  pe_imp (pe_dget hu (pe_disp hp hall hl h0 hk15) h hs) fun σ H Q ⟨R, F, S, q⟩ => fun p hp0 => by
    refine tPairs_C es _ _ ⟨upd_same, es.map fun e => (Sum.inr e.1, V.int e.2), ?_, by rw [List.length_map]; exact h15, ?_⟩
    · rw [List.map_map]; rfl
    · rw [upd_upd]
      have S2 := S.newF (o := .dK (tabV es)) hp0
      refine ⟨R, _, S2, fun v F1 H1 s ρ1 f1 ⟨z, i, hs, hm, po⟩ S1 => ?_⟩
      subst hs
      have r := S1.headF
      cases r
      have hH : H1 p = some (.dK (tabV es)) := S1.fh p _ (f1 p _ upd_same)
      refine ⟨p, .int i, rfl, ?_, q (.int i) F1 H1 _ ρ1 ((Sub.new (S.freshF hp0)).trans f1) po (S1.tail.consF (.int i))⟩
      have g := DGet.k (k := Sum.inr z) hH
      rw [hm] at g
      exact g
end
end DL

set_option maxHeartbeats 2000000
/-! DL17: the head's facts, read. -/
namespace DL
open PySem PySem.Spec PyProof.Rows L2
def flatB : Value → PyData → Bool
  | .none, .none => true
  | .bool b, .bool c => b == c
  | .int i _, .int j => decide (i = j)
  | .str x _, .str y => decide (x = y)
  | _, _ => false
def datsB (f : Value → PyData → Bool) : List Value → List PyData → Bool
  | [], [] => true
  | u :: us, d :: ds => f u d && datsB f us ds
  | _, _ => false
/-- a value of the module is this thing: tuples, texts, ints -/
def datB (K : PySem.W.Frag) : Nat → Value → PyData → Bool
  | 0, u, d => flatB u d
  | n + 1, .ref a, .tuple ds => (match K.lookup a with
    | some ⟨.type c, _, .seq its _, _⟩ => decide (c = "tuple") && (decide (its.size ≤ sizeLine) && datsB (datB K n) its.toList ds)
    | _ => false)
  | n + 1, u, d => flatB u d
theorem flatB_ok {K : PySem.W.Frag} {u : Value} {d : PyData} (h : flatB u d = true) : ∃ v, RelV v u ∧ ∀ F, Dp K F v d := by
  cases u with
  | none => cases d with
    | none => exact ⟨.non, rfl, fun _ => .non⟩
    | _ => cases h
  | bool b => cases d with
    | bool c =>
      have e : b = c := eq_of_beq (show (b == c) = true from h)
      subst e
      exact ⟨.bl b, rfl, fun _ => .bl b⟩
    | _ => cases h
  | int i t => cases d with
    | int j =>
      have e : i = j := of_decide_eq_true h
      subst e
      exact ⟨.int i, ⟨t, rfl⟩, fun _ => .int i⟩
    | _ => cases h
  | str x t => cases d with
    | str y =>
      have e : x = y := of_decide_eq_true h
      subst e
      exact ⟨.str x, ⟨t, rfl⟩, fun _ => .str x⟩
    | _ => cases h
  | _ => cases d <;> cases h
theorem datsB_ok {K : PySem.W.Frag} {f : Value → PyData → Bool} (ok : ∀ u d, f u d = true → ∃ v, RelV v u ∧ ∀ F, Dp K F v d) : ∀ {us : List Value} {ds : List PyData}, datsB f us ds = true → ∃ vs, Vals vs us ∧ ∀ F, DpAll K F vs ds
  | [], [], _ => ⟨[], .nil, fun _ => .nil⟩
  | [], _ :: _, h => by cases h
  | _ :: _, [], h => by cases h
  | u :: us, d :: ds, h => by
    obtain ⟨h1, h2⟩ := He.ba (show (f u d && datsB f us ds) = true from h)
    obtain ⟨v, r, q⟩ := ok u d h1
    obtain ⟨vs, rs, qs⟩ := datsB_ok ok h2
    exact ⟨v :: vs, .cons r rs, fun F => .cons (q F) (qs F)⟩
theorem datB_ok {K : PySem.W.Frag} : ∀ (n : Nat) (u : Value) (d : PyData), datB K n u d = true → ∃ v, RelV v u ∧ ∀ F, Dp K F v d
  | 0, u, d, h => flatB_ok h
  | n + 1, u, d, h => by
    have other : flatB u d = true → ∃ v, RelV v u ∧ ∀ F, Dp K F v d := flatB_ok
    cases u with
    | ref a =>
      cases d with
      | tuple ds =>
        have h1 : (match K.lookup a with
          | some ⟨.type c, _, .seq its _, _⟩ => decide (c = "tuple") && (decide (its.size ≤ sizeLine) && datsB (datB K n) its.toList ds)
          | _ => false) = true := h
        cases q : K.lookup a with
        | none => rw [q] at h1; cases h1
        | some o =>
          obtain ⟨oc, od, dt, osl⟩ := o
          rw [q] at h1
          cases oc with
          | type c =>
            cases dt with
            | seq its m =>
              obtain ⟨h2, h3⟩ := He.ba (show (decide (c = "tuple") && (decide (its.size ≤ sizeLine) && datsB (datB K n) its.toList ds)) = true from h1)
              obtain ⟨h4, h5⟩ := He.ba h3
              obtain ⟨vs, rs, qs⟩ := datsB_ok (datB_ok n) h5
              exact ⟨.ref a, rfl, fun F => .tup (.inr ⟨_, its, m, q, congrArg Value.type (of_decide_eq_true h2), rfl, of_decide_eq_true h4, rs⟩) (qs F)⟩
            | _ => cases h1
          | _ => cases dt <;> cases h1
      | _ => cases h
    | _ => exact other (by cases d <;> exact h)
theorem Con.dat {K : PySem.W.Frag} {mg : Str → Option Value} {x : Str} {d : PyData} {n : Nat} {u : Value} (hm : mg x = some u) (h : datB K n u d = true) : Con K mg x d := by
  obtain ⟨v, r, q⟩ := datB_ok n u d h
  exact ⟨v, _, hm, r, q⟩
theorem TabC.of {K : PySem.W.Frag} {w : World} {mg : Str → Option Value} {x : Str} {a : Addr} {es : List (Str × Int)} (hm : mg x = some (.ref a)) (hd : ∃ es n, KDict K w a es n) (h : He.valsB K a (es.map fun e => (e.1, He.Dv.int e.2)) = true) : TabC K w mg x (es.map fun e => (e.1, PyData.int e.2)) := by
  obtain ⟨ds, n, D⟩ := hd
  refine ⟨a, hm, fun z d hz => ?_⟩
  obtain ⟨e, he, e2⟩ := List.mem_map.mp hz
  cases e2
  obtain ⟨u, h1, h2⟩ := He.valsB_ok h (List.mem_map.mpr ⟨e, he, rfl⟩)
  exact ⟨.int e.2, ⟨ds, n, u, D.at_, D.lit, h1, h2⟩, fun F => .int e.2⟩
theorem std_nil {K : PySem.W.Frag} {H : Hp} : StD K (fun _ => none) H H [] [] where
  fh := Sub.refl H
  rh := fun a o e => by cases e
  rf := fun a h => absurd rfl h
  sl := fun i s e => by simp at e
  ff := fun i s a e _ => by simp at e
  dj := fun i j s u a _ e _ _ => by simp at e
  len := rfl
/-- the law's script stands still -/
theorem spF_law {K : PySem.W.Frag} {n : Nat} {post : List Int → Sl → Prop} {H : Hp} {a : Addr} {ns : List Int} {E : XK} (hl : ns.length ≤ n) (hS : SqL K H a (ns.map V.int)) (hp : ∀ s, post ns s → s = .frz (.bool true)) : spF K (fun ns : List Int => ns.length ≤ n) (fun ns => [.list (ns.map .int)]) post [.ref a] H (fun v _ => v = .bl true) E := by
  refine ⟨ns, fun _ => none, H, hl, std_nil, .cons (.lst hS (DpAll.of_ints ns)) .nil, fun v F' H' s f ps S => ?_⟩
  rw [hp s ps] at S
  have r := S.headF
  cases r
  rfl
end DL

set_option maxHeartbeats 4000000
namespace WF
open PySem PySem.Spec PyProof.Rows L2 DL
local macro_rules | `(tactic| walk_at "F") => `(tactic| (first | refine isF_frz ?_ | refine isF_own ?_))
local macro_rules | `(tactic| walk_at "sz") => `(tactic| (first | decide | omega | (simp; done) | (simp; omega)))
local macro_rules | `(tactic| walk_at "sh") => `(tactic| (first | rfl | assumption | (simp; done)))
local macro_rules | `(tactic| walk_at "fl") => `(tactic| (first | rfl | decide | (simp; done)))
local macro_rules | `(tactic| walk_at "add") => `(tactic| (first | refine bd_add ?_ | refine bd_adds (by walk_at "sz") ?_ | refine bd_cat (by simp) (by simp) (by walk_at "sz") ?_))
local macro_rules | `(tactic| walk_at "mul") => `(tactic| (first | refine bd_mul (by first | exact .inl (by decide) | exact .inr (by decide)) ?_))
local macro_rules | `(tactic| walk_at "eq") => `(tactic| (first | refine cd_eqi ?_ | refine cd_eqs ?_ | refine cd_eqD hr.units (by walk_at "sh") (by walk_at "sh") ?_))
local macro_rules | `(tactic| walk_at "ne") => `(tactic| (first | refine cd_nei ?_ | refine cd_nes ?_ | refine cd_neD hr.units (by walk_at "sh") (by walk_at "sh") ?_))
local macro_rules | `(tactic| walk_at "in") => `(tactic| (first | refine cd_inc ?_ | refine cd_ins ?_ | refine cd_inT rfl (by walk_at "fl") ?_ | refine cd_inL rfl (by walk_at "fl") ?_))
local macro_rules | `(tactic| walk_at "nin") => `(tactic| (first | refine cd_ninc ?_ | refine cd_ninT rfl (by walk_at "fl") ?_ | refine cd_ninL rfl (by walk_at "fl") ?_))
local macro_rules | `(tactic| walk_at "v0") => `(tactic| (first | refine de_name 0 ?_ | refine de_fz 0 ?_))
local macro_rules | `(tactic| walk_at "v1") => `(tactic| (first | refine de_name 1 ?_ | refine de_fz 1 ?_))
local macro_rules | `(tactic| walk_at "v2") => `(tactic| (first | refine de_name 2 ?_ | refine de_fz 2 ?_))
local macro_rules | `(tactic| walk_at "v3") => `(tactic| (first | refine de_name 3 ?_ | refine de_fz 3 ?_))
local macro_rules | `(tactic| walk_at "v4") => `(tactic| (first | refine de_name 4 ?_ | refine de_fz 4 ?_))
local macro_rules | `(tactic| walk_at "v5") => `(tactic| (first | refine de_name 5 ?_ | refine de_fz 5 ?_))
local macro_rules | `(tactic| walk_at "v6") => `(tactic| (first | refine de_name 6 ?_ | refine de_fz 6 ?_))
local macro_rules | `(tactic| walk_at "v7") => `(tactic| (first | refine de_name 7 ?_ | refine de_fz 7 ?_))
local macro_rules | `(tactic| walk_at "v8") => `(tactic| (first | refine de_name 8 ?_ | refine de_fz 8 ?_))
local macro_rules | `(tactic| walk_at "v9") => `(tactic| (first | refine de_name 9 ?_ | refine de_fz 9 ?_))
local macro_rules | `(tactic| walk_at "v10") => `(tactic| (first | refine de_name 10 ?_ | refine de_fz 10 ?_))
local macro_rules | `(tactic| walk_at "v11") => `(tactic| (first | refine de_name 11 ?_ | refine de_fz 11 ?_))
local macro_rules | `(tactic| walk_at "v12") => `(tactic| (first | refine de_name 12 ?_ | refine de_fz 12 ?_))
local macro_rules | `(tactic| walk_at "v13") => `(tactic| (first | refine de_name 13 ?_ | refine de_fz 13 ?_))
local macro_rules | `(tactic| walk_at "v14") => `(tactic| (first | refine de_name 14 ?_ | refine de_fz 14 ?_))
local macro_rules | `(tactic| walk_at "v15") => `(tactic| (first | refine de_name 15 ?_ | refine de_fz 15 ?_))
local macro_rules | `(tactic| walk_at "v16") => `(tactic| (first | refine de_name 16 ?_ | refine de_fz 16 ?_))
local macro_rules | `(tactic| walk_at "v17") => `(tactic| (first | refine de_name 17 ?_ | refine de_fz 17 ?_))
local macro_rules | `(tactic| walk_at "v18") => `(tactic| (first | refine de_name 18 ?_ | refine de_fz 18 ?_))
local macro_rules | `(tactic| walk_at "v19") => `(tactic| (first | refine de_name 19 ?_ | refine de_fz 19 ?_))
local macro_rules | `(tactic| walk_at "pow") => `(tactic| exact ⟨by decide, by decide, by first | decide | omega⟩)
local macro_rules | `(tactic| walk_at "cut") => `(tactic| (apply Exists.intro; refine ⟨?_, ?_⟩))

def top (i : Nat) : Stmt := PySem.Challenge.pw_wallfeet_k03_whole_walkers_tick_by_tick.main.body.getD i (.Pass ⟨0, 0, 0, 0⟩)
abbrev s_is_within : Stmt := top 9
abbrev s_is_row : Stmt := top 10
abbrev s_is_room_value : Stmt := top 11
abbrev s_need_room : Stmt := top 12
abbrev s_is_free : Stmt := top 13
abbrev s_is_entry : Stmt := top 18
abbrev s_is_table_value : Stmt := top 19
abbrev s_need_table : Stmt := top 20
abbrev s_turned_to : Stmt := top 26
abbrev s_beside : Stmt := top 27
abbrev s_has_wall : Stmt := top 28
abbrev s_sight_of : Stmt := top 29
abbrev s_after : Stmt := top 30
abbrev s_need_both : Stmt := top 31
abbrev s_need_start : Stmt := top 32
abbrev s_need_ticks : Stmt := top 33
abbrev s_sight : Stmt := top 34
abbrev s_stands_along : Stmt := top 35
abbrev s_walk : Stmt := top 36
abbrev s_sights : Stmt := top 37
abbrev s_law_deck : Stmt := top 39
abbrev s_law_pick : Stmt := top 40
abbrev s_law_one : Stmt := top 41
abbrev s_law_sort : Stmt := top 42
abbrev s_law_same : Stmt := top 43
abbrev s_law_room : Stmt := top 44
abbrev s_law_hand : Stmt := top 45
abbrev s_law_table : Stmt := top 46
abbrev s_law_is_open : Stmt := top 47
abbrev s_law_all_free : Stmt := top 48
abbrev s_law_all_starts : Stmt := top 49
abbrev s_law_next_cell : Stmt := top 50
abbrev s_law_to : Stmt := top 51
abbrev s_law_barred : Stmt := top 52
abbrev s_law_sees : Stmt := top 53
abbrev s_law_tick : Stmt := top 54
abbrev s_law : Stmt := top 55
section
variable {P : Program} {w : World} {K : PySem.W.Frag} {mg : Str → Option Value} {base : Heap}
theorem sc_law_deck : FnScope ["_law_cell", "_law_turn"] ["_law_cell", "_law_turn"] (defScope s_law_deck) := ⟨rfl, rfl, rfl, by decide +kernel, rfl, by decide +kernel, by decide +kernel⟩
theorem ok_law_deck (T : Txt mg) (D : Df K mg "_law_deck" s_law_deck) : Has P w K mg base 1 "_law_deck" (spF K (ι := Int × Int) (fun y => 0 ≤ y.2 ∧ y.2 ≤ 1000) (fun y => [.int y.1, .int y.2]) (fun y s => ∃ p a b c, s = .own p (oLst p [.int a, .int b, .int c]) ∧ 0 ≤ b ∧ b < 2147483579 ∧ 0 ≤ c ∧ c ≤ 1000)) := by
  have sc := sc_law_deck
  refine has_F D sc (fun y _ => rfl) (fun _ _ _ _ _ _ us hl => match us, hl with | [_, _], _ => rfl) (fun f cdv A outer s H E hr y py => ?_)
  obtain ⟨n, m⟩ := y
  refine dss_cons ?_
  refine ds_if ?_
  refine dt_cmp ?_
  walk_at "v0"
  walk_at "F"
  refine de_bin ?_
  refine de_int ?_
  walk_at "F"
  refine de_int ?_
  walk_at "F"
  refine bd_pow (by walk_at "pow") ?_
  walk_at "F"
  refine cd_ge ?_
  refine ite2 (fun h1 => ?_) (fun h1 => ?_)
  · refine dss_one ?_
    refine ds_ret ?_
    refine de_lst ?_
    refine da_cons ?_
    refine de_bin ?_
    walk_at "v0"
    walk_at "F"
    refine de_bin ?_
    refine de_int ?_
    walk_at "F"
    refine de_int ?_
    walk_at "F"
    refine bd_pow (by walk_at "pow") ?_
    walk_at "F"
    refine bd_sub ?_
    walk_at "F"
    refine da_cons ?_
    refine de_bin ?_
    walk_at "v0"
    walk_at "F"
    refine de_int ?_
    walk_at "F"
    refine bd_mod (by first | decide | omega) ?_
    walk_at "F"
    refine da_cons ?_
    walk_at "v1"
    walk_at "F"
    refine da_nil ?_
    refine ⟨by show 3 ≤ sizeLine; decide, ?_⟩
    intro q
    exact ⟨_, _, _, _, rfl, by omega, by omega, py.1, py.2⟩
  · refine dss_nil ?_
    refine dss_one ?_
    refine ds_ret ?_
    refine de_lst ?_
    refine da_cons ?_
    refine de_int ?_
    walk_at "F"
    refine da_cons ?_
    refine de_bin ?_
    walk_at "v0"
    walk_at "F"
    refine de_int ?_
    walk_at "F"
    refine bd_mod (by first | decide | omega) ?_
    walk_at "F"
    refine da_cons ?_
    walk_at "v1"
    walk_at "F"
    refine da_nil ?_
    refine ⟨by show 3 ≤ sizeLine; decide, ?_⟩
    intro q
    exact ⟨_, _, _, _, rfl, by omega, by omega, py.1, py.2⟩

theorem sc_law_pick : FnScope ["_law_deck_here", "_law_size", "_law_number", "_law_found"] ["_law_deck_here", "_law_size"] (defScope s_law_pick) := ⟨rfl, rfl, rfl, by decide +kernel, rfl, by decide +kernel, by decide +kernel⟩
theorem ok_law_pick (T : Txt mg) (D : Df K mg "_law_pick" s_law_pick) : Has P w K mg base 1 "_law_pick" (spK K (ι := Int × Nat) (fun y => 0 < y.1 ∧ y.1 < 1073741824) (fun y p => oDeck (y.2 + 1) p) (fun y => [.int y.1]) (fun y p s B => ∃ n, s = .frz (.int n) ∧ 0 ≤ n ∧ n < y.1 ∧ B = oDeck y.2 p)) := by
  have sc := sc_law_pick
  refine has_K D sc (fun y _ => rfl) (fun _ _ _ _ _ _ us hl => match us, hl with | [_, _], _ => rfl) (fun f cdv A outer s H E hr y p py => ?_)
  obtain ⟨n, m⟩ := y
  refine dss_deck 0 rfl fun a b c b0 b1 c0 c1 => ?_
  refine dss_cons ?_
  refine ds_if ?_
  refine dt_cmp ?_
  refine de_subO 0 ?_ ⟨_, _, rfl⟩
  refine de_int ?_
  refine ⟨_, _, _, _, rfl, rfl, rfl, ?_⟩
  walk_at "F"
  refine de_int ?_
  walk_at "F"
  refine cd_gt ?_
  refine ite2 (fun h1 => ?_) (fun h1 => ?_)
  · refine dss_cons ?_
    refine ds_set 3 ?_ sc.nd
    refine de_bin ?_
    refine de_toint T ?_
    refine da_cons ?_
    refine de_subO 0 ?_ ⟨_, _, rfl⟩
    refine de_int ?_
    refine ⟨_, _, _, _, rfl, rfl, rfl, ?_⟩
    walk_at "F"
    refine da_nil ?_
    (first | refine cl_int ?_ | refine cl_intb ?_)
    walk_at "F"
    walk_at "v1"
    walk_at "F"
    refine bd_mod (by first | decide | omega) ?_
    refine dss_cons ?_
    refine ds_item 0 ?_ ⟨_, _, rfl⟩
    refine de_bin ?_
    refine de_subO 0 ?_ ⟨_, _, rfl⟩
    refine de_int ?_
    refine ⟨_, _, _, _, rfl, rfl, rfl, ?_⟩
    walk_at "F"
    walk_at "v1"
    walk_at "F"
    refine bd_fdiv (by first | decide | omega) ?_
    walk_at "F"
    refine de_int ?_
    refine ⟨_, _, _, _, rfl, rfl, rfl, ?_⟩
    refine dss_one ?_
    refine ds_ret ?_
    walk_at "v3"
    exact ⟨_, oDeck m p, rfl, weak_lst b0 b1 (by omega) (by omega), _, rfl, Int.emod_nonneg _ (by have := py.1; omega), Int.emod_lt_of_pos _ py.1, rfl⟩
  · refine dss_nil ?_
    refine dss_cons ?_
    refine ds_item 0 ?_ ⟨_, _, rfl⟩
    refine de_bin ?_
    refine de_subO 0 ?_ ⟨_, _, rfl⟩
    refine de_int ?_
    refine ⟨_, _, _, _, rfl, rfl, rfl, ?_⟩
    walk_at "F"
    refine de_int ?_
    walk_at "F"
    walk_at "add"
    walk_at "F"
    refine de_int ?_
    refine ⟨_, _, _, _, rfl, rfl, rfl, ?_⟩
    refine dss_cons ?_
    refine ds_set 2 ?_ sc.nd
    refine de_bin ?_
    refine de_bin ?_
    refine de_bin ?_
    refine de_subO 0 ?_ ⟨_, _, rfl⟩
    refine de_int ?_
    refine ⟨_, _, _, _, rfl, rfl, rfl, ?_⟩
    walk_at "F"
    refine de_bin ?_
    refine de_int ?_
    walk_at "F"
    refine de_subO 0 ?_ ⟨_, _, rfl⟩
    refine de_int ?_
    refine ⟨_, _, _, _, rfl, rfl, rfl, ?_⟩
    walk_at "F"
    walk_at "mul"
    walk_at "F"
    walk_at "add"
    walk_at "F"
    refine de_int ?_
    walk_at "F"
    refine bd_pow (by walk_at "pow") ?_
    walk_at "F"
    refine de_int ?_
    walk_at "F"
    refine bd_mod (by first | decide | omega) ?_
    refine dss_cons ?_
    refine ds_set 3 ?_ sc.nd
    refine de_bin ?_
    refine de_bin ?_
    refine de_bin ?_
    refine de_bin ?_
    walk_at "v2"
    walk_at "F"
    refine de_bin ?_
    refine de_int ?_
    walk_at "F"
    refine de_subO 0 ?_ ⟨_, _, rfl⟩
    refine de_int ?_
    refine ⟨_, _, _, _, rfl, rfl, rfl, ?_⟩
    walk_at "F"
    walk_at "mul"
    walk_at "F"
    walk_at "add"
    walk_at "F"
    refine de_int ?_
    walk_at "F"
    refine bd_pow (by walk_at "pow") ?_
    walk_at "F"
    refine de_int ?_
    walk_at "F"
    refine bd_mod (by first | decide | omega) ?_
    walk_at "F"
    refine de_int ?_
    walk_at "F"
    refine bd_fdiv (by first | decide | omega) ?_
    refine dss_one ?_
    refine ds_ret ?_
    refine de_bin ?_
    refine de_toint T ?_
    refine da_cons ?_
    walk_at "v3"
    walk_at "F"
    refine da_nil ?_
    (first | refine cl_int ?_ | refine cl_intb ?_)
    walk_at "F"
    walk_at "v1"
    walk_at "F"
    refine bd_mod (by first | decide | omega) ?_
    exact ⟨_, oDeck m p, rfl, weak_lst b0 b1 (by omega) (by omega), _, rfl, Int.emod_nonneg _ (by have := py.1; omega), Int.emod_lt_of_pos _ py.1, rfl⟩

def isWithin (d : PyData) (lo hi : Int) : Bool := match d with
  | .int i => decide (lo ≤ i) && decide (i ≤ hi)
  | _ => false
abbrev n_is_within : List Str := ["value", "low", "high"]
theorem sc_is_within : FnScope n_is_within ["value", "low", "high"] (defScope s_is_within) := ⟨rfl, rfl, rfl, by decide +kernel, rfl, by decide +kernel, by decide +kernel⟩
abbrev p_is_within (K : PySem.W.Frag) : Sp := spF K (ι := PyData × Int × Int) (fun _ => True) (fun y => [y.1, .int y.2.1, .int y.2.2]) (fun y s => s = .frz (.bool (isWithin y.1 y.2.1 y.2.2)))
theorem ok_is_within (T : Txt mg) (D : Df K mg "is_within" s_is_within) : Has P w K mg base 1 "is_within" (p_is_within K) := by
  have sc := sc_is_within
  refine has_F D sc (fun y _ => rfl) (fun _ _ _ _ _ _ us hl => match us, hl with | [_, _, _], _ => rfl) (fun f cdv A outer s H E hr y _ => ?_)
  obtain ⟨d, lo, hi⟩ := y
  refine dss_one ?_
  refine ds_ret ?_
  refine de_andP ?_
  refine de_isi_int T ?_
  walk_at "v0"
  walk_at "F"
  refine ⟨_, rfl, !kBool d && isWithin d lo hi, fun h1 => ?_, ?_⟩
  · refine de_andP ?_
    refine de_not ?_
    refine de_isi_bool T ?_
    walk_at "v0"
    walk_at "F"
    refine ⟨_, rfl, ?_⟩
    refine ⟨_, rfl, isWithin d lo hi, fun h2 => ?_, ?_⟩
    · obtain ⟨i, rfl⟩ : ∃ i, d = .int i := by
        cases d <;> first | exact ⟨_, rfl⟩ | (simp at h1 h2)
      refine de_one ?_
      refine de_chainP ?_
      walk_at "v1"
      walk_at "F"
      walk_at "v0"
      walk_at "F"
      refine cd_le ?_
      walk_at "cut"
      · intro h3
        walk_at "v2"
        walk_at "F"
        refine cd_le ?_
        exact ⟨rfl, rfl⟩
      exact ⟨rfl, rfl⟩
    exact ⟨rfl, rfl⟩
  cases d <;> rfl

/-- a row of a room, told by looking -/
def rowOk (x : Str) : Bool := (decide ((1 : Int) ≤ (x.length : Int)) && decide ((x.length : Int) ≤ 6)) && x.cps.toList.all fun c => decide (c ∈ (".#" : Str).cps.toList)
def isRow (d : PyData) : Bool := match d with
  | .str x => rowOk x
  | _ => false
/-- texts of a size that len takes -/
def szS (d : PyData) : Prop := ∀ x, d = .str x → x.length ≤ sizeLine
abbrev n_is_row : List Str := ["value", "sign"]
theorem sc_is_row : FnScope n_is_row ["value"] (defScope s_is_row) := ⟨rfl, rfl, rfl, by decide +kernel, rfl, by decide +kernel, by decide +kernel⟩
abbrev p_is_row (K : PySem.W.Frag) : Sp := spF K (ι := PyData) szS (fun y => [y]) (fun y s => s = .frz (.bool (isRow y)))
theorem ok_is_row (T : Txt mg) (C_MOST_WIDE : Con K mg "MOST_WIDE" (.int 6)) (D : Df K mg "is_row" s_is_row) : Has P w K mg base 1 "is_row" (p_is_row K) := by
  have sc := sc_is_row
  refine has_F D sc (fun y _ => rfl) (fun _ _ _ _ _ _ us hl => match us, hl with | [_], _ => rfl) (fun f cdv A outer s H E hr y py => ?_)
  refine dss_one ?_
  refine ds_ret ?_
  refine de_andP ?_
  refine de_isi_str T ?_
  walk_at "v0"
  walk_at "F"
  refine ⟨_, rfl, isRow y, fun h1 => ?_, ?_⟩
  · obtain ⟨x, rfl⟩ : ∃ x, y = .str x := by
      cases y <;> first | exact ⟨_, rfl⟩ | (simp at h1)
    have hx := py x rfl
    refine de_andP ?_
    refine de_chainP ?_
    refine de_int ?_
    walk_at "F"
    refine de_len T ?_
    refine da_cons ?_
    walk_at "v0"
    walk_at "F"
    refine da_nil ?_
    refine cl_lenS hx ?_
    walk_at "F"
    refine cd_le ?_
    walk_at "cut"
    · intro h2
      refine de_con C_MOST_WIDE ?_
      walk_at "F"
      refine cd_le ?_
      exact ⟨rfl, rfl⟩
    refine ⟨_, rfl, ?_⟩
    walk_at "cut"
    · intro h3
      have h4 : x.length ≤ 6 := by
        rw [Bool.and_eq_true] at h3
        have := of_decide_eq_true h3.2
        omega
      have h5 : x.cps.toList.length < sizeLine := Nat.lt_of_le_of_lt (m := 6) (by simpa [Str.length] using h4) (by decide)
      refine de_one ?_
      refine de_all T ?_
      refine da_cons ?_
      refine de_lc [("sign", 1)] ?_ sc.nd (blkOk_by (N := n_is_row) (sc := defScope s_is_row) (by decide +kernel))
      refine di_str ?_
      walk_at "v0"
      walk_at "F"
      refine ⟨_, rfl, ?_⟩
      refine lc_map (xs := x.cps.toList) (fun c => .bool (decide (c ∈ (".#" : Str).cps.toList))) rfl h5 ?_ ?_
      · intro i x hx s H C cl fp
        refine dg_name 1 ?_ sc.nd
        intro s H C cl fp
        refine dts_nil ?_
        refine ⟨rfl, ?_⟩
        intro s H C cl fp
        refine de_cmp ?_
        walk_at "v1"
        walk_at "F"
        refine de_str ?_
        walk_at "F"
        walk_at "in"
        walk_at "F"
        exact ⟨rfl, rfl⟩
      intro q
      walk_at "F"
      refine da_nil ?_
      refine cl_allM ?_
      exact ⟨rfl, rfl⟩
    exact ⟨rfl, rfl⟩
  cases y <;> rfl

def strOf : PyData → Str
  | .str x => x
  | _ => Str.empty
def tupOf : PyData → List PyData
  | .tuple ds => ds
  | _ => []
/-- so many rows, all of them rows -/
def rowsOk (ds : List PyData) : Bool := (decide ((1 : Int) ≤ (ds.length : Int)) && decide ((ds.length : Int) ≤ 5)) && ds.all isRow
/-- as wide as the first, one sign free -/
def evenOk (ds : List PyData) : Bool := (ds.all fun d => decide (((strOf d).length : Int) = ((strOf (ds.headD .none)).length : Int))) && ds.any fun d => decide (46 ∈ (strOf d).cps.toList)
def isRoom (d : PyData) : Bool := kTup d && rowsOk (tupOf d) && evenOk (tupOf d)
def szT (d : PyData) : Prop := ∀ ds, d = .tuple ds → ∀ e ∈ ds, szS e
theorem row_str {d : PyData} (h : isRow d = true) : ∃ x, d = .str x ∧ rowOk x = true := by
  cases d <;> first | exact ⟨_, rfl, h⟩ | (exact absurd h Bool.false_ne_true)
abbrev n_is_room_value : List Str := ["value", "row"]
theorem sc_is_room_value : FnScope n_is_room_value ["value"] (defScope s_is_room_value) := ⟨rfl, rfl, rfl, by decide +kernel, rfl, by decide +kernel, by decide +kernel⟩
abbrev p_is_room_value (K : PySem.W.Frag) : Sp := spF K (ι := PyData) szT (fun y => [y]) (fun y s => s = .frz (.bool (isRoom y)))
theorem ok_is_room_value (T : Txt mg) (C_MOST_HIGH : Con K mg "MOST_HIGH" (.int 5)) (G_is_row : Has P w K mg base 1 "is_row" (p_is_row K)) (D : Df K mg "is_room_value" s_is_room_value) : Has P w K mg base 2 "is_room_value" (p_is_room_value K) := by
  have sc := sc_is_room_value
  refine has_F D sc (fun y _ => rfl) (fun _ _ _ _ _ _ us hl => match us, hl with | [_], _ => rfl) (fun f cdv A outer s H E hr y py => ?_)
  refine dss_cons ?_
  refine ds_if ?_
  refine dt_of_dw ?_
  refine dw_orP ?_
  refine dt_not ?_
  refine dt_val ?_
  refine de_isi_tuple T ?_
  walk_at "v0"
  walk_at "F"
  refine ⟨_, rfl, ?_⟩
  refine ⟨!rowsOk (tupOf y), fun h1 => ?_, ?_⟩
  · obtain ⟨ds, rfl⟩ : ∃ ds, y = .tuple ds := by
      cases y <;> first | exact ⟨_, rfl⟩ | (simp at h1)
    refine dw_orP ?_
    refine dt_not ?_
    refine dt_chainP ?_
    refine de_int ?_
    walk_at "F"
    refine de_len T ?_
    refine da_cons ?_
    walk_at "v0"
    walk_at "F"
    refine da_nil ?_
    refine cl_lenT ?_
    walk_at "F"
    refine cd_le ?_
    walk_at "cut"
    · intro h2
      refine de_con C_MOST_HIGH ?_
      walk_at "F"
      refine cd_le ?_
      exact ⟨rfl, rfl⟩
    walk_at "cut"
    · intro h3
      have h4 : (ds.length : Int) ≤ 5 := by
        rw [Bool.not_eq_false', Bool.and_eq_true] at h3
        exact of_decide_eq_true h3.2
      refine dw_or1 ?_
      refine dt_not ?_
      refine dt_val ?_
      refine de_all T ?_
      refine da_cons ?_
      refine de_lc [("row", 1)] ?_ sc.nd (blkOk_by (N := n_is_room_value) (sc := defScope s_is_room_value) (by decide +kernel))
      refine di_tup ?_
      walk_at "v0"
      walk_at "F"
      refine ⟨_, rfl, ?_⟩
      refine lc_map (xs := ds) (f := id) (fun d => .bool (isRow d)) (List.map_id _).symm (Nat.lt_of_le_of_lt (m := 5) (by omega) (by decide)) ?_ ?_
      · intro i x hx s H C cl fp
        refine dg_name 1 ?_ sc.nd
        intro s H C cl fp
        refine dts_nil ?_
        refine ⟨rfl, ?_⟩
        intro s H C cl fp
        refine de_callF G_is_row (hr.mono (by decide)) ?_
        refine da_cons ?_
        walk_at "v1"
        walk_at "F"
        refine da_nil ?_
        refine ⟨x, py ds rfl x (List.mem_of_getElem? hx), rfl, ?_⟩
        rintro _ rfl
        walk_at "F"
        exact ⟨rfl, rfl⟩
      intro q
      walk_at "F"
      refine da_nil ?_
      refine cl_allM ?_
      refine ⟨_, rfl, ?_⟩
      exact ⟨rfl, rfl⟩
    refine ⟨?_, rfl⟩
    simp only [rowsOk, tupOf, Bool.not_and]
    rfl
  refine ite2 (fun h4 => ?_) (fun h4 => ?_)
  · refine dss_one ?_
    refine ds_ret ?_
    refine de_bl ?_
    show Sl.frz _ = Sl.frz _
    have : isRoom y = false := by
      unfold isRoom
      cases h5 : kTup y with
      | false => rfl
      | true =>
        rw [h5] at h4
        have : rowsOk (tupOf y) = false := by simpa using h4
        rw [this]; rfl
    rw [this]
  · refine dss_nil ?_
    obtain ⟨h5, h6⟩ : kTup y = true ∧ rowsOk (tupOf y) = true := by simpa using h4
    obtain ⟨ds, rfl⟩ : ∃ ds, y = .tuple ds := by
      cases y <;> first | exact ⟨_, rfl⟩ | (simp at h5)
    have h7 : rowsOk ds = true := h6
    obtain ⟨h8, h9⟩ : (1 ≤ ds.length ∧ ds.length ≤ 5) ∧ ∀ d ∈ ds, isRow d = true := by
      unfold rowsOk at h7
      rw [Bool.and_eq_true, Bool.and_eq_true, List.all_eq_true] at h7
      have a1 := of_decide_eq_true h7.1.1
      have a2 := of_decide_eq_true h7.1.2
      exact ⟨by omega, h7.2⟩
    have hz : ds.length < sizeLine := Nat.lt_of_le_of_lt (m := 5) h8.2 (by decide)
    have lenS : ∀ {x : Str}, rowOk x = true → x.length ≤ sizeLine := fun {x} h => by
      unfold rowOk at h
      rw [Bool.and_eq_true, Bool.and_eq_true] at h
      have a2 := of_decide_eq_true h.1.2
      exact Nat.le_trans (m := 6) (by omega) (by decide)
    obtain ⟨d0, ds', rfl⟩ : ∃ d0 ds', ds = d0 :: ds' := by
      cases ds with
      | nil => simp at h8
      | cons a t => exact ⟨a, t, rfl⟩
    obtain ⟨x0, rfl, hx0⟩ := row_str (h9 d0 List.mem_cons_self)
    refine dss_one ?_
    refine ds_ret ?_
    refine de_andP ?_
    refine de_all T ?_
    refine da_cons ?_
    refine de_lc [("row", 1)] ?_ sc.nd (blkOk_by (N := n_is_room_value) (sc := defScope s_is_room_value) (by decide +kernel))
    refine di_tup ?_
    walk_at "v0"
    walk_at "F"
    refine ⟨_, rfl, ?_⟩
    refine lc_map (xs := .str x0 :: ds') (f := id) (fun d => .bool (decide (((strOf d).length : Int) = (x0.length : Int)))) (List.map_id _).symm hz ?_ ?_
    · intro i x hx s H C cl fp
      obtain ⟨x, rfl, hx2⟩ := row_str (h9 _ (List.mem_of_getElem? hx))
      refine dg_name 1 ?_ sc.nd
      intro s H C cl fp
      refine dts_nil ?_
      refine ⟨rfl, ?_⟩
      intro s H C cl fp
      refine de_cmp ?_
      refine de_len T ?_
      refine da_cons ?_
      walk_at "v1"
      walk_at "F"
      refine da_nil ?_
      refine cl_lenS (lenS hx2) ?_
      walk_at "F"
      refine de_len T ?_
      refine da_cons ?_
      refine de_sub ?_
      walk_at "v0"
      walk_at "F"
      refine de_int ?_
      walk_at "F"
      refine sd_tup (d := .str x0) (atI_zero _ _) ?_
      walk_at "F"
      refine da_nil ?_
      refine cl_lenS (lenS hx0) ?_
      walk_at "F"
      refine cd_eqi ?_
      walk_at "F"
      exact ⟨rfl, rfl⟩
    intro q
    walk_at "F"
    refine da_nil ?_
    refine cl_allM ?_
    refine ⟨_, rfl, ?_⟩
    walk_at "cut"
    · intro h10
      refine de_one ?_
      refine de_any T ?_
      refine da_cons ?_
      refine de_lc [("row", 1)] ?_ sc.nd (blkOk_by (N := n_is_room_value) (sc := defScope s_is_room_value) (by decide +kernel))
      refine di_tup ?_
      walk_at "v0"
      walk_at "F"
      refine ⟨_, rfl, ?_⟩
      refine lc_map (xs := .str x0 :: ds') (f := id) (fun d => .bool (decide (46 ∈ (strOf d).cps.toList))) (List.map_id _).symm hz ?_ ?_
      · intro i x hx s H C cl fp
        obtain ⟨x, rfl, hx2⟩ := row_str (h9 _ (List.mem_of_getElem? hx))
        refine dg_name 1 ?_ sc.nd
        intro s H C cl fp
        refine dts_nil ?_
        refine ⟨rfl, ?_⟩
        intro s H C cl fp
        refine de_cmp ?_
        refine de_str ?_
        walk_at "F"
        walk_at "v1"
        walk_at "F"
        refine cd_inc (c := 46) ?_
        walk_at "F"
        exact ⟨rfl, rfl⟩
      intro q
      walk_at "F"
      refine da_nil ?_
      refine cl_anyM ?_
      exact ⟨rfl, rfl⟩
    show Sl.frz _ = Sl.frz _
    unfold isRoom
    show _ = Sl.frz (.bool (true && rowsOk (.str x0 :: ds') && evenOk (.str x0 :: ds')))
    rw [h7]
    rfl
abbrev n_need_room : List Str := ["value"]
theorem sc_need_room : FnScope n_need_room ["value"] (defScope s_need_room) := ⟨rfl, rfl, rfl, by decide +kernel, rfl, by decide +kernel, by decide +kernel⟩
abbrev p_need_room (K : PySem.W.Frag) : Sp := spF K (ι := PyData) (fun y => szT y ∧ isRoom y = true) (fun y => [y]) (fun y s => s = .frz .none)
theorem ok_need_room (T : Txt mg) (G_is_room_value : Has P w K mg base 2 "is_room_value" (p_is_room_value K)) (D : Df K mg "need_room" s_need_room) : Has P w K mg base 3 "need_room" (p_need_room K) := by
  have sc := sc_need_room
  refine has_F D sc (fun y _ => rfl) (fun _ _ _ _ _ _ us hl => match us, hl with | [_], _ => rfl) (fun f cdv A outer s H E hr y py => ?_)
  refine dss_one ?_
  refine ds_if ?_
  refine dt_not ?_
  refine dt_val ?_
  refine de_callF G_is_room_value (hr.mono (by decide)) ?_
  refine da_cons ?_
  walk_at "v0"
  walk_at "F"
  refine da_nil ?_
  refine ⟨y, py.1, rfl, ?_⟩
  rintro _ rfl
  refine ⟨_, rfl, ?_⟩
  rw [py.2]
  refine iteF ?_
  refine dss_nil ?_
  rfl

/-- what a move may be -/
def mvs : List Str := ["left", "right", "round", "stay", "step"]
/-- an entry, a table, as they are told -/
def entD (e : Str × Nat) : PyData := .tuple [.str e.1, .int (e.2 : Int)]
def tabD (t : List (List (Str × Nat))) : PyData := .tuple (t.map fun r => .tuple (r.map entD))
/-- a table that the program takes -/
structure TabOk (t : List (List (Str × Nat))) : Prop where
  lo : 1 ≤ t.length
  hi : t.length ≤ 3
  row : ∀ r ∈ t, r.length = 8
  ent : ∀ r ∈ t, ∀ e ∈ r, e.1 ∈ mvs ∧ e.2 < t.length
theorem mvs_eqF {x : Str} (h : x ∈ mvs) : ((mvs.map PyData.str).any fun e => eqF e (.str x)) = true := by
  rw [List.any_map, List.any_eq_true]
  exact ⟨x, h, by show (x == x) = true; exact beq_self_eq_true x⟩
abbrev n_is_entry : List Str := ["value", "states"]
theorem sc_is_entry : FnScope n_is_entry ["value", "states"] (defScope s_is_entry) := ⟨rfl, rfl, rfl, by decide +kernel, rfl, by decide +kernel, by decide +kernel⟩
abbrev p_is_entry (K : PySem.W.Frag) : Sp := spF K (ι := (Str × Nat) × Nat) (fun y => y.1.1 ∈ mvs ∧ y.1.2 < y.2) (fun y => [entD y.1, .int (y.2 : Int)]) (fun y s => s = .frz (.bool true))
theorem ok_is_entry (T : Txt mg) (C_MOVES : Con K mg "MOVES" (.tuple (mvs.map .str))) (G_is_within : Has P w K mg base 1 "is_within" (p_is_within K)) (D : Df K mg "is_entry" s_is_entry) : Has P w K mg base 2 "is_entry" (p_is_entry K) := by
  have sc := sc_is_entry
  refine has_F D sc (fun y _ => rfl) (fun _ _ _ _ _ _ us hl => match us, hl with | [_, _], _ => rfl) (fun f cdv A outer s H E hr y py => ?_)
  obtain ⟨⟨mv, st⟩, n⟩ := y
  obtain ⟨hmv, hst⟩ := py
  refine dss_cons ?_
  refine ds_if ?_
  refine dt_of_dw ?_
  refine dw_orP ?_
  refine dt_not ?_
  refine dt_val ?_
  refine de_isi_tuple T ?_
  walk_at "v0"
  walk_at "F"
  refine ⟨_, rfl, ?_⟩
  walk_at "cut"
  · intro h1
    refine dw_orP ?_
    refine dt_cmp ?_
    refine de_len T ?_
    refine da_cons ?_
    walk_at "v0"
    walk_at "F"
    refine da_nil ?_
    refine cl_lenT ?_
    walk_at "F"
    refine de_int ?_
    walk_at "F"
    walk_at "ne"
    walk_at "cut"
    · intro h2
      refine dw_or1 ?_
      refine dt_not ?_
      refine dt_val ?_
      refine de_isi_str T ?_
      refine de_sub ?_
      walk_at "v0"
      walk_at "F"
      refine de_int ?_
      walk_at "F"
      refine sd_tup (atI_zero _ _) ?_
      walk_at "F"
      refine ⟨_, rfl, ?_⟩
      exact ⟨rfl, rfl⟩
    exact ⟨rfl, rfl⟩
  refine ite2 (fun h3 => ?_) (fun h3 => ?_)
  · simp [entD] at h3
  · refine dss_nil ?_
    refine dss_one ?_
    refine ds_ret ?_
    refine de_andP ?_
    refine de_cmp ?_
    refine de_sub ?_
    walk_at "v0"
    walk_at "F"
    refine de_int ?_
    walk_at "F"
    refine sd_tup (atI_zero _ _) ?_
    walk_at "F"
    refine de_con C_MOVES ?_
    walk_at "F"
    refine cd_inT rfl (by decide +kernel) ?_
    refine ⟨_, rfl, ?_⟩
    walk_at "cut"
    · intro h4
      refine de_one ?_
      refine de_callF G_is_within (hr.mono (by decide)) ?_
      refine da_cons ?_
      refine de_sub ?_
      walk_at "v0"
      walk_at "F"
      refine de_int ?_
      walk_at "F"
      refine sd_tup (atI_nat (j := 1) rfl) ?_
      walk_at "F"
      refine da_cons ?_
      refine de_int ?_
      walk_at "F"
      refine da_cons ?_
      refine de_bin ?_
      walk_at "v1"
      walk_at "F"
      refine de_int ?_
      walk_at "F"
      refine bd_sub ?_
      walk_at "F"
      refine da_nil ?_
      refine ⟨(_, _, _), trivial, rfl, ?_⟩
      rintro _ rfl
      exact ⟨rfl, rfl⟩
    show Sl.frz _ = Sl.frz _
    rw [mvs_eqF hmv]
    show Sl.frz (.bool (true && (decide ((0 : Int) ≤ (st : Int)) && decide ((st : Int) ≤ (n : Int) - 1)))) = Sl.frz (.bool true)
    rw [decide_eq_true (show (0 : Int) ≤ (st : Int) by omega), decide_eq_true (show (st : Int) ≤ (n : Int) - 1 by have : st < n := hst; omega)]
    rfl
abbrev n_is_table_value : List Str := ["value", "row", "one"]
theorem sc_is_table_value : FnScope n_is_table_value ["value"] (defScope s_is_table_value) := ⟨rfl, rfl, rfl, by decide +kernel, rfl, by decide +kernel, by decide +kernel⟩
abbrev p_is_table_value (K : PySem.W.Frag) : Sp := spF K (ι := List (List (Str × Nat))) TabOk (fun y => [tabD y]) (fun y s => s = .frz (.bool true))
theorem ok_is_table_value (T : Txt mg) (C_MOST_STATES : Con K mg "MOST_STATES" (.int 3)) (C_SIGHTS : Con K mg "SIGHTS" (.int 8)) (G_is_entry : Has P w K mg base 2 "is_entry" (p_is_entry K)) (D : Df K mg "is_table_value" s_is_table_value) : Has P w K mg base 3 "is_table_value" (p_is_table_value K) := by
  have sc := sc_is_table_value
  refine has_F D sc (fun y _ => rfl) (fun _ _ _ _ _ _ us hl => match us, hl with | [_], _ => rfl) (fun f cdv A outer s H E hr y py => ?_)
  have hlo := py.lo
  have hhi := py.hi
  have hz : y.length < sizeLine := Nat.lt_of_le_of_lt (m := 3) hhi (by decide)
  refine dss_cons ?_
  refine ds_if ?_
  refine dt_of_dw ?_
  refine dw_orP ?_
  refine dt_not ?_
  refine dt_val ?_
  refine de_isi_tuple T ?_
  walk_at "v0"
  walk_at "F"
  refine ⟨_, rfl, ?_⟩
  walk_at "cut"
  · intro h1
    refine dw_or1 ?_
    refine dt_not ?_
    refine dt_chainP ?_
    refine de_int ?_
    walk_at "F"
    refine de_len T ?_
    refine da_cons ?_
    walk_at "v0"
    walk_at "F"
    refine da_nil ?_
    refine cl_lenT ?_
    walk_at "F"
    refine cd_le ?_
    walk_at "cut"
    · intro h2
      refine de_con C_MOST_STATES ?_
      walk_at "F"
      refine cd_le ?_
      exact ⟨rfl, rfl⟩
    exact ⟨rfl, rfl⟩
  refine ite2 (fun h3 => ?_) (fun h3 => ?_)
  · rw [List.length_map] at h3
    simp [tabD] at h3
    omega
  · refine dss_nil ?_
    refine dss_cons ?_
    refine ds_forM (α := List (Str × Nat)) (vs := [1]) ?_
    refine di_tup ?_
    walk_at "v0"
    walk_at "F"
    refine ⟨_, rfl, ?_⟩
    refine ⟨y, fun r => .tuple (r.map entD), fun i ρ => ∃ o, ρ = [some (.frz (tabD y)), o, none], rfl, ⟨_, rfl⟩, ?_, ?_⟩
    · rintro i r ρ2 hd ⟨o, rfl⟩
      have hr1 := List.mem_of_getElem? hd
      refine dg_name 1 ?_ sc.nd
      refine dss_one ?_
      refine ds_if ?_
      refine dt_of_dw ?_
      refine dw_orP ?_
      refine dt_not ?_
      refine dt_val ?_
      refine de_isi_tuple T ?_
      walk_at "v1"
      walk_at "F"
      refine ⟨_, rfl, ?_⟩
      walk_at "cut"
      · intro h4
        refine dw_orP ?_
        refine dt_cmp ?_
        refine de_len T ?_
        refine da_cons ?_
        walk_at "v1"
        walk_at "F"
        refine da_nil ?_
        refine cl_lenT ?_
        walk_at "F"
        refine de_con C_SIGHTS ?_
        walk_at "F"
        walk_at "ne"
        walk_at "cut"
        · intro h5
          refine dw_or1 ?_
          refine dt_not ?_
          refine dt_val ?_
          refine de_all T ?_
          refine da_cons ?_
          refine de_lc [("one", 2)] ?_ sc.nd (blkOk_by (N := n_is_table_value) (sc := defScope s_is_table_value) (by decide +kernel))
          refine di_tup ?_
          walk_at "v1"
          walk_at "F"
          refine ⟨_, rfl, ?_⟩
          refine lc_map (xs := r) (f := entD) (fun _ => .bool true) rfl (by rw [py.row r hr1]; decide) ?_ ?_
          · intro i x hx s H C cl fp
            refine dg_name 2 ?_ sc.nd
            intro s H C cl fp
            refine dts_nil ?_
            refine ⟨rfl, ?_⟩
            intro s H C cl fp
            refine de_callF G_is_entry (hr.mono (by decide)) ?_
            refine da_cons ?_
            walk_at "v2"
            walk_at "F"
            refine da_cons ?_
            refine de_len T ?_
            refine da_cons ?_
            walk_at "v0"
            walk_at "F"
            refine da_nil ?_
            refine cl_lenT ?_
            walk_at "F"
            refine da_nil ?_
            rw [List.length_map]
            refine ⟨(_, _), py.ent r hr1 x (List.mem_of_getElem? hx), rfl, ?_⟩
            rintro _ rfl
            walk_at "F"
            exact ⟨rfl, rfl⟩
          intro q
          walk_at "F"
          refine da_nil ?_
          refine cl_allM ?_
          refine ⟨_, rfl, ?_⟩
          exact ⟨rfl, rfl⟩
        exact ⟨rfl, rfl⟩
      refine ite2 (fun h6 => ?_) (fun h6 => ?_)
      · rw [List.length_map, py.row r hr1] at h6
        simp at h6
      · refine dss_nil ?_
        exact ⟨_, rfl⟩
    rintro ρ2 ⟨o, rfl⟩
    refine dss_one ?_
    refine ds_ret ?_
    refine de_bl ?_
    rfl
abbrev n_need_table : List Str := ["value"]
theorem sc_need_table : FnScope n_need_table ["value"] (defScope s_need_table) := ⟨rfl, rfl, rfl, by decide +kernel, rfl, by decide +kernel, by decide +kernel⟩
abbrev p_need_table (K : PySem.W.Frag) : Sp := spF K (ι := List (List (Str × Nat))) TabOk (fun y => [tabD y]) (fun y s => s = .frz .none)
theorem ok_need_table (T : Txt mg) (G_is_table_value : Has P w K mg base 3 "is_table_value" (p_is_table_value K)) (D : Df K mg "need_table" s_need_table) : Has P w K mg base 4 "need_table" (p_need_table K) := by
  have sc := sc_need_table
  refine has_F D sc (fun y _ => rfl) (fun _ _ _ _ _ _ us hl => match us, hl with | [_], _ => rfl) (fun f cdv A outer s H E hr y py => ?_)
  refine dss_one ?_
  refine ds_if ?_
  refine dt_not ?_
  refine dt_val ?_
  refine de_callF G_is_table_value (hr.mono (by decide)) ?_
  refine da_cons ?_
  walk_at "v0"
  walk_at "F"
  refine da_nil ?_
  refine ⟨y, py, rfl, ?_⟩
  rintro _ rfl
  refine ⟨_, rfl, ?_⟩
  refine iteF ?_
  refine dss_nil ?_
  rfl

def sortOf : PyData → Int
  | .bool _ => 1
  | .int _ => 2
  | .str _ => 3
  | .list _ => 4
  | .tuple _ => 5
  | _ => 6
theorem sort_seq {d : PyData} (h : (decide (sortOf d > 3) && decide (sortOf d < 6)) = true) : (∃ ds, d = .list ds) ∨ ∃ ds, d = .tuple ds := by
  cases d <;> first | exact .inl ⟨_, rfl⟩ | exact .inr ⟨_, rfl⟩ | (simp [sortOf] at h; done)
abbrev p_law_sort (K : PySem.W.Frag) : Sp := spF K (ι := PyData) (fun _ => True) (fun y => [y]) (fun y s => s = .frz (.int (sortOf y)))
abbrev n_law_sort : List Str := ["_law_thing"]
theorem sc_law_sort : FnScope n_law_sort ["_law_thing"] (defScope s_law_sort) := ⟨rfl, rfl, rfl, by decide +kernel, rfl, by decide +kernel, by decide +kernel⟩
theorem ok_law_sort (T : Txt mg) (D : Df K mg "_law_sort" s_law_sort) : Has P w K mg base 1 "_law_sort" (p_law_sort K) := by
  have sc := sc_law_sort
  refine has_F D sc (fun y _ => rfl) (fun _ _ _ _ _ _ us hl => match us, hl with | [_], _ => rfl) (fun f cdv A outer s H E hr y py => ?_)
  refine dss_cons ?_
  refine ds_if ?_
  refine dt_val ?_
  refine de_isi_bool T ?_
  walk_at "v0"
  walk_at "F"
  refine ⟨_, rfl, ?_⟩
  refine ite2 (fun h1 => ?_) (fun h1 => ?_)
  · refine dss_one ?_
    refine ds_ret ?_
    refine de_int ?_
    show Sl.frz _ = Sl.frz _
    cases y <;> first | rfl | (simp at h1; done) | (simp at h2; done) | (simp at h3; done) | (simp at h4; done) | (simp at h5; done)
  · refine dss_nil ?_
    refine dss_cons ?_
    refine ds_if ?_
    refine dt_val ?_
    refine de_isi_int T ?_
    walk_at "v0"
    walk_at "F"
    refine ⟨_, rfl, ?_⟩
    refine ite2 (fun h2 => ?_) (fun h2 => ?_)
    · refine dss_one ?_
      refine ds_ret ?_
      refine de_int ?_
      show Sl.frz _ = Sl.frz _
      cases y <;> first | rfl | (simp at h1; done) | (simp at h2; done) | (simp at h3; done) | (simp at h4; done) | (simp at h5; done)
    · refine dss_nil ?_
      refine dss_cons ?_
      refine ds_if ?_
      refine dt_val ?_
      refine de_isi_str T ?_
      walk_at "v0"
      walk_at "F"
      refine ⟨_, rfl, ?_⟩
      refine ite2 (fun h3 => ?_) (fun h3 => ?_)
      · refine dss_one ?_
        refine ds_ret ?_
        refine de_int ?_
        show Sl.frz _ = Sl.frz _
        cases y <;> first | rfl | (simp at h1; done) | (simp at h2; done) | (simp at h3; done) | (simp at h4; done) | (simp at h5; done)
      · refine dss_nil ?_
        refine dss_cons ?_
        refine ds_if ?_
        refine dt_val ?_
        refine de_isi_list T ?_
        walk_at "v0"
        walk_at "F"
        refine ⟨_, rfl, ?_⟩
        refine ite2 (fun h4 => ?_) (fun h4 => ?_)
        · refine dss_one ?_
          refine ds_ret ?_
          refine de_int ?_
          show Sl.frz _ = Sl.frz _
          cases y <;> first | rfl | (simp at h1; done) | (simp at h2; done) | (simp at h3; done) | (simp at h4; done) | (simp at h5; done)
        · refine dss_nil ?_
          refine dss_one ?_
          refine ds_ret ?_
          refine de_if ?_
          refine dt_val ?_
          refine de_isi_tuple T ?_
          walk_at "v0"
          walk_at "F"
          refine ⟨_, rfl, ?_⟩
          refine ite2 (fun h5 => ?_) (fun h5 => ?_)
          · refine de_int ?_
            show Sl.frz _ = Sl.frz _
            cases y <;> first | rfl | (simp at h1; done) | (simp at h2; done) | (simp at h3; done) | (simp at h4; done) | (simp at h5; done)
          · refine de_int ?_
            show Sl.frz _ = Sl.frz _
            cases y <;> first | rfl | (simp at h1; done) | (simp at h2; done) | (simp at h3; done) | (simp at h4; done) | (simp at h5; done)
/-- lists and tuples no deeper than n, of a size to hold, of flat things -/
def dep : Nat → PyData → Prop
  | 0, d => flatD d = true ∧ SeqAt.shaped d = true
  | n + 1, d => (∃ ds, (d = .list ds ∨ d = .tuple ds) ∧ ds.length < sizeLine ∧ ∀ e ∈ ds, dep n e) ∨ flatD d = true ∧ SeqAt.shaped d = true
abbrev n_law_same : List Str := ["_law_told", "_law_due", "_law_k", "_law_part"]
theorem sc_law_same : FnScope n_law_same ["_law_told", "_law_due"] (defScope s_law_same) := ⟨rfl, rfl, rfl, by decide +kernel, rfl, by decide +kernel, by decide +kernel⟩
/-- a thing is the same as itself -/
abbrev p_law_same (K : PySem.W.Frag) (n : Nat) : Sp := spF K (ι := PyData) (dep n) (fun y => [y, y]) (fun y s => s = .frz (.bool true))
theorem flat_eqv : ∀ {d : PyData}, flatD d = true → PyData.eqv d d = true
  | .none, _ => by rw [PyData.eqv]
  | .bool b, _ => by rw [PyData.eqv]; exact beq_self_eq_true b
  | .int b, _ => by rw [PyData.eqv]; exact beq_self_eq_true b
  | .str b, _ => by rw [PyData.eqv]; exact beq_self_eq_true b
  | .list _, h => absurd h Bool.false_ne_true
  | .tuple _, h => absurd h Bool.false_ne_true
  | .dict _, h => absurd h Bool.false_ne_true
theorem none_left {α : Type} (xs : List α) : xs.filter (fun _ => false) = [] := by
  induction xs with
  | nil => rfl
  | cons a t ih => rw [List.filter_cons, if_neg (by decide)]; exact ih
theorem ok_law_same_step (T : Txt mg) (G_law_sort : Has P w K mg base 1 "_law_sort" (p_law_sort K)) (D : Df K mg "_law_same" s_law_same) (n : Nat) (G_law_same : ∀ m, n = m + 1 → Has P w K mg base (n + 1) "_law_same" (p_law_same K m)) : Has P w K mg base (n + 2) "_law_same" (p_law_same K n) := by
  have sc := sc_law_same
  refine has_F D sc (fun y _ => rfl) (fun _ _ _ _ _ _ us hl => match us, hl with | [_, _], _ => rfl) (fun f cdv A outer s H E hr y py => ?_)
  refine dss_cons ?_
  refine ds_if ?_
  refine dt_cmp ?_
  refine de_callF G_law_sort (hr.mono (by omega)) ?_
  refine da_cons ?_
  walk_at "v0"
  walk_at "F"
  refine da_nil ?_
  refine ⟨_, trivial, rfl, ?_⟩
  rintro _ rfl
  walk_at "F"
  refine de_callF G_law_sort (hr.mono (by omega)) ?_
  refine da_cons ?_
  walk_at "v1"
  walk_at "F"
  refine da_nil ?_
  refine ⟨_, trivial, rfl, ?_⟩
  rintro _ rfl
  walk_at "F"
  refine cd_nei ?_
  refine ite2 (fun h1 => ?_) (fun h1 => ?_)
  · simp at h1
  · refine dss_nil ?_
    refine dss_cons ?_
    refine ds_if ?_
    refine dt_of_dw ?_
    refine dw_andP ?_
    refine dt_cmp ?_
    refine de_callF G_law_sort (hr.mono (by omega)) ?_
    refine da_cons ?_
    walk_at "v0"
    walk_at "F"
    refine da_nil ?_
    refine ⟨_, trivial, rfl, ?_⟩
    rintro _ rfl
    walk_at "F"
    refine de_int ?_
    walk_at "F"
    refine cd_gt ?_
    walk_at "cut"
    · intro h2
      refine dw_and1 ?_
      refine dt_cmp ?_
      refine de_callF G_law_sort (hr.mono (by omega)) ?_
      refine da_cons ?_
      walk_at "v0"
      walk_at "F"
      refine da_nil ?_
      refine ⟨_, trivial, rfl, ?_⟩
      rintro _ rfl
      walk_at "F"
      refine de_int ?_
      walk_at "F"
      refine cd_lt ?_
      exact ⟨rfl, rfl⟩
    refine ite2 (fun h3 => ?_) (fun h3 => ?_)
    · have hseq := sort_seq h3
      cases n with
      | zero => rcases hseq with ⟨ds, rfl⟩ | ⟨ds, rfl⟩ <;> exact absurd (show flatD _ = true from py.1) Bool.false_ne_true
      | succ n =>
      have G := G_law_same n rfl
      rcases hseq with ⟨ds, rfl⟩ | ⟨ds, rfl⟩
      · have hpy : ds.length < sizeLine ∧ ∀ e ∈ ds, dep n e := by
          rcases py with ⟨ds', h | h, q⟩ | h
          · cases h; exact q
          · cases h
          · exact absurd h.1 Bool.false_ne_true
        refine dss_cons ?_
        refine ds_if ?_
        refine dt_cmp ?_
        refine de_len T ?_
        refine da_cons ?_
        walk_at "v0"
        walk_at "F"
        refine da_nil ?_
        refine cl_lenL ?_
        walk_at "F"
        refine de_len T ?_
        refine da_cons ?_
        walk_at "v1"
        walk_at "F"
        refine da_nil ?_
        refine cl_lenL ?_
        walk_at "F"
        refine cd_nei ?_
        refine ite2 (fun h4 => ?_) (fun h4 => ?_)
        · simp at h4
        · refine dss_nil ?_
          refine dss_one ?_
          refine ds_ret ?_
          refine de_cmp ?_
          refine de_lc [("_law_k", 2), ("_law_part", 3)] ?_ sc.nd (blkOk_by (N := n_law_same) (sc := defScope s_law_same) (by decide +kernel))
          refine di_enum ?_ T.enum
          walk_at "v0"
          walk_at "F"
          refine ⟨_, rfl, ?_⟩
          refine lc_filter (xs := numD ds) (f := id) (fun _ => false) (fun d => d) (List.map_id _).symm (by rw [numD_len]; exact hpy.1) ?_ ?_
          · intro i x hx s H C cl fp
            obtain ⟨e, he, rfl⟩ := numD_at hx
            refine dg_tup ?_ rfl
            refine dgs_cons ?_
            refine dg_name 2 ?_ sc.nd
            refine dgs_cons ?_
            refine dg_name 3 ?_ sc.nd
            refine dgs_nil ?_
            intro s H C cl fp
            refine dts_one ?_
            refine dt_not ?_
            refine dt_val ?_
            refine de_callF G (hr.mono (by omega)) ?_
            refine da_cons ?_
            walk_at "v3"
            walk_at "F"
            refine da_cons ?_
            refine de_sub ?_
            walk_at "v1"
            walk_at "F"
            walk_at "v2"
            walk_at "F"
            refine sd_list (atI_nat he) ?_
            walk_at "F"
            refine da_nil ?_
            refine ⟨_, hpy.2 e (List.mem_of_getElem? he), rfl, ?_⟩
            rintro _ rfl
            refine ⟨_, rfl, ?_⟩
            refine ⟨rfl, fun _ => rfl, fun h => absurd h (by decide)⟩
          intro q
          walk_at "F"
          refine de_lst ?_
          refine da_nil ?_
          refine ⟨by show 0 ≤ sizeLine; decide, ?_⟩
          intro q
          walk_at "F"
          rw [none_left]
          refine cd_eqD hr.units (by decide +kernel) (by decide +kernel) ?_
          rfl
      · have hpy : ds.length < sizeLine ∧ ∀ e ∈ ds, dep n e := by
          rcases py with ⟨ds', h | h, q⟩ | h
          · cases h
          · cases h; exact q
          · exact absurd h.1 Bool.false_ne_true
        refine dss_cons ?_
        refine ds_if ?_
        refine dt_cmp ?_
        refine de_len T ?_
        refine da_cons ?_
        walk_at "v0"
        walk_at "F"
        refine da_nil ?_
        refine cl_lenT ?_
        walk_at "F"
        refine de_len T ?_
        refine da_cons ?_
        walk_at "v1"
        walk_at "F"
        refine da_nil ?_
        refine cl_lenT ?_
        walk_at "F"
        refine cd_nei ?_
        refine ite2 (fun h4 => ?_) (fun h4 => ?_)
        · simp at h4
        · refine dss_nil ?_
          refine dss_one ?_
          refine ds_ret ?_
          refine de_cmp ?_
          refine de_lc [("_law_k", 2), ("_law_part", 3)] ?_ sc.nd (blkOk_by (N := n_law_same) (sc := defScope s_law_same) (by decide +kernel))
          refine di_enumU ?_ T.enum
          walk_at "v0"
          walk_at "F"
          refine ⟨_, rfl, ?_⟩
          refine lc_filter (xs := numD ds) (f := id) (fun _ => false) (fun d => d) (List.map_id _).symm (by rw [numD_len]; exact hpy.1) ?_ ?_
          · intro i x hx s H C cl fp
            obtain ⟨e, he, rfl⟩ := numD_at hx
            refine dg_tup ?_ rfl
            refine dgs_cons ?_
            refine dg_name 2 ?_ sc.nd
            refine dgs_cons ?_
            refine dg_name 3 ?_ sc.nd
            refine dgs_nil ?_
            intro s H C cl fp
            refine dts_one ?_
            refine dt_not ?_
            refine dt_val ?_
            refine de_callF G (hr.mono (by omega)) ?_
            refine da_cons ?_
            walk_at "v3"
            walk_at "F"
            refine da_cons ?_
            refine de_sub ?_
            walk_at "v1"
            walk_at "F"
            walk_at "v2"
            walk_at "F"
            refine sd_tup (atI_nat he) ?_
            walk_at "F"
            refine da_nil ?_
            refine ⟨_, hpy.2 e (List.mem_of_getElem? he), rfl, ?_⟩
            rintro _ rfl
            refine ⟨_, rfl, ?_⟩
            refine ⟨rfl, fun _ => rfl, fun h => absurd h (by decide)⟩
          intro q
          walk_at "F"
          refine de_lst ?_
          refine da_nil ?_
          refine ⟨by show 0 ≤ sizeLine; decide, ?_⟩
          intro q
          walk_at "F"
          rw [none_left]
          refine cd_eqD hr.units (by decide +kernel) (by decide +kernel) ?_
          rfl
    · refine dss_nil ?_
      have hf : flatD y = true ∧ SeqAt.shaped y = true := by
        cases n with
        | zero => exact py
        | succ n =>
          rcases py with ⟨ds', h | h, q⟩ | h
          · subst h; exact absurd rfl h3
          · subst h; exact absurd rfl h3
          · exact h
      refine dss_one ?_
      refine ds_ret ?_
      refine de_cmp ?_
      walk_at "v0"
      walk_at "F"
      walk_at "v1"
      walk_at "F"
      refine cd_eqD hr.units hf.2 hf.2 ?_
      show Sl.frz _ = Sl.frz _
      rw [flat_eqv hf.1]
theorem ok_law_same (T : Txt mg) (G_law_sort : Has P w K mg base 1 "_law_sort" (p_law_sort K)) (D : Df K mg "_law_same" s_law_same) : ∀ n, Has P w K mg base (n + 2) "_law_same" (p_law_same K n)
  | 0 => ok_law_same_step T G_law_sort D 0 fun m h => nomatch h
  | n + 1 => ok_law_same_step T G_law_sort D (n + 1) fun m h => by cases h; exact ok_law_same T G_law_sort D n

abbrev sz_line_of : Nat → Prop := fun n => n < sizeLine
/-- one of a list's things -/
abbrev p_law_one (K : PySem.W.Frag) : Sp := spK K (ι := List PyData × Nat) (fun y => 0 < y.1.length ∧ y.1.length < 1073741824) (fun y p => oDeck (y.2 + 1) p) (fun y => [.list y.1]) (fun y p s B => ∃ d, d ∈ y.1 ∧ s = .frz d ∧ B = oDeck y.2 p)
abbrev p_law_pick (K : PySem.W.Frag) : Sp := spK K (ι := Int × Nat) (fun y => 0 < y.1 ∧ y.1 < 1073741824) (fun y p => oDeck (y.2 + 1) p) (fun y => [.int y.1]) (fun y p s B => ∃ n, s = .frz (.int n) ∧ 0 ≤ n ∧ n < y.1 ∧ B = oDeck y.2 p)
abbrev n_law_one : List Str := ["_law_deck_here", "_law_some"]
theorem sc_law_one : FnScope n_law_one ["_law_deck_here", "_law_some"] (defScope s_law_one) := ⟨rfl, rfl, rfl, by decide +kernel, rfl, by decide +kernel, by decide +kernel⟩
theorem ok_law_one (T : Txt mg) (G_law_pick : Has P w K mg base 1 "_law_pick" (p_law_pick K)) (D : Df K mg "_law_one" s_law_one) : Has P w K mg base 2 "_law_one" (p_law_one K) := by
  have sc := sc_law_one
  refine has_K D sc (fun y _ => rfl) (fun _ _ _ _ _ _ us hl => match us, hl with | [_, _], _ => rfl) (fun f cdv A outer s H E hr y p py => ?_)
  obtain ⟨ds, m⟩ := y
  obtain ⟨h1, h2⟩ := py
  refine dss_one ?_
  refine ds_ret ?_
  refine de_sub ?_
  walk_at "v1"
  walk_at "F"
  refine de_callD 0 G_law_pick (hr.mono (by decide)) ?_
  refine da_cons ?_
  refine de_len T ?_
  refine da_cons ?_
  walk_at "v1"
  walk_at "F"
  refine da_nil ?_
  refine cl_lenL ?_
  walk_at "F"
  refine da_nil ?_
  refine ⟨(_, m), _, _, ⟨by show (0 : Int) < (ds.length : Int); have : 0 < ds.length := h1; omega, by show (ds.length : Int) < 1073741824; have : ds.length < 1073741824 := h2; omega⟩, rfl, rfl, weak_deck (Nat.le_refl _), ?_⟩
  rintro _ _ ⟨n, rfl, n0, n1, rfl⟩
  walk_at "F"
  obtain ⟨j, rfl⟩ := Int.eq_ofNat_of_zero_le n0
  have jl : j < ds.length := by
    have : (j : Int) < (ds.length : Int) := n1
    omega
  refine sd_list (d := ds[j]) (atI_nat (List.getElem?_eq_getElem jl)) ?_
  exact ⟨_, oDeck m p, rfl, weak_deck (Nat.le_refl _), _, List.getElem_mem jl, rfl, rfl⟩
def roomD (r : List Str) : PyData := .tuple (r.map .str)
/-- a room's rows -/
structure RowsW (r : List Str) (w : Nat) : Prop where
  row : ∀ x ∈ r, x.length = w ∧ ∀ c ∈ x.cps.toList, c = 46 ∨ c = 35
/-- a room of at most so many cells -/
structure RoomW (r : List Str) (w wide high : Nat) : Prop extends RowsW r w where
  w1 : 1 ≤ w
  w2 : w ≤ wide
  h1 : 1 ≤ r.length
  h2 : r.length ≤ high
  free : ∃ x ∈ r, 46 ∈ x.cps.toList
theorem rows_sum {r : List Str} {w : Nat} (h : RowsW r w) : (r.map (·.length)).sum = r.length * w := by
  have go : ∀ q : List Str, (∀ x ∈ q, x ∈ r) → (q.map (·.length)).sum = q.length * w := by
    intro q
    induction q with
    | nil => intro _; simp
    | cons a t ih =>
      intro hs
      rw [List.map_cons, List.sum_cons, ih (fun x hx => hs x (List.mem_cons_of_mem _ hx)), (h.row a (hs a List.mem_cons_self)).1, List.length_cons, Nat.succ_mul]
      omega
  exact go r fun _ h => h
theorem mem_join {r : List Str} : 46 ∈ (Txt.join "" r).cps.toList ↔ ∃ x ∈ r, 46 ∈ x.cps.toList := by
  rw [joinE_list, List.mem_flatten]
  constructor
  · rintro ⟨l, hl, hm⟩
    obtain ⟨x, hx, rfl⟩ := List.mem_map.mp hl
    exact ⟨x, hx, hm⟩
  · rintro ⟨x, hx, hm⟩
    exact ⟨_, List.mem_map.mpr ⟨x, hx, rfl⟩, hm⟩
abbrev p_law_room (K : PySem.W.Frag) : Sp := spK K (ι := (Nat × Nat) × Nat) (fun y => (1 ≤ y.1.1 ∧ y.1.1 ≤ 6) ∧ 1 ≤ y.1.2 ∧ y.1.2 ≤ 5) (fun y p => oDeck (y.2 + 40) p) (fun y => [.int (y.1.1 : Int), .int (y.1.2 : Int)]) (fun y p s B => ∃ r w, RoomW r w y.1.1 y.1.2 ∧ s = .frz (roomD r) ∧ B = oDeck y.2 p)
abbrev n_law_room : List Str := ["_law_deck_here", "_law_wide", "_law_high", "_law_rows", "_law_y", "_law_width", "_law_height", "_law_often", "_law_x"]
theorem sc_law_room : FnScope n_law_room ["_law_deck_here", "_law_wide", "_law_high"] (defScope s_law_room) := ⟨rfl, rfl, rfl, by decide +kernel, rfl, by decide +kernel, by decide +kernel⟩
theorem ok_law_room (T : Txt mg) (G_law_pick : Has P w K mg base 1 "_law_pick" (p_law_pick K)) (D : Df K mg "_law_room" s_law_room) : Has P w K mg base 2 "_law_room" (p_law_room K) := by
  have sc := sc_law_room
  refine has_K D sc (fun y _ => rfl) (fun _ _ _ _ _ _ us hl => match us, hl with | [_, _, _], _ => rfl) (fun f cdv A outer s H E hr y p py => ?_)
  obtain ⟨⟨wide, high⟩, m⟩ := y
  obtain ⟨⟨a1, a2⟩, a3, a4⟩ := py
  replace a1 : 1 ≤ wide := a1
  replace a2 : wide ≤ 6 := a2
  replace a3 : 1 ≤ high := a3
  replace a4 : high ≤ 5 := a4
  refine dss_cons ?_
  refine ds_asg (vs := [5, 6, 7]) ?_
  refine de_tup ?_
  refine da_cons ?_
  refine de_bin ?_
  refine de_int ?_
  walk_at "F"
  refine de_callD 0 G_law_pick (hr.mono (by decide)) ?_
  refine da_cons ?_
  walk_at "v1"
  walk_at "F"
  refine da_nil ?_
  refine ⟨(_, m + 39), _, _, ⟨by show (0 : Int) < (wide : Int); omega, by show (wide : Int) < 1073741824; omega⟩, rfl, rfl, weak_deck (Nat.le_refl _), ?_⟩
  rintro _ _ ⟨n, rfl, n0, n1, rfl⟩
  replace n1 : n < (wide : Int) := n1
  walk_at "F"
  walk_at "add"
  walk_at "F"
  refine da_cons ?_
  refine de_bin ?_
  refine de_int ?_
  walk_at "F"
  refine de_callD 0 G_law_pick (hr.mono (by decide)) ?_
  refine da_cons ?_
  walk_at "v2"
  walk_at "F"
  refine da_nil ?_
  refine ⟨(_, m + 38), _, _, ⟨by show (0 : Int) < (high : Int); omega, by show (high : Int) < 1073741824; omega⟩, rfl, rfl, weak_deck (Nat.le_refl _), ?_⟩
  rintro _ _ ⟨n', rfl, n0', n1', rfl⟩
  replace n1' : n' < (high : Int) := n1'
  walk_at "F"
  walk_at "add"
  walk_at "F"
  refine da_cons ?_
  refine de_bin ?_
  refine de_int ?_
  walk_at "F"
  refine de_callD 0 G_law_pick (hr.mono (by decide)) ?_
  refine da_cons ?_
  refine de_int ?_
  walk_at "F"
  refine da_nil ?_
  refine ⟨(_, m + 37), _, _, ⟨by show (0 : Int) < 6; decide, by show (6 : Int) < 1073741824; decide⟩, rfl, rfl, weak_deck (Nat.le_refl _), ?_⟩
  rintro _ _ ⟨o, rfl, o0, o1, rfl⟩
  replace o1 : o < 6 := o1
  walk_at "F"
  walk_at "add"
  walk_at "F"
  refine da_nil ?_
  refine ⟨by show 3 ≤ sizeLine; decide, ?_⟩
  walk_at "F"
  refine dg_tup ?_ rfl
  refine dgs_cons ?_
  refine dg_name 5 ?_ sc.nd
  refine dgs_cons ?_
  refine dg_name 6 ?_ sc.nd
  refine dgs_cons ?_
  refine dg_name 7 ?_ sc.nd
  refine dgs_nil ?_
  obtain ⟨W, hW⟩ : ∃ W : Nat, 1 + n = (W : Int) := ⟨(1 + n).toNat, by omega⟩
  obtain ⟨h, hh⟩ : ∃ h : Nat, 1 + n' = (h : Int) := ⟨(1 + n').toNat, by omega⟩
  obtain ⟨of, ho⟩ : ∃ of : Int, 2 + o = of ∧ 0 < of ∧ of < 1073741824 := ⟨2 + o, rfl, by omega, by omega⟩
  rw [hW, hh, ho.1]
  have W1 : 1 ≤ W := by omega
  have W2 : W ≤ wide := by omega
  have h1 : 1 ≤ h := by omega
  have h2 : h ≤ high := by omega
  refine dss_cons ?_
  refine ds_set 3 ?_ sc.nd
  refine de_lst ?_
  refine da_nil ?_
  refine ⟨by show 0 ≤ sizeLine; decide, ?_⟩
  intro q
  refine dss_cons ?_
  refine ds_forM (α := Nat) (vs := [4]) ?_
  refine di_range1 ?_ T.range
  walk_at "v6"
  walk_at "F"
  refine ⟨_, rfl, by omega, by omega, ?_⟩
  refine ⟨List.range h, fun i => .int (0 + (i : Int)), fun i ρ => ∃ rows B o4 o8, rows.length = i ∧ RowsW rows W ∧ m + 7 + (30 - 6 * i) ≤ B ∧ ρ = [some (.own p (oDeck B p)), some (.frz (.int (wide : Int))), some (.frz (.int (high : Int))), some (.own q (oLst q (rows.map .str))), o4, some (.frz (.int (W : Int))), some (.frz (.int (h : Int))), some (.frz (.int of)), o8], ?_, ?_, ?_, ?_⟩
  · rfl
  · exact ⟨[], m + 37, none, none, rfl, ⟨by simp⟩, Nat.le_refl _, rfl⟩
  · rintro i x ρ2 hd ⟨rows, B, o4, o8, hlen, hrows, hB, rfl⟩
    have ih : i < h := by have := (List.getElem?_eq_some_iff.mp hd).1; rwa [List.length_range] at this
    refine dg_name 4 ?_ sc.nd
    refine dss_one ?_
    refine ds_append 3 ?_ ⟨_, _, rfl⟩
    refine de_m1 PySem.F.slot_str_join PySem.F.type_str_join ?_
    refine de_str ?_
    refine ⟨_, rfl, ?_⟩
    refine de_lc [("_law_x", 8)] ?_ sc.nd (blkOk_by (N := n_law_room) (sc := defScope s_law_room) (by decide +kernel))
    refine di_range1 ?_ T.range
    walk_at "v5"
    walk_at "F"
    refine ⟨_, rfl, by omega, by omega, ?_⟩
    refine ⟨fun j acc ρ => ∃ (cs : List Nat) (B : Nat), cs.length = j ∧ (∀ c ∈ cs, c = 46 ∨ c = 35) ∧ acc = cs.map (fun c => .str ⟨#[c]⟩) ∧ m + 7 + (30 - 6 * i - j) ≤ B ∧ ρ = [some (.own p (oDeck B p)), some (.frz (.int (wide : Int))), some (.frz (.int (high : Int))), some (.own q (oLst q (rows.map .str))), some (.frz (.int (0 + (x : Int)))), some (.frz (.int (W : Int))), some (.frz (.int (h : Int))), some (.frz (.int of)), none], ⟨[], B, rfl, by simp, rfl, hB, rfl⟩, ?_, ?_⟩
    · rintro j d acc ρ2 hdj ⟨cs, B, hcs, hall, rfl, hB, rfl⟩
      have jW : j < W := by have := (rngD_at hdj).1; simpa using this
      refine ⟨by rw [List.length_map, hcs]; exact Nat.lt_of_le_of_lt (m := 6) (by omega) (by decide), ?_⟩
      intro s H C cl fp
      obtain ⟨_, rfl⟩ := rngD_at hdj
      refine dg_name 8 ?_ sc.nd
      intro s H C cl fp
      refine dts_nil ?_
      refine iteT ?_
      intro s H C cl fp
      refine de_if ?_
      refine dt_cmp ?_
      refine de_callD 0 G_law_pick (hr.mono (by decide)) ?_
      refine da_cons ?_
      walk_at "v7"
      walk_at "F"
      refine da_nil ?_
      refine ⟨(_, B - 1), _, _, ⟨ho.2.1, ho.2.2⟩, rfl, rfl, weak_deck (by show B - 1 + 1 ≤ B; omega), ?_⟩
      rintro _ _ ⟨n, rfl, n0, n1, rfl⟩
      walk_at "F"
      refine de_int ?_
      walk_at "F"
      refine cd_eqi ?_
      refine ite2 (fun h1 => ?_) (fun h1 => ?_)
      · refine de_str ?_
        walk_at "F"
        refine ⟨cs ++ [35], B - 1, by rw [List.length_append, hcs]; rfl, fun c hc => ?_, by rw [List.map_append]; rfl, by omega, rfl⟩
        rcases List.mem_append.mp hc with hc | hc
        · exact hall c hc
        · exact .inr (List.mem_singleton.mp hc)
      · refine de_str ?_
        walk_at "F"
        refine ⟨cs ++ [46], B - 1, by rw [List.length_append, hcs]; rfl, fun c hc => ?_, by rw [List.map_append]; rfl, by omega, rfl⟩
        rcases List.mem_append.mp hc with hc | hc
        · exact hall c hc
        · exact .inl (List.mem_singleton.mp hc)
    rintro acc ρ2 ⟨cs, B, hcs, hall, rfl, hB, rfl⟩ q2
    rw [rngD_len] at hcs
    replace hcs : cs.length = W := by simpa using hcs
    walk_at "F"
    refine ml_joinM (xs := cs) (f := fun c => ⟨#[c]⟩) (by rw [join_ones_len, hcs, List.length_map, hcs]; show W + W * 0 ≤ _; omega) ?_
    rw [joinE_ones]
    walk_at "F"
    refine ⟨_, _, rfl, by rw [List.length_map]; exact Nat.lt_of_le_of_lt (m := 6) (by omega) (by decide), ?_⟩
    refine ⟨rows ++ [⟨cs.toArray⟩], B, some (.frz (.int (0 + (x : Int)))), none, by rw [List.length_append, hlen]; rfl, ⟨fun x hx => ?_⟩, ?_, ?_⟩
    · rcases List.mem_append.mp hx with hx | hx
      · exact hrows.row x hx
      · rw [List.mem_singleton.mp hx]
        exact ⟨by rw [len_l]; exact hcs, hall⟩
    · rw [rngD_len] at hB
      replace hB : m + 7 + (30 - 6 * i - W) ≤ B := by simpa using hB
      omega
    · rw [List.map_append]
      rfl
  rintro ρ2 ⟨rows, B, o4, o8, hlen, hrows, hB, rfl⟩
  rw [List.length_range] at hlen hB
  obtain ⟨r0, rs, rfl⟩ : ∃ r0 rs, rows = r0 :: rs := by
    cases rows with
    | nil => rw [List.length_nil] at hlen; omega
    | cons a t => exact ⟨a, t, rfl⟩
  have hjs : (((r0 :: rs).map (·.length)).sum + (r0 :: rs).length * ("" : Str).length ≤ 16777216) := by
    rw [rows_sum hrows, hlen]
    have : h * W ≤ 5 * 6 := Nat.mul_le_mul (by omega) (by omega)
    show h * W + h * 0 ≤ _
    omega
  refine dss_cons ?_
  refine ds_if ?_
  refine dt_peek 3 (!decide (46 ∈ (Txt.join "" (r0 :: rs)).cps.toList)) (p := q) (ds := (r0 :: rs).map .str) ?_ ?_
  · refine dt_cmp ?_
    refine de_str ?_
    walk_at "F"
    refine de_m1 PySem.F.slot_str_join PySem.F.type_str_join ?_
    refine de_str ?_
    refine ⟨_, rfl, ?_⟩
    walk_at "v3"
    walk_at "F"
    refine ml_join (ys := r0 :: rs) hjs ?_
    walk_at "F"
    refine cd_ninc (c := 46) ?_
    rfl
  have fin : ∀ (rows : List Str), rows.length = h → RowsW rows W → (∃ x ∈ rows, 46 ∈ x.cps.toList) → ∃ r w, RoomW r w wide high ∧ Sl.frz (.tuple (rows.map .str)) = Sl.frz (roomD r) ∧ oDeck m p = oDeck m p := fun rows hl hr hf =>
    ⟨rows, W, { hr with w1 := W1, w2 := W2, h1 := by omega, h2 := by omega, free := hf }, rfl, rfl⟩
  refine ite2 (fun h2 => ?_) (fun h2 => ?_)
  · have r0l : r0.length = W := (hrows.row r0 List.mem_cons_self).1
    have r0s : r0.length ≤ sizeLine := Nat.le_trans (m := 6) (by omega) (by decide)
    refine dss_one ?_
    refine ds_item 3 ?_ ⟨_, _, rfl⟩
    refine de_bin ?_
    refine de_str ?_
    walk_at "F"
    refine de_slice ?_
    refine de_subO 3 ?_ ⟨_, _, rfl⟩
    refine de_int ?_
    refine ⟨_, _, _, .str r0, rfl, rfl, atI_zero _ _, ?_⟩
    walk_at "F"
    refine do_some ?_
    refine de_int ?_
    refine ⟨_, rfl, ?_⟩
    refine do_none ?_
    refine ld_str r0s ?_
    walk_at "F"
    refine bd_adds ?_ ?_
    · rw [len_l (cutS _ _ _), cutS_tail (by omega), List.length_drop, ← len_l, r0l]
      exact Nat.le_trans (m := 7) (by show 1 + (W - 1) ≤ 7; omega) (by decide)
    walk_at "F"
    refine de_int ?_
    refine ⟨_, 0, _, _, rfl, rfl, ixN_nat (by rw [List.length_map, List.length_cons]; exact Nat.succ_pos _), ?_⟩
    refine dss_one ?_
    refine ds_ret ?_
    refine de_totup T ?_
    refine da_cons ?_
    walk_at "v3"
    walk_at "F"
    refine da_nil ?_
    refine cl_tupL ?_
    have ht := cutS_tail (z := r0) (by omega)
    refine ⟨_, oDeck m p, rfl, weak_deck (by omega), fin ((("." : Str) ++ cutS r0 (some 1) none) :: rs) hlen ⟨fun x hx => ?_⟩ ⟨_, List.mem_cons_self, ?_⟩⟩
    · rcases List.mem_cons.mp hx with rfl | hx
      · refine ⟨?_, fun c hc => ?_⟩
        · rw [len_l, app_l, ht, List.length_append, List.length_drop, ← len_l r0, r0l]
          show 1 + (W - 1) = W
          omega
        · rw [app_l, ht] at hc
          rcases List.mem_append.mp hc with hc | hc
          · exact .inl (List.mem_singleton.mp hc)
          · exact (hrows.row r0 List.mem_cons_self).2 c (List.mem_of_mem_drop hc)
      · exact hrows.row x (List.mem_cons_of_mem _ hx)
    · rw [app_l]
      exact List.mem_append_left _ (by decide)
  · refine dss_nil ?_
    refine dss_one ?_
    refine ds_ret ?_
    refine de_totup T ?_
    refine da_cons ?_
    walk_at "v3"
    walk_at "F"
    refine da_nil ?_
    refine cl_tupL ?_
    have h3 : ∃ x ∈ r0 :: rs, 46 ∈ x.cps.toList := mem_join.mp (by simpa using h2)
    exact ⟨_, oDeck m p, rfl, weak_deck (by omega), fin (r0 :: rs) hlen hrows h3⟩

abbrev n_law_hand : List Str := ["_law_deck_here", "_law_first", "_law_back", "_law_some"]
theorem sc_law_hand : FnScope n_law_hand ["_law_deck_here"] (defScope s_law_hand) := ⟨rfl, rfl, rfl, by decide +kernel, rfl, by decide +kernel, by decide +kernel⟩
-- callees: _law_one
abbrev p_law_hand (K : PySem.W.Frag) : Sp := spK K (ι := Nat) (fun _ => True) (fun y p => oDeck (y + 2) p) (fun _ => []) (fun y p s B => ∃ t, TabOk t ∧ s = .frz (tabD t) ∧ B = oDeck y p)
theorem ok_law_hand (T : Txt mg) (G_law_one : Has P w K mg base 2 "_law_one" (p_law_one K)) (D : Df K mg "_law_hand" s_law_hand) : Has P w K mg base 3 "_law_hand" (p_law_hand K) := by
  have sc := sc_law_hand
  refine has_K D sc (fun y _ => rfl) (fun _ _ _ _ _ _ us hl => match us, hl with | [_], _ => rfl) (fun f cdv A outer s H E hr y p py => ?_)
  refine dss_cons ?_
  refine ds_set 1 ?_ sc.nd
  refine de_lst ?_
  refine da_cons ?_
  refine de_tup ?_
  refine da_cons ?_
  refine de_str ?_
  walk_at "F"
  refine da_cons ?_
  refine de_int ?_
  walk_at "F"
  refine da_nil ?_
  refine ⟨by show 2 ≤ sizeLine; decide, ?_⟩
  walk_at "F"
  refine da_cons ?_
  refine de_tup ?_
  refine da_cons ?_
  refine de_str ?_
  walk_at "F"
  refine da_cons ?_
  refine de_int ?_
  walk_at "F"
  refine da_nil ?_
  refine ⟨by show 2 ≤ sizeLine; decide, ?_⟩
  walk_at "F"
  refine da_cons ?_
  refine de_tup ?_
  refine da_cons ?_
  refine de_str ?_
  walk_at "F"
  refine da_cons ?_
  refine de_int ?_
  walk_at "F"
  refine da_nil ?_
  refine ⟨by show 2 ≤ sizeLine; decide, ?_⟩
  walk_at "F"
  refine da_cons ?_
  refine de_tup ?_
  refine da_cons ?_
  refine de_str ?_
  walk_at "F"
  refine da_cons ?_
  refine de_int ?_
  walk_at "F"
  refine da_nil ?_
  refine ⟨by show 2 ≤ sizeLine; decide, ?_⟩
  walk_at "F"
  refine da_cons ?_
  refine de_tup ?_
  refine da_cons ?_
  refine de_str ?_
  walk_at "F"
  refine da_cons ?_
  refine de_int ?_
  walk_at "F"
  refine da_nil ?_
  refine ⟨by show 2 ≤ sizeLine; decide, ?_⟩
  walk_at "F"
  refine da_cons ?_
  refine de_tup ?_
  refine da_cons ?_
  refine de_str ?_
  walk_at "F"
  refine da_cons ?_
  refine de_int ?_
  walk_at "F"
  refine da_nil ?_
  refine ⟨by show 2 ≤ sizeLine; decide, ?_⟩
  walk_at "F"
  refine da_cons ?_
  refine de_tup ?_
  refine da_cons ?_
  refine de_str ?_
  walk_at "F"
  refine da_cons ?_
  refine de_int ?_
  walk_at "F"
  refine da_nil ?_
  refine ⟨by show 2 ≤ sizeLine; decide, ?_⟩
  walk_at "F"
  refine da_cons ?_
  refine de_tup ?_
  refine da_cons ?_
  refine de_str ?_
  walk_at "F"
  refine da_cons ?_
  refine de_int ?_
  walk_at "F"
  refine da_nil ?_
  refine ⟨by show 2 ≤ sizeLine; decide, ?_⟩
  walk_at "F"
  refine da_nil ?_
  refine ⟨by show 8 ≤ sizeLine; decide, ?_⟩
  intro q
  refine dss_cons ?_
  refine ds_set 2 ?_ sc.nd
  refine de_callD 0 G_law_one (hr.mono (by decide)) ?_
  refine da_cons ?_
  refine de_lst ?_
  refine da_cons ?_
  refine de_tup ?_
  refine da_cons ?_
  refine de_str ?_
  walk_at "F"
  refine da_cons ?_
  refine de_int ?_
  walk_at "F"
  refine da_nil ?_
  refine ⟨by show 2 ≤ sizeLine; decide, ?_⟩
  walk_at "F"
  refine da_cons ?_
  refine de_tup ?_
  refine da_cons ?_
  refine de_str ?_
  walk_at "F"
  refine da_cons ?_
  refine de_int ?_
  walk_at "F"
  refine da_nil ?_
  refine ⟨by show 2 ≤ sizeLine; decide, ?_⟩
  walk_at "F"
  refine da_nil ?_
  refine ⟨by show 2 ≤ sizeLine; decide, ?_⟩
  intro q
  walk_at "F"
  refine da_nil ?_
  refine ⟨(_, y + 1), _, _, ⟨by show 0 < 2; decide, by show 2 < 1073741824; decide⟩, rfl, rfl, weak_deck (Nat.le_refl _), ?_⟩
  rintro _ _ ⟨bk, hbk, rfl, rfl⟩
  refine dss_cons ?_
  refine ds_set 3 ?_ sc.nd
  refine de_lst ?_
  refine da_cons ?_
  refine de_tup ?_
  refine da_cons ?_
  refine de_totup T ?_
  refine da_cons ?_
  walk_at "v1"
  walk_at "F"
  refine da_nil ?_
  (first | refine cl_tupL ?_ | refine cl_tupT ?_)
  walk_at "F"
  refine da_cons ?_
  refine de_bin ?_
  refine de_tup ?_
  refine da_cons ?_
  refine de_tup ?_
  refine da_cons ?_
  refine de_str ?_
  walk_at "F"
  refine da_cons ?_
  refine de_int ?_
  walk_at "F"
  refine da_nil ?_
  refine ⟨by show 2 ≤ sizeLine; decide, ?_⟩
  walk_at "F"
  refine da_nil ?_
  refine ⟨by show 1 ≤ sizeLine; decide, ?_⟩
  walk_at "F"
  refine de_int ?_
  walk_at "F"
  refine bd_repT (by simp) (by decide) (by decide) (by simp) ?_
  walk_at "F"
  refine da_nil ?_
  refine ⟨by show 2 ≤ sizeLine; decide, ?_⟩
  walk_at "F"
  refine da_cons ?_
  refine de_tup ?_
  refine da_cons ?_
  refine de_bin ?_
  refine de_bin ?_
  refine de_tup ?_
  refine da_cons ?_
  refine de_tup ?_
  refine da_cons ?_
  refine de_str ?_
  walk_at "F"
  refine da_cons ?_
  refine de_int ?_
  walk_at "F"
  refine da_nil ?_
  refine ⟨by show 2 ≤ sizeLine; decide, ?_⟩
  walk_at "F"
  refine da_nil ?_
  refine ⟨by show 1 ≤ sizeLine; decide, ?_⟩
  walk_at "F"
  refine de_int ?_
  walk_at "F"
  refine bd_repT (by simp) (by decide) (by decide) (by simp) ?_
  walk_at "F"
  refine de_bin ?_
  refine de_tup ?_
  refine da_cons ?_
  walk_at "v2"
  walk_at "F"
  refine da_nil ?_
  refine ⟨by show 1 ≤ sizeLine; decide, ?_⟩
  walk_at "F"
  refine de_int ?_
  walk_at "F"
  refine bd_repT (by simp) (by decide) (by decide) (by simp) ?_
  walk_at "F"
  refine bd_cat (List.cons_ne_nil _ _) (List.cons_ne_nil _ _) (by show 8 ≤ sizeLine; decide) ?_
  walk_at "F"
  refine da_nil ?_
  refine ⟨by show 1 ≤ sizeLine; decide, ?_⟩
  walk_at "F"
  refine da_nil ?_
  refine ⟨by show 2 ≤ sizeLine; decide, ?_⟩
  intro q
  refine dss_one ?_
  refine ds_ret ?_
  refine de_callD 0 G_law_one (hr.mono (by decide)) ?_
  refine da_cons ?_
  walk_at "v3"
  walk_at "F"
  refine da_nil ?_
  refine ⟨(_, y), _, _, ⟨by show 0 < 2; decide, by show 2 < 1073741824; decide⟩, rfl, rfl, weak_deck (Nat.le_refl _), ?_⟩
  rintro _ _ ⟨d, hd, rfl, rfl⟩
  refine ⟨_, oDeck y p, rfl, weak_deck (Nat.le_refl _), ?_⟩
  rcases List.mem_cons.mp hd with rfl | hd
  · exact ⟨[[("left", 1), ("left", 1), ("step", 0), ("step", 0), ("left", 1), ("left", 1), ("right", 0), ("right", 0)], [("step", 0), ("step", 0), ("step", 0), ("step", 0), ("step", 0), ("step", 0), ("step", 0), ("step", 0)]],
      ⟨by decide, by decide, by decide, by decide +kernel⟩, rfl, rfl⟩
  · have hd2 := List.mem_singleton.mp hd
    subst hd2
    rcases List.mem_cons.mp hbk with rfl | hbk
    · exact ⟨[[("step", 0), ("step", 0), ("step", 0), ("step", 0), ("right", 0), ("right", 0), ("right", 0), ("right", 0)]], ⟨by decide, by decide, by decide, by decide +kernel⟩, rfl, rfl⟩
    · have h2 := List.mem_singleton.mp hbk
      subst h2
      exact ⟨[[("step", 0), ("step", 0), ("step", 0), ("step", 0), ("round", 0), ("round", 0), ("round", 0), ("round", 0)]], ⟨by decide, by decide, by decide, by decide +kernel⟩, rfl, rfl⟩

abbrev p_law_table (K : PySem.W.Frag) : Sp := spK K (ι := Nat) (fun _ => True) (fun y p => oDeck (y + 60) p) (fun _ => []) (fun y p s B => ∃ t, TabOk t ∧ s = .frz (tabD t) ∧ B = oDeck y p)
theorem tab_set {t : List (List (Str × Nat))} {j l : Nat} {r : List (Str × Nat)} {e : Str × Nat} (h : TabOk t) (hj : t[j]? = some r) (h1 : e.1 ∈ mvs) (h2 : e.2 < t.length) : TabOk (t.set j (r.set l e)) where
  lo := by rw [List.length_set]; exact h.lo
  hi := by rw [List.length_set]; exact h.hi
  row := fun q hq => by
    rcases List.mem_or_eq_of_mem_set hq with hq | rfl
    · exact h.row q hq
    · rw [List.length_set]; exact h.row r (List.mem_of_getElem? hj)
  ent := fun q hq x hx => by
    rw [List.length_set]
    rcases List.mem_or_eq_of_mem_set hq with hq | rfl
    · exact h.ent q hq x hx
    · rcases List.mem_or_eq_of_mem_set hx with hx | rfl
      · exact h.ent r (List.mem_of_getElem? hj) x hx
      · exact ⟨h1, h2⟩
theorem str_of_mem {L : List Str} {d : PyData} (h : d ∈ L.map PyData.str) : ∃ x ∈ L, d = .str x := by
  obtain ⟨x, hx, rfl⟩ := List.mem_map.mp h
  exact ⟨x, hx, rfl⟩
abbrev n_law_table : List Str := ["_law_deck_here", "_law_state", "_law_found", "_law_turn", "_law_many", "_law_row", "_law_sight_so", "_law_entry", "_law_some"]
theorem sc_law_table : FnScope n_law_table ["_law_deck_here"] (defScope s_law_table) := ⟨rfl, rfl, rfl, by decide +kernel, rfl, by decide +kernel, by decide +kernel⟩
theorem ok_law_table (T : Txt mg) (G_law_pick : Has P w K mg base 1 "_law_pick" (p_law_pick K)) (G_law_one : Has P w K mg base 2 "_law_one" (p_law_one K)) (G_law_hand : Has P w K mg base 3 "_law_hand" (p_law_hand K)) (D : Df K mg "_law_table" s_law_table) : Has P w K mg base 4 "_law_table" (p_law_table K) := by
  have sc := sc_law_table
  refine has_K D sc (fun y _ => rfl) (fun _ _ _ _ _ _ us hl => match us, hl with | [_], _ => rfl) (fun f cdv A outer s H E hr y p py => ?_)
  refine dss_cons ?_
  refine ds_if ?_
  refine dt_cmp ?_
  refine de_callD 0 G_law_pick (hr.mono (by decide)) ?_
  refine da_cons ?_
  refine de_int ?_
  walk_at "F"
  refine da_nil ?_
  refine ⟨(_, y + 59), _, _, ⟨by show (0 : Int) < 2; decide, by show (2 : Int) < 1073741824; decide⟩, rfl, rfl, weak_deck (Nat.le_refl _), ?_⟩
  rintro _ _ ⟨n, rfl, n0, n1, rfl⟩
  walk_at "F"
  refine de_int ?_
  walk_at "F"
  refine cd_eqi ?_
  refine ite2 (fun h1 => ?_) (fun h1 => ?_)
  · refine dss_cons ?_
    refine ds_lcO 2 [("_law_row", 5)] ?_ sc.nd (blkOk_by (N := n_law_table) (sc := defScope s_law_table) (by decide +kernel))
    refine di_tup ?_
    refine de_callD 0 G_law_hand (hr.mono (by decide)) ?_
    refine da_nil ?_
    refine ⟨y + 57, _, _, trivial, rfl, rfl, weak_deck (Nat.le_refl _), ?_⟩
    rintro _ _ ⟨t, ht, rfl, rfl⟩
    walk_at "F"
    refine ⟨_, rfl, ?_⟩
    refine ⟨fun i acc ρ => acc.map Prod.snd = (t.take i).map (fun r => r.map entD) ∧ ρ = [some (.own p (oDeck (y + 57) p)), none, none, none, none, none, none, none, none], ⟨rfl, rfl⟩, ?_, ?_⟩
    · rintro i d acc ρ2 hd ⟨hacc, rfl⟩
      rw [List.getElem?_map] at hd
      cases hx : t[i]? with
      | none => rw [hx] at hd; cases hd
      | some r =>
      rw [hx] at hd
      cases hd
      have il := (List.getElem?_eq_some_iff.mp hx).1
      refine ⟨?_, ?_⟩
      · have := congrArg List.length hacc
        rw [List.length_map, List.length_map, List.length_take] at this
        have h3 := ht.hi
        exact Nat.lt_of_le_of_lt (m := 3) (by omega) (by decide)
      intro s H C cl fp
      refine dg_name 5 ?_ sc.nd
      intro s H C cl fp
      refine dts_nil ?_
      refine iteT ?_
      intro s H C cl fp
      refine de_tolist T ?_
      refine da_cons ?_
      walk_at "v5"
      walk_at "F"
      refine da_nil ?_
      refine cl_listT ?_
      intro q
      refine ⟨q, _, rfl, ?_, rfl⟩
      rw [List.map_append, hacc, List.take_succ, hx, List.map_append]
      rfl
    rintro acc ρ2 ⟨hacc, rfl⟩ q
    replace hacc : acc.map Prod.snd = t.map (fun r => r.map entD) := by
      rw [List.length_map, List.take_length] at hacc
      exact hacc
    refine dss_cons ?_
    refine ds_forM (α := Nat) (vs := [3]) ?_
    refine di_range1 ?_ T.range
    refine de_callD 0 G_law_pick (hr.mono (by decide)) ?_
    refine da_cons ?_
    refine de_int ?_
    walk_at "F"
    refine da_nil ?_
    refine ⟨(_, y + 56), _, _, ⟨by show (0 : Int) < 3; decide, by show (3 : Int) < 1073741824; decide⟩, rfl, rfl, weak_deck (Nat.le_refl _), ?_⟩
    rintro _ _ ⟨k, rfl, k0, k1, rfl⟩
    replace k1 : k < 3 := k1
    obtain ⟨k, rfl⟩ := Int.eq_ofNat_of_zero_le k0
    walk_at "F"
    refine ⟨_, rfl, by omega, by omega, ?_⟩
    refine ⟨List.range k, fun i => .int (0 + (i : Int)), fun i ρ => ∃ t qs B o3 o7, TabOk t ∧ qs.map Prod.snd = t.map (fun r => r.map entD) ∧ y + 20 - 4 * i ≤ B ∧ ρ = [some (.own p (oDeck B p)), none, some (.own q (oLls q qs)), o3, none, none, none, o7, none], rfl, ⟨t, acc, y + 56, none, none, ht, hacc, by omega, rfl⟩, ?_, ?_⟩
    · rintro i x ρ2 hd ⟨t, qs, B, o3, o7, ht, hqs, hB, rfl⟩
      have ik : i < k := by have := (List.getElem?_eq_some_iff.mp hd).1; rwa [List.length_range] at this
      have hlen : qs.length = t.length := by have := congrArg List.length hqs; rwa [List.length_map, List.length_map] at this
      have t1 := ht.lo
      have t3 := ht.hi
      refine dg_name 3 ?_ sc.nd
      refine dss_cons ?_
      refine ds_set 7 ?_ sc.nd
      refine de_tup ?_
      refine da_cons ?_
      refine de_callD 0 G_law_one (hr.mono (by decide)) ?_
      refine da_cons ?_
      refine de_lst ?_
      refine da_cons ?_
      refine de_str ?_
      walk_at "F"
      refine da_cons ?_
      refine de_str ?_
      walk_at "F"
      refine da_cons ?_
      refine de_str ?_
      walk_at "F"
      refine da_cons ?_
      refine de_str ?_
      walk_at "F"
      refine da_cons ?_
      refine de_str ?_
      walk_at "F"
      refine da_nil ?_
      refine ⟨by show 5 ≤ sizeLine; decide, ?_⟩
      intro q5
      walk_at "F"
      refine da_nil ?_
      refine ⟨(_, B - 1), _, _, ⟨by show 0 < 5; decide, by show 5 < 1073741824; decide⟩, rfl, rfl, weak_deck (by show B - 1 + 1 ≤ B; omega), ?_⟩
      rintro _ _ ⟨d, hd, rfl, rfl⟩
      obtain ⟨mv, hmv, rfl⟩ := str_of_mem (L := mvs) hd
      walk_at "F"
      refine da_cons ?_
      refine de_callD 0 G_law_pick (hr.mono (by decide)) ?_
      refine da_cons ?_
      refine de_lenO 2 qs.length lls_len ?_ T.len
      walk_at "F"
      refine da_nil ?_
      refine ⟨(_, B - 2), _, _, ⟨by show (0 : Int) < (qs.length : Int); omega, by show (qs.length : Int) < 1073741824; omega⟩, rfl, rfl, weak_deck (by show B - 2 + 1 ≤ B - 1; omega), ?_⟩
      rintro _ _ ⟨st, rfl, st0, st1, rfl⟩
      replace st1 : st < (qs.length : Int) := st1
      obtain ⟨st, rfl⟩ := Int.eq_ofNat_of_zero_le st0
      walk_at "F"
      refine da_nil ?_
      refine ⟨by show 2 ≤ sizeLine; decide, ?_⟩
      refine dss_one ?_
      refine ds_item2 2 ?_ ⟨_, _, rfl⟩
      walk_at "v7"
      walk_at "F"
      refine de_callD 0 G_law_pick (hr.mono (by decide)) ?_
      refine da_cons ?_
      refine de_lenO 2 qs.length lls_len ?_ T.len
      walk_at "F"
      refine da_nil ?_
      refine ⟨(_, B - 3), _, _, ⟨by show (0 : Int) < (qs.length : Int); omega, by show (qs.length : Int) < 1073741824; omega⟩, rfl, rfl, weak_deck (by show B - 3 + 1 ≤ B - 2; omega), ?_⟩
      rintro _ _ ⟨j, rfl, j0, j1, rfl⟩
      replace j1 : j < (qs.length : Int) := j1
      obtain ⟨j, rfl⟩ := Int.eq_ofNat_of_zero_le j0
      have jl : j < qs.length := by omega
      have jt : j < t.length := by omega
      have hr8 : (t[j]).length = 8 := ht.row _ (List.getElem_mem jt)
      obtain ⟨qj, es, hqj, hes⟩ : ∃ qj es, qs[j]? = some (qj, es) ∧ es = (t[j]).map entD := by
        refine ⟨(qs[j]).1, (qs[j]).2, List.getElem?_eq_getElem jl, ?_⟩
        have e1 : (qs.map Prod.snd)[j]? = some (qs[j]).2 := by rw [List.getElem?_map, List.getElem?_eq_getElem jl] <;> rfl
        rw [hqs, List.getElem?_map, List.getElem?_eq_getElem jt] at e1
        exact (Option.some.inj e1).symm
      refine ⟨_, j, _, qj, qs, es, rfl, rfl, ixN_nat jl, hqj, ?_⟩
      refine de_callD 0 G_law_pick (hr.mono (by decide)) ?_
      refine da_cons ?_
      refine de_int ?_
      walk_at "F"
      refine da_nil ?_
      refine ⟨(_, B - 4), _, _, ⟨by show (0 : Int) < 8; decide, by show (8 : Int) < 1073741824; decide⟩, rfl, rfl, weak_deck (by show B - 4 + 1 ≤ B - 3; omega), ?_⟩
      rintro _ _ ⟨l, rfl, l0, l1, rfl⟩
      replace l1 : l < 8 := l1
      obtain ⟨l, rfl⟩ := Int.eq_ofNat_of_zero_le l0
      refine ⟨_, l, rfl, rfl, ixN_nat (by rw [hes, List.length_map, hr8]; omega), ?_⟩
      refine ⟨t.set j ((t[j]).set l (mv, st)), _, B - 4, _, _, tab_set ht (List.getElem?_eq_getElem jt) hmv (by show st < t.length; omega), ?_, by omega, rfl⟩
      rw [List.map_set, List.map_set, hqs, hes, List.map_set]
      rfl
    rintro ρ2 ⟨t, qs, B, o3, o7, ht, hqs, hB, rfl⟩
    rw [List.length_range] at hB
    have t3 := ht.hi
    refine dss_one ?_
    refine ds_ret ?_
    refine de_totup T ?_
    refine da_cons ?_
    refine de_lc [("_law_row", 5)] ?_ sc.nd (blkOk_by (N := n_law_table) (sc := defScope s_law_table) (by decide +kernel))
    refine di_list ?_
    refine de_fzL 2 ?_
    walk_at "F"
    refine ⟨_, rfl, ?_⟩
    refine lc_map (xs := t) (f := fun r => .list (r.map entD)) (fun r => .tuple (r.map entD)) ?_ (Nat.lt_of_le_of_lt (m := 3) (by omega) (by decide)) ?_ ?_
    · have : qs.map (fun z => PyData.list z.2) = (qs.map Prod.snd).map PyData.list := by rw [List.map_map]; rfl
      rw [this, hqs, List.map_map]
      rfl
    · intro i x hx s H C cl fp
      refine dg_name 5 ?_ sc.nd
      intro s H C cl fp
      refine dts_nil ?_
      refine ⟨rfl, ?_⟩
      intro s H C cl fp
      refine de_totup T ?_
      refine da_cons ?_
      walk_at "v5"
      walk_at "F"
      refine da_nil ?_
      refine cl_tupL ?_
      walk_at "F"
      exact ⟨rfl, rfl⟩
    intro q
    walk_at "F"
    refine da_nil ?_
    refine cl_tupL ?_
    exact ⟨_, oDeck y p, rfl, weak_deck (by omega), t, ht, rfl, rfl⟩
  · refine dss_nil ?_
    refine dss_cons ?_
    refine ds_par2 4 2 ?_ sc.nd
    refine db_cons ?_
    refine de_bin ?_
    refine de_int ?_
    walk_at "F"
    refine de_callD 0 G_law_pick (hr.mono (by decide)) ?_
    refine da_cons ?_
    refine de_int ?_
    walk_at "F"
    refine da_nil ?_
    refine ⟨(_, y + 58), _, _, ⟨by show (0 : Int) < 3; decide, by show (3 : Int) < 1073741824; decide⟩, rfl, rfl, weak_deck (Nat.le_refl _), ?_⟩
    rintro _ _ ⟨k, rfl, k0, k1, rfl⟩
    replace k1 : k < 3 := k1
    walk_at "F"
    walk_at "add"
    refine db_cons ?_
    refine de_tup ?_
    refine da_nil ?_
    refine ⟨by show 0 ≤ sizeLine; decide, ?_⟩
    refine db_nil ?_
    refine ⟨_, _, rfl, ?_⟩
    obtain ⟨M, hM⟩ : ∃ M : Nat, 1 + k = (M : Int) := ⟨(1 + k).toNat, by omega⟩
    rw [hM]
    have M1 : 1 ≤ M := by omega
    have M3 : M ≤ 3 := by omega
    refine dss_cons ?_
    refine ds_forM (α := Nat) (vs := [1]) ?_
    refine di_range1 ?_ T.range
    walk_at "v4"
    walk_at "F"
    refine ⟨_, rfl, by omega, by omega, ?_⟩
    refine ⟨List.range M, fun i => .int (0 + (i : Int)), fun i ρ => ∃ (t : List (List (Str × Nat))) (B : Nat) (o1 o5 o6 o8 : Option Sl), t.length = i ∧ (∀ r ∈ t, r.length = 8) ∧ (∀ r ∈ t, ∀ e ∈ r, e.1 ∈ mvs ∧ e.2 < M) ∧ y + 52 - 17 * i ≤ B ∧ ρ = [some (.own p (oDeck B p)), o1, some (.frz (tabD t)), none, some (.frz (.int (M : Int))), o5, o6, none, o8], rfl, ⟨[], y + 58, none, none, none, none, rfl, by simp, by simp, by omega, rfl⟩, ?_, ?_⟩
    · rintro i x ρ2 hd ⟨t, B, o1, o5, o6, o8, hl, h8, he, hB, rfl⟩
      have iM : i < M := by have := (List.getElem?_eq_some_iff.mp hd).1; rwa [List.length_range] at this
      refine dg_name 1 ?_ sc.nd
      refine dss_cons ?_
      refine ds_set 5 ?_ sc.nd
      refine de_tup ?_
      refine da_nil ?_
      refine ⟨by show 0 ≤ sizeLine; decide, ?_⟩
      refine dss_cons ?_
      refine ds_forM (α := Nat) (vs := [6]) ?_
      refine di_range1 ?_ T.range
      refine de_int ?_
      walk_at "F"
      refine ⟨_, rfl, by decide, by decide, ?_⟩
      refine ⟨List.range 8, fun i => .int (0 + (i : Int)), fun j ρ => ∃ (r : List (Str × Nat)) (B : Nat) (o6 o8 : Option Sl), r.length = j ∧ (∀ e ∈ r, e.1 ∈ mvs ∧ e.2 < M) ∧ y + 52 - 17 * i - 2 * j ≤ B ∧ ρ = [some (.own p (oDeck B p)), some (.frz (.int (0 + (x : Int)))), some (.frz (tabD t)), none, some (.frz (.int (M : Int))), some (.frz (.tuple (r.map entD))), o6, none, o8], rfl, ⟨[], B, o6, o8, rfl, by simp, by omega, rfl⟩, ?_, ?_⟩
      · rintro j x2 ρ2 hd ⟨r, B, o6, o8, hrl, hre, hB, rfl⟩
        have j8 : j < 8 := by have := (List.getElem?_eq_some_iff.mp hd).1; rwa [List.length_range] at this
        refine dg_name 6 ?_ sc.nd
        refine dss_cut (fun ρ => ∃ (q : Addr) (L : List Str), (∀ x ∈ L, x ∈ mvs) ∧ L.length ≤ 5 ∧ ρ = [some (.own p (oDeck B p)), some (.frz (.int (0 + (x : Int)))), some (.frz (tabD t)), none, some (.frz (.int (M : Int))), some (.frz (.tuple (r.map entD))), some (.frz (.int (0 + (x2 : Int)))), none, some (.own q (oLst q (L.map .str)))]) ?_ ?_
        · refine ds_set 8 ?_ sc.nd
          refine de_if ?_
          refine dt_cmp ?_
          walk_at "v6"
          walk_at "F"
          refine de_int ?_
          walk_at "F"
          refine cd_gt ?_
          refine ite2 (fun h2 => ?_) (fun h2 => ?_)
          · refine de_lst ?_
            refine da_cons ?_
            refine de_str ?_
            walk_at "F"
            refine da_cons ?_
            refine de_str ?_
            walk_at "F"
            refine da_cons ?_
            refine de_str ?_
            walk_at "F"
            refine da_cons ?_
            refine de_str ?_
            walk_at "F"
            refine da_nil ?_
            refine ⟨by show 4 ≤ sizeLine; decide, ?_⟩
            intro q
            exact ⟨q, ["left", "right", "round", "stay"], by decide +kernel, by decide, rfl⟩
          · refine de_lst ?_
            refine da_cons ?_
            refine de_str ?_
            walk_at "F"
            refine da_cons ?_
            refine de_str ?_
            walk_at "F"
            refine da_cons ?_
            refine de_str ?_
            walk_at "F"
            refine da_cons ?_
            refine de_str ?_
            walk_at "F"
            refine da_cons ?_
            refine de_str ?_
            walk_at "F"
            refine da_nil ?_
            refine ⟨by show 5 ≤ sizeLine; decide, ?_⟩
            intro q
            exact ⟨q, ["step", "step", "step", "left", "right"], by decide +kernel, by decide, rfl⟩
        rintro _ ⟨q, L, hL, hL5, rfl⟩
        refine dss_one ?_
        refine ds_set 5 ?_ sc.nd
        refine de_bin ?_
        walk_at "v5"
        walk_at "F"
        refine de_tup ?_
        refine da_cons ?_
        refine de_tup ?_
        refine da_cons ?_
        refine de_callD 0 G_law_one (hr.mono (by decide)) ?_
        refine da_cons ?_
        refine de_bin ?_
        walk_at "v8"
        walk_at "F"
        refine de_lst ?_
        refine da_cons ?_
        refine de_str ?_
        walk_at "F"
        refine da_nil ?_
        refine ⟨by show 1 ≤ sizeLine; decide, ?_⟩
        intro q
        walk_at "F"
        refine bd_catL (by rw [List.length_map]; exact Nat.le_trans (m := 6) (by show L.length + 1 ≤ 6; omega) (by decide)) ?_
        intro q
        walk_at "F"
        refine da_nil ?_
        have hlen : (L.map PyData.str ++ [PyData.str "step"]).length = L.length + 1 := by rw [List.length_append, List.length_map]; rfl
        refine ⟨(_, B - 1), _, _, ⟨by show 0 < (L.map PyData.str ++ [PyData.str "step"]).length; omega, by show (L.map PyData.str ++ [PyData.str "step"]).length < 1073741824; omega⟩, rfl, rfl, weak_deck (by show B - 1 + 1 ≤ B; omega), ?_⟩
        rintro _ _ ⟨d, hd, rfl, rfl⟩
        obtain ⟨mv, hmv, rfl⟩ : ∃ x ∈ mvs, d = .str x := by
          rcases List.mem_append.mp hd with hd | hd
          · obtain ⟨x, hx, rfl⟩ := str_of_mem hd
            exact ⟨x, hL x hx, rfl⟩
          · exact ⟨"step", by decide +kernel, List.mem_singleton.mp hd⟩
        walk_at "F"
        refine da_cons ?_
        refine de_callD 0 G_law_pick (hr.mono (by decide)) ?_
        refine da_cons ?_
        walk_at "v4"
        walk_at "F"
        refine da_nil ?_
        refine ⟨(_, B - 2), _, _, ⟨by show (0 : Int) < (M : Int); omega, by show (M : Int) < 1073741824; omega⟩, rfl, rfl, weak_deck (by show B - 2 + 1 ≤ B - 1; omega), ?_⟩
        rintro _ _ ⟨st, rfl, st0, st1, rfl⟩
        replace st1 : st < (M : Int) := st1
        obtain ⟨st, rfl⟩ := Int.eq_ofNat_of_zero_le st0
        walk_at "F"
        refine da_nil ?_
        refine ⟨by show 2 ≤ sizeLine; decide, ?_⟩
        walk_at "F"
        refine da_nil ?_
        refine ⟨by show 1 ≤ sizeLine; decide, ?_⟩
        walk_at "F"
        refine bd_catP (by rw [List.length_map, hrl]; exact Nat.le_trans (m := 8) (by omega) (by decide)) ?_
        refine ⟨r ++ [(mv, st)], B - 2, some (.frz (.int (0 + (x2 : Int)))), some (.frz (.list (L.map .str))), by rw [List.length_append, hrl]; rfl, fun e hx => ?_, by omega, ?_⟩
        · rcases List.mem_append.mp hx with hx | hx
          · exact hre e hx
          · rw [List.mem_singleton.mp hx]
            exact ⟨hmv, by show st < M; omega⟩
        · rw [List.map_append]
          rfl
      rintro ρ2 ⟨r, B, o6, o8, hrl, hre, hB, rfl⟩
      rw [List.length_range] at hrl hB
      refine dss_one ?_
      refine ds_set 2 ?_ sc.nd
      refine de_bin ?_
      walk_at "v2"
      walk_at "F"
      refine de_tup ?_
      refine da_cons ?_
      walk_at "v5"
      walk_at "F"
      refine da_nil ?_
      refine ⟨by show 1 ≤ sizeLine; decide, ?_⟩
      walk_at "F"
      refine bd_catP (by rw [List.length_map, hl]; exact Nat.le_trans (m := 8) (by omega) (by decide)) ?_
      refine ⟨t ++ [r], B, some (.frz (.int (0 + (x : Int)))), some (.frz (.tuple (r.map entD))), o6, o8, by rw [List.length_append, hl]; rfl, fun q hq => ?_, fun q hq => ?_, by omega, ?_⟩
      · rcases List.mem_append.mp hq with hq | hq
        · exact h8 q hq
        · rw [List.mem_singleton.mp hq]; exact hrl
      · rcases List.mem_append.mp hq with hq | hq
        · exact he q hq
        · rw [List.mem_singleton.mp hq]; exact hre
      · unfold tabD
        rw [List.map_append]
        rfl
    rintro ρ2 ⟨t, B, o1, o5, o6, o8, hl, h8, he, hB, rfl⟩
    rw [List.length_range] at hl hB
    refine dss_one ?_
    refine ds_ret ?_
    walk_at "v2"
    exact ⟨_, oDeck y p, rfl, weak_deck (by omega), t, ⟨by omega, by omega, h8, by rw [hl]; exact he⟩, rfl, rfl⟩

/-- a room that the program takes -/
structure Rm where
  rows : List Str
  w : Nat
  ok : RoomW rows w 6 5
def Rm.spot (R : Rm) (x y : Int) : Nat := ((R.rows.getD y.toNat "").cps.toList).getD x.toNat 0
def Rm.free (R : Rm) (x y : Int) : Bool := (decide (0 ≤ y) && decide (y < (R.rows.length : Int))) && ((decide (0 ≤ x) && decide (x < (R.w : Int))) && decide (R.spot x y = 46))
theorem Rm.w6 (R : Rm) : R.w ≤ sizeLine := Nat.le_trans R.ok.w2 (by decide)
theorem Rm.zero (R : Rm) : ∃ r0, atI (R.rows.map PyData.str) 0 = some (.str r0) ∧ r0.length = R.w ∧ r0.length ≤ sizeLine := by
  cases h : R.rows with
  | nil => have := R.ok.h1; rw [h] at this; cases this
  | cons a t =>
    have := (R.ok.row a (by rw [h]; exact List.mem_cons_self)).1
    exact ⟨a, atI_zero _ _, this, by rw [this]; exact R.w6⟩
theorem Rm.row (R : Rm) {y : Int} (h0 : 0 ≤ y) (h1 : y < (R.rows.length : Int)) : ∃ row, atI (R.rows.map PyData.str) y = some (.str row) ∧ row.length = R.w ∧ row.length ≤ sizeLine ∧ ∀ x : Int, 0 ≤ x → x < (R.w : Int) → atI row.cps.toList x = some (R.spot x y) := by
  obtain ⟨j, rfl⟩ := Int.eq_ofNat_of_zero_le h0
  have jl : j < R.rows.length := by omega
  have hw := (R.ok.row _ (List.getElem_mem jl)).1
  refine ⟨R.rows[j], atI_nat (by rw [List.getElem?_map, List.getElem?_eq_getElem jl] <;> rfl), hw, by rw [hw]; exact R.w6, fun x x0 x1 => ?_⟩
  obtain ⟨i, rfl⟩ := Int.eq_ofNat_of_zero_le x0
  have il : i < (R.rows[j]).cps.toList.length := by rw [← len_l]; omega
  refine atI_nat ?_
  unfold Rm.spot
  show (R.rows[j]).cps.toList[i]? = some (((R.rows.getD j "").cps.toList).getD i 0)
  rw [List.getD_eq_getElem?_getD, List.getD_eq_getElem?_getD, List.getElem?_eq_getElem jl]
  show _ = some (((R.rows[j]).cps.toList)[i]?.getD 0)
  rw [List.getElem?_eq_getElem il]
  rfl
theorem chr_dot (c : Nat) : decide ((⟨#[c]⟩ : Str) = ".") = decide (c = 46) := by
  have e : (Str.ofString ".") = ⟨#[46]⟩ := by decide
  show decide ((⟨#[c]⟩ : Str) = Str.ofString ".") = _
  rw [e]
  exact decide_eq_decide.mpr ⟨fun h => by injection h with h; simpa using h, fun h => by rw [h]⟩
/-- headings -/
def code : Fin 4 → Nat
  | 0 => 110
  | 1 => 101
  | 2 => 115
  | 3 => 119
def hS (k : Fin 4) : Str := ⟨#[code k]⟩
def dx : Fin 4 → Int
  | 0 => 0
  | 1 => 1
  | 2 => 0
  | 3 => -1
def dy : Fin 4 → Int
  | 0 => -1
  | 1 => 0
  | 2 => 1
  | 3 => 0
def aheadD : PyData := .tuple [.tuple [.int 0, .int (-1)], .tuple [.int 1, .int 0], .tuple [.int 0, .int 1], .tuple [.int (-1), .int 0]]
theorem occ_nesw : ∀ k : Fin 4, Builtin.Str.occurrences "nesw" (hS k) 0 ("nesw" : Str).length 1 = [k.val] := by decide +kernel
theorem at_nesw : ∀ k q : Fin 4, atI ("nesw" : Str).cps.toList (((k.val : Int) + (q.val : Int)) % 4) = some (code (k + q)) := by decide +kernel
theorem at_ahead : ∀ k : Fin 4, atI [PyData.tuple [.int 0, .int (-1)], .tuple [.int 1, .int 0], .tuple [.int 0, .int 1], .tuple [.int (-1), .int 0]] (k.val : Int) = some (.tuple [.int (dx k), .int (dy k)])
  | 0 => rfl
  | 1 => rfl
  | 2 => rfl
  | 3 => rfl
def Rm.wall (R : Rm) (x y : Int) (k : Fin 4) : Bool := !R.free (x + dx k) (y + dy k)
def bI (b : Bool) : Int := if b then 1 else 0
def Rm.sight (R : Rm) (x y : Int) (k : Fin 4) : Int := 4 * bI (R.wall x y k) + 2 * bI (R.wall x y (k + 3)) + bI (R.wall x y (k + 1))
abbrev n_is_free : List Str := ["room", "x", "y"]
theorem sc_is_free : FnScope n_is_free ["room", "x", "y"] (defScope s_is_free) := ⟨rfl, rfl, rfl, by decide +kernel, rfl, by decide +kernel, by decide +kernel⟩
abbrev p_is_free (K : PySem.W.Frag) : Sp := spF K (ι := Rm × Int × Int) (fun _ => True) (fun y => [roomD y.1.rows, .int y.2.1, .int y.2.2]) (fun y s => s = .frz (.bool (y.1.free y.2.1 y.2.2)))
theorem ok_is_free (T : Txt mg) (D : Df K mg "is_free" s_is_free) : Has P w K mg base 1 "is_free" (p_is_free K) := by
  have sc := sc_is_free
  refine has_F D sc (fun y _ => rfl) (fun _ _ _ _ _ _ us hl => match us, hl with | [_, _, _], _ => rfl) (fun f cdv A outer s H E hr y py => ?_)
  obtain ⟨R, x, y⟩ := y
  obtain ⟨r0, z1, z2, z3⟩ := R.zero
  refine dss_one ?_
  refine ds_ret ?_
  refine de_andP ?_
  refine de_chainP ?_
  refine de_int ?_
  walk_at "F"
  walk_at "v2"
  walk_at "F"
  refine cd_le ?_
  walk_at "cut"
  · intro h1
    refine de_len T ?_
    refine da_cons ?_
    walk_at "v0"
    walk_at "F"
    refine da_nil ?_
    refine cl_lenT ?_
    walk_at "F"
    refine cd_lt ?_
    exact ⟨rfl, rfl⟩
  refine ⟨_, rfl, ?_⟩
  walk_at "cut"
  · intro h2
    refine de_andP ?_
    refine de_chainP ?_
    refine de_int ?_
    walk_at "F"
    walk_at "v1"
    walk_at "F"
    refine cd_le ?_
    walk_at "cut"
    · intro h3
      refine de_len T ?_
      refine da_cons ?_
      refine de_sub ?_
      walk_at "v0"
      walk_at "F"
      refine de_int ?_
      walk_at "F"
      refine sd_tup z1 ?_
      walk_at "F"
      refine da_nil ?_
      refine cl_lenS z3 ?_
      walk_at "F"
      refine cd_lt ?_
      exact ⟨rfl, rfl⟩
    refine ⟨_, rfl, ?_⟩
    walk_at "cut"
    · intro h4
      rw [Bool.and_eq_true] at h2 h4
      have y0 := of_decide_eq_true h2.1
      have y1 := of_decide_eq_true h2.2
      have x0 := of_decide_eq_true h4.1
      have x1 := of_decide_eq_true h4.2
      rw [List.length_map] at y1
      rw [z2] at x1
      obtain ⟨row, e1, e2, e3, e4⟩ := R.row y0 y1
      refine de_one ?_
      refine de_cmp ?_
      refine de_sub ?_
      refine de_sub ?_
      walk_at "v0"
      walk_at "F"
      walk_at "v2"
      walk_at "F"
      refine sd_tup e1 ?_
      walk_at "F"
      walk_at "v1"
      walk_at "F"
      refine sd_str e3 (e4 x x0 x1) ?_
      walk_at "F"
      refine de_str ?_
      walk_at "F"
      refine cd_eqs ?_
      exact ⟨rfl, rfl⟩
    exact ⟨rfl, rfl⟩
  show Sl.frz _ = Sl.frz _
  rw [chr_dot, z2, List.length_map]
  rfl
abbrev n_turned_to : List Str := ["heading", "quarters"]
theorem sc_turned_to : FnScope n_turned_to ["heading", "quarters"] (defScope s_turned_to) := ⟨rfl, rfl, rfl, by decide +kernel, rfl, by decide +kernel, by decide +kernel⟩
abbrev p_turned_to (K : PySem.W.Frag) : Sp := spF K (ι := Fin 4 × Fin 4) (fun _ => True) (fun y => [.str (hS y.1), .int (y.2.val : Int)]) (fun y s => s = .frz (.str (hS (y.1 + y.2))))
theorem ok_turned_to (T : Txt mg) (C_HEADINGS : Con K mg "HEADINGS" (.str "nesw")) (D : Df K mg "turned_to" s_turned_to) : Has P w K mg base 1 "turned_to" (p_turned_to K) := by
  have sc := sc_turned_to
  refine has_F D sc (fun y _ => rfl) (fun _ _ _ _ _ _ us hl => match us, hl with | [_, _], _ => rfl) (fun f cdv A outer s H E hr y py => ?_)
  obtain ⟨k, q⟩ := y
  refine dss_one ?_
  refine ds_ret ?_
  refine de_sub ?_
  refine de_con C_HEADINGS ?_
  walk_at "F"
  refine de_bin ?_
  refine de_bin ?_
  refine de_m1 PySem.F.slot_str_index PySem.F.type_str_index ?_
  refine de_con C_HEADINGS ?_
  refine ⟨_, rfl, ?_⟩
  walk_at "v0"
  walk_at "F"
  refine ml_index (occ_nesw k) ?_
  walk_at "F"
  walk_at "v1"
  walk_at "F"
  walk_at "add"
  walk_at "F"
  refine de_int ?_
  walk_at "F"
  refine bd_mod (by decide) ?_
  walk_at "F"
  refine sd_str (by decide) (at_nesw k q) ?_
  rfl
abbrev n_beside : List Str := ["cell", "heading", "dx", "dy"]
theorem sc_beside : FnScope n_beside ["cell", "heading"] (defScope s_beside) := ⟨rfl, rfl, rfl, by decide +kernel, rfl, by decide +kernel, by decide +kernel⟩
abbrev p_beside (K : PySem.W.Frag) : Sp := spF K (ι := (Int × Int) × Fin 4) (fun _ => True) (fun y => [.tuple [.int y.1.1, .int y.1.2], .str (hS y.2)]) (fun y s => s = .frz (.tuple [.int (y.1.1 + dx y.2), .int (y.1.2 + dy y.2)]))
theorem ok_beside (T : Txt mg) (C_HEADINGS : Con K mg "HEADINGS" (.str "nesw")) (C_AHEAD : Con K mg "AHEAD" aheadD) (D : Df K mg "beside" s_beside) : Has P w K mg base 1 "beside" (p_beside K) := by
  have sc := sc_beside
  refine has_F D sc (fun y _ => rfl) (fun _ _ _ _ _ _ us hl => match us, hl with | [_, _], _ => rfl) (fun f cdv A outer s H E hr y py => ?_)
  obtain ⟨⟨x, y⟩, k⟩ := y
  refine dss_cons ?_
  refine ds_asg (vs := [2, 3]) ?_
  refine de_sub ?_
  refine de_con C_AHEAD ?_
  walk_at "F"
  refine de_m1 PySem.F.slot_str_index PySem.F.type_str_index ?_
  refine de_con C_HEADINGS ?_
  refine ⟨_, rfl, ?_⟩
  walk_at "v1"
  walk_at "F"
  refine ml_index (occ_nesw k) ?_
  walk_at "F"
  refine sd_tup (at_ahead k) ?_
  walk_at "F"
  refine dg_tup ?_ rfl
  refine dgs_cons ?_
  refine dg_name 2 ?_ sc.nd
  refine dgs_cons ?_
  refine dg_name 3 ?_ sc.nd
  refine dgs_nil ?_
  refine dss_one ?_
  refine ds_ret ?_
  refine de_tup ?_
  refine da_cons ?_
  refine de_bin ?_
  refine de_sub ?_
  walk_at "v0"
  walk_at "F"
  refine de_int ?_
  walk_at "F"
  refine sd_tup (atI_zero _ _) ?_
  walk_at "F"
  walk_at "v2"
  walk_at "F"
  walk_at "add"
  walk_at "F"
  refine da_cons ?_
  refine de_bin ?_
  refine de_sub ?_
  walk_at "v0"
  walk_at "F"
  refine de_int ?_
  walk_at "F"
  refine sd_tup (atI_nat (j := 1) rfl) ?_
  walk_at "F"
  walk_at "v3"
  walk_at "F"
  walk_at "add"
  walk_at "F"
  refine da_nil ?_
  refine ⟨by show 2 ≤ sizeLine; decide, ?_⟩
  rfl
abbrev n_has_wall : List Str := ["room", "cell", "heading", "x", "y"]
theorem sc_has_wall : FnScope n_has_wall ["room", "cell", "heading"] (defScope s_has_wall) := ⟨rfl, rfl, rfl, by decide +kernel, rfl, by decide +kernel, by decide +kernel⟩
abbrev p_has_wall (K : PySem.W.Frag) : Sp := spF K (ι := Rm × (Int × Int) × Fin 4) (fun _ => True) (fun y => [roomD y.1.rows, .tuple [.int y.2.1.1, .int y.2.1.2], .str (hS y.2.2)]) (fun y s => s = .frz (.bool (y.1.wall y.2.1.1 y.2.1.2 y.2.2)))
theorem ok_has_wall (T : Txt mg) (G_beside : Has P w K mg base 1 "beside" (p_beside K)) (G_is_free : Has P w K mg base 1 "is_free" (p_is_free K)) (D : Df K mg "has_wall" s_has_wall) : Has P w K mg base 2 "has_wall" (p_has_wall K) := by
  have sc := sc_has_wall
  refine has_F D sc (fun y _ => rfl) (fun _ _ _ _ _ _ us hl => match us, hl with | [_, _, _], _ => rfl) (fun f cdv A outer s H E hr y py => ?_)
  obtain ⟨R, ⟨x, y⟩, k⟩ := y
  refine dss_cons ?_
  refine ds_asg (vs := [3, 4]) ?_
  refine de_callF G_beside (hr.mono (by decide)) ?_
  refine da_cons ?_
  walk_at "v1"
  walk_at "F"
  refine da_cons ?_
  walk_at "v2"
  walk_at "F"
  refine da_nil ?_
  refine ⟨((x, y), k), trivial, rfl, ?_⟩
  rintro _ rfl
  walk_at "F"
  refine dg_tup ?_ rfl
  refine dgs_cons ?_
  refine dg_name 3 ?_ sc.nd
  refine dgs_cons ?_
  refine dg_name 4 ?_ sc.nd
  refine dgs_nil ?_
  refine dss_one ?_
  refine ds_ret ?_
  refine de_not ?_
  refine de_callF G_is_free (hr.mono (by decide)) ?_
  refine da_cons ?_
  walk_at "v0"
  walk_at "F"
  refine da_cons ?_
  walk_at "v3"
  walk_at "F"
  refine da_cons ?_
  walk_at "v4"
  walk_at "F"
  refine da_nil ?_
  refine ⟨(R, x + dx k, y + dy k), trivial, rfl, ?_⟩
  rintro _ rfl
  refine ⟨_, rfl, ?_⟩
  rfl

theorem cut_two (x y h : PyData) (rest : List PyData) : ¬ (HT.sIx (x :: y :: h :: rest).length 0 none = 0 ∧ HT.sIx (x :: y :: h :: rest).length (x :: y :: h :: rest).length (some 2) = (x :: y :: h :: rest).length) := by
  rintro ⟨_, h2⟩
  unfold HT.sIx at h2
  have h3 : (if (2 : Int) < 0 then (2 + ((x :: y :: h :: rest).length : Int)).toNat else min (2 : Int).toNat (x :: y :: h :: rest).length) = (x :: y :: h :: rest).length := h2
  rw [if_neg (by decide)] at h3
  have h4 : min 2 (rest.length + 3) = rest.length + 3 := h3
  omega
theorem cut_two' (x y h : PyData) (rest : List PyData) : cutG (x :: y :: h :: rest) none (some 2) = [x, y] := by
  unfold cutG
  have e : HT.sIx (x :: y :: h :: rest).length (x :: y :: h :: rest).length (some 2) = 2 := by
    unfold HT.sIx
    show (if (2 : Int) < 0 then (2 + ((x :: y :: h :: rest).length : Int)).toNat else min (2 : Int).toNat (x :: y :: h :: rest).length) = 2
    rw [if_neg (by decide)]
    show min 2 (rest.length + 3) = 2
    omega
  rw [e]
  rfl
theorem cut_last {α : Type} (ys : List α) (l : α) : cutG (ys ++ [l]) none (some (-1)) = ys := by
  unfold cutG
  have e : HT.sIx (ys ++ [l]).length (ys ++ [l]).length (some (-1)) = ys.length := by
    unfold HT.sIx
    show (if (-1 : Int) < 0 then (-1 + ((ys ++ [l]).length : Int)).toNat else min (-1 : Int).toNat (ys ++ [l]).length) = _
    rw [if_pos (by decide), List.length_append]
    show (-1 + ((ys.length + 1 : Nat) : Int)).toNat = _
    omega
  rw [e]
  show ((ys ++ [l]).drop 0).take (ys.length - 0) = ys
  rw [List.drop_zero, Nat.sub_zero, List.take_left]
theorem at_last {α : Type} (ys : List α) (l : α) : atI (ys ++ [l]) (-1) = some l := by
  unfold atI ixN
  rw [if_neg (by decide), List.length_append]
  show ((if -((ys.length + 1 : Nat) : Int) ≤ -1 then some ((-1 : Int) + ((ys.length + 1 : Nat) : Int)).toNat else none).bind fun j => (ys ++ [l])[j]?) = _
  rw [if_pos (by omega)]
  show (ys ++ [l])[((-1 : Int) + ((ys.length + 1 : Nat) : Int)).toNat]? = _
  have : ((-1 : Int) + ((ys.length + 1 : Nat) : Int)).toNat = ys.length := by omega
  rw [this, List.getElem?_append_right (Nat.le_refl _), Nat.sub_self]
  rfl
/-- a stand -/
structure Sd where
  x : Int
  y : Int
  k : Fin 4
  s : Nat
def sdD (a : Sd) : PyData := .tuple [.int a.x, .int a.y, .str (hS a.k), .int (a.s : Int)]
def entAt (t : List (List (Str × Nat))) (s n : Nat) : Str × Nat := (t.getD s []).getD n ("", 0)
def turnOf (m : Str) : Fin 4 := if m = "left" then 3 else if m = "right" then 1 else if m = "round" then 2 else 0
def Rm.entry (R : Rm) (t : List (List (Str × Nat))) (a : Sd) : Str × Nat := entAt t a.s (R.sight a.x a.y a.k).toNat
def Rm.step (R : Rm) (t : List (List (Str × Nat))) (a : Sd) : Sd × Bool :=
  if (R.entry t a).1 = "step" then (if R.wall a.x a.y a.k = true then (⟨a.x, a.y, a.k, (R.entry t a).2⟩, true) else (⟨a.x + dx a.k, a.y + dy a.k, a.k, (R.entry t a).2⟩, false))
  else (⟨a.x, a.y, a.k + turnOf (R.entry t a).1, (R.entry t a).2⟩, false)
def Rm.run (R : Rm) (t : List (List (Str × Nat))) (a : Sd) : Nat → Sd
  | 0 => a
  | n + 1 => (R.step t (R.run t a n)).1
theorem bI_two (b : Bool) : bI b = 0 ∨ bI b = 1 := by cases b <;> simp [bI]
theorem sight_nat (R : Rm) (x y : Int) (k : Fin 4) : ∃ n : Nat, R.sight x y k = (n : Int) ∧ n < 8 := by
  unfold Rm.sight
  rcases bI_two (R.wall x y k) with h | h <;> rcases bI_two (R.wall x y (k + 3)) with h2 | h2 <;> rcases bI_two (R.wall x y (k + 1)) with h3 | h3 <;> rw [h, h2, h3]
  · exact ⟨0, rfl, by decide⟩
  · exact ⟨1, rfl, by decide⟩
  · exact ⟨2, rfl, by decide⟩
  · exact ⟨3, rfl, by decide⟩
  · exact ⟨4, rfl, by decide⟩
  · exact ⟨5, rfl, by decide⟩
  · exact ⟨6, rfl, by decide⟩
  · exact ⟨7, rfl, by decide⟩
theorem tab_at {t : List (List (Str × Nat))} {s n : Nat} (h : TabOk t) (hs : s < t.length) (hn : n < 8) : ∃ row : List (Str × Nat), (t.map fun r => PyData.tuple (r.map entD))[s]? = some (.tuple (row.map entD)) ∧ (row.map entD)[n]? = some (entD (entAt t s n)) ∧ (entAt t s n).1 ∈ mvs ∧ (entAt t s n).2 < t.length := by
  have h8 := h.row _ (List.getElem_mem hs)
  have e1 : t.getD s [] = t[s] := by rw [List.getD_eq_getElem?_getD, List.getElem?_eq_getElem hs] <;> rfl
  have e2 : entAt t s n = (t[s])[n]'(by omega) := by
    unfold entAt
    rw [e1, List.getD_eq_getElem?_getD, List.getElem?_eq_getElem (by omega)] <;> rfl
  refine ⟨t[s], by rw [List.getElem?_map, List.getElem?_eq_getElem hs] <;> rfl, ?_, ?_⟩
  · rw [e2, List.getElem?_map, List.getElem?_eq_getElem (by omega)] <;> rfl
  · rw [e2]
    exact h.ent _ (List.getElem_mem hs) _ (List.getElem_mem _)
theorem ent_ok {R : Rm} {t : List (List (Str × Nat))} {a : Sd} (h : TabOk t) (hs : a.s < t.length) : (R.entry t a).1 ∈ mvs ∧ (R.entry t a).2 < t.length := by
  obtain ⟨n, e, hn⟩ := sight_nat R a.x a.y a.k
  obtain ⟨_, _, _, r⟩ := tab_at h hs hn
  unfold Rm.entry
  rw [e]
  exact r
theorem step_s {R : Rm} {t : List (List (Str × Nat))} {a : Sd} (h : TabOk t) (hs : a.s < t.length) : (R.step t a).1.s < t.length := by
  have := (ent_ok (R := R) h hs).2
  unfold Rm.step
  split
  · split <;> exact this
  · exact this
theorem run_s {R : Rm} {t : List (List (Str × Nat))} {a : Sd} (h : TabOk t) (hs : a.s < t.length) : ∀ n, (R.run t a n).s < t.length
  | 0 => hs
  | n + 1 => step_s h (run_s h hs n)
theorem add_zero4 : ∀ k : Fin 4, k + 0 = k := by decide
def turnsL : List (Str × PyData) := [("left", .int 3), ("right", .int 1), ("round", .int 2)]
theorem turns_mem {m : Str} (h : m ∈ mvs) (h1 : ¬ m = "step") (h2 : ¬ m = "stay") : (m, PyData.int ((turnOf m).val : Int)) ∈ turnsL := by
  rcases List.mem_cons.mp h with rfl | h
  · exact List.mem_cons_self
  rcases List.mem_cons.mp h with rfl | h
  · exact List.mem_cons_of_mem _ List.mem_cons_self
  rcases List.mem_cons.mp h with rfl | h
  · exact List.mem_cons_of_mem _ (List.mem_cons_of_mem _ List.mem_cons_self)
  rcases List.mem_cons.mp h with rfl | h
  · exact absurd rfl h2
  · exact absurd (List.mem_singleton.mp h) h1
theorem room_isRoom (R : Rm) : szT (roomD R.rows) ∧ isRoom (roomD R.rows) = true := by
  have hw1 := R.ok.w1
  have hw2 := R.ok.w2
  have hh1 := R.ok.h1
  have hh2 := R.ok.h2
  constructor
  · intro ds h e he x hx
    cases h
    obtain ⟨r, hr, rfl⟩ := List.mem_map.mp he
    cases hx
    rw [(R.ok.row _ hr).1]
    exact R.w6
  · unfold isRoom
    show (true && rowsOk (R.rows.map .str) && evenOk (R.rows.map .str)) = true
    rw [Bool.true_and, Bool.and_eq_true]
    constructor
    · unfold rowsOk
      rw [Bool.and_eq_true, Bool.and_eq_true, List.length_map, List.all_eq_true]
      refine ⟨⟨decide_eq_true (by omega), decide_eq_true (by omega)⟩, fun d hd => ?_⟩
      obtain ⟨r, hr, rfl⟩ := List.mem_map.mp hd
      show rowOk r = true
      unfold rowOk
      rw [Bool.and_eq_true, Bool.and_eq_true, (R.ok.row _ hr).1, List.all_eq_true]
      refine ⟨⟨decide_eq_true (by omega), decide_eq_true (by omega)⟩, fun c hc => decide_eq_true ?_⟩
      rcases (R.ok.row _ hr).2 c hc with rfl | rfl <;> decide
    · unfold evenOk
      rw [Bool.and_eq_true, List.all_eq_true, List.any_eq_true]
      constructor
      · intro d hd
        obtain ⟨r, hr, rfl⟩ := List.mem_map.mp hd
        refine decide_eq_true ?_
        show ((r.length : Nat) : Int) = (((strOf ((R.rows.map PyData.str).headD .none)).length : Nat) : Int)
        obtain ⟨a, t, e⟩ : ∃ a t, R.rows = a :: t := by
          cases h : R.rows with
          | nil => rw [h] at hh1; cases hh1
          | cons a t => exact ⟨a, t, rfl⟩
        rw [(R.ok.row _ hr).1, e]
        show _ = ((a.length : Nat) : Int)
        rw [(R.ok.row a (by rw [e]; exact List.mem_cons_self)).1]
      · obtain ⟨r, hr, h46⟩ := R.ok.free
        exact ⟨.str r, List.mem_map_of_mem hr, decide_eq_true h46⟩
theorem free_bounds {R : Rm} {x y : Int} (h : R.free x y = true) : 0 ≤ x ∧ x < 6 ∧ 0 ≤ y ∧ y < 5 := by
  unfold Rm.free at h
  simp only [Bool.and_eq_true, decide_eq_true_eq] at h
  have hw2 := R.ok.w2
  have hh2 := R.ok.h2
  omega
theorem code_in : ∀ k : Fin 4, code k ∈ ("nesw" : Str).cps.toList := by decide +kernel
abbrev n_sight_of : List Str := ["room", "stand", "ahead", "cell", "heading", "left", "right"]
theorem sc_sight_of : FnScope n_sight_of ["room", "stand"] (defScope s_sight_of) := ⟨rfl, rfl, rfl, by decide +kernel, rfl, by decide +kernel, by decide +kernel⟩
abbrev p_sight_of (K : PySem.W.Frag) : Sp := spF K (ι := (Rm × Int × Int × Fin 4) × List PyData) (fun _ => True) (fun y => [roomD y.1.1.rows, .tuple (.int y.1.2.1 :: .int y.1.2.2.1 :: .str (hS y.1.2.2.2) :: y.2)]) (fun y s => s = .frz (.int (y.1.1.sight y.1.2.1 y.1.2.2.1 y.1.2.2.2)))
theorem ok_sight_of (T : Txt mg) (G_has_wall : Has P w K mg base 2 "has_wall" (p_has_wall K)) (G_turned_to : Has P w K mg base 1 "turned_to" (p_turned_to K)) (D : Df K mg "sight_of" s_sight_of) : Has P w K mg base 3 "sight_of" (p_sight_of K) := by
  have sc := sc_sight_of
  refine has_F D sc (fun y _ => rfl) (fun _ _ _ _ _ _ us hl => match us, hl with | [_, _], _ => rfl) (fun f cdv A outer s H E hr y py => ?_)
  obtain ⟨⟨R, x, y, k⟩, rest⟩ := y
  refine dss_cons ?_
  refine ds_par2 3 4 ?_ sc.nd
  refine db_cons ?_
  refine de_slice ?_
  walk_at "v1"
  walk_at "F"
  refine do_none ?_
  refine do_some ?_
  refine de_int ?_
  refine ⟨_, rfl, ?_⟩
  refine ld_tup (cut_two _ _ _ _) ?_
  rw [cut_two']
  refine db_cons ?_
  refine de_sub ?_
  walk_at "v1"
  walk_at "F"
  refine de_int ?_
  walk_at "F"
  refine sd_tup (atI_nat (j := 2) rfl) ?_
  refine db_nil ?_
  refine ⟨_, _, rfl, ?_⟩
  refine dss_cons ?_
  refine ds_set 2 ?_ sc.nd
  refine de_callF G_has_wall (hr.mono (by decide)) ?_
  refine da_cons ?_
  walk_at "v0"
  walk_at "F"
  refine da_cons ?_
  walk_at "v3"
  walk_at "F"
  refine da_cons ?_
  walk_at "v4"
  walk_at "F"
  refine da_nil ?_
  refine ⟨(R, (x, y), k), trivial, rfl, ?_⟩
  rintro _ rfl
  refine dss_cons ?_
  refine ds_par2 5 6 ?_ sc.nd
  refine db_cons ?_
  refine de_callF G_has_wall (hr.mono (by decide)) ?_
  refine da_cons ?_
  walk_at "v0"
  walk_at "F"
  refine da_cons ?_
  walk_at "v3"
  walk_at "F"
  refine da_cons ?_
  refine de_callF G_turned_to (hr.mono (by decide)) ?_
  refine da_cons ?_
  walk_at "v4"
  walk_at "F"
  refine da_cons ?_
  refine de_int ?_
  walk_at "F"
  refine da_nil ?_
  refine ⟨(k, 3), trivial, rfl, ?_⟩
  rintro _ rfl
  walk_at "F"
  refine da_nil ?_
  refine ⟨(R, (x, y), k + 3), trivial, rfl, ?_⟩
  rintro _ rfl
  refine db_cons ?_
  refine de_callF G_has_wall (hr.mono (by decide)) ?_
  refine da_cons ?_
  walk_at "v0"
  walk_at "F"
  refine da_cons ?_
  walk_at "v3"
  walk_at "F"
  refine da_cons ?_
  refine de_callF G_turned_to (hr.mono (by decide)) ?_
  refine da_cons ?_
  walk_at "v4"
  walk_at "F"
  refine da_cons ?_
  refine de_int ?_
  walk_at "F"
  refine da_nil ?_
  refine ⟨(k, 1), trivial, rfl, ?_⟩
  rintro _ rfl
  walk_at "F"
  refine da_nil ?_
  refine ⟨(R, (x, y), k + 1), trivial, rfl, ?_⟩
  rintro _ rfl
  refine db_nil ?_
  refine ⟨_, _, rfl, ?_⟩
  refine dss_one ?_
  refine ds_ret ?_
  refine de_bin ?_
  refine de_bin ?_
  refine de_bin ?_
  refine de_int ?_
  walk_at "F"
  refine de_toint T ?_
  refine da_cons ?_
  walk_at "v2"
  walk_at "F"
  refine da_nil ?_
  refine cl_intb ?_
  walk_at "F"
  walk_at "mul"
  walk_at "F"
  refine de_bin ?_
  refine de_int ?_
  walk_at "F"
  refine de_toint T ?_
  refine da_cons ?_
  walk_at "v5"
  walk_at "F"
  refine da_nil ?_
  refine cl_intb ?_
  walk_at "F"
  walk_at "mul"
  walk_at "F"
  walk_at "add"
  walk_at "F"
  refine de_toint T ?_
  refine da_cons ?_
  walk_at "v6"
  walk_at "F"
  refine da_nil ?_
  refine cl_intb ?_
  walk_at "F"
  walk_at "add"
  rfl
abbrev n_after : List Str := ["room", "table", "stand", "x", "y", "heading", "state", "move", "later", "wall", "there"]
theorem sc_after : FnScope n_after ["room", "table", "stand"] (defScope s_after) := ⟨rfl, rfl, rfl, by decide +kernel, rfl, by decide +kernel, by decide +kernel⟩
abbrev p_after (K : PySem.W.Frag) : Sp := spF K (ι := Rm × List (List (Str × Nat)) × Sd) (fun y => TabOk y.2.1 ∧ y.2.2.s < y.2.1.length) (fun y => [roomD y.1.rows, tabD y.2.1, sdD y.2.2]) (fun y s => s = .frz (.tuple [sdD (y.1.step y.2.1 y.2.2).1, .bool (y.1.step y.2.1 y.2.2).2]))
theorem ok_after (T : Txt mg) (C_TURNS : TabC K w mg "TURNS" turnsL) (G_sight_of : Has P w K mg base 3 "sight_of" (p_sight_of K)) (G_has_wall : Has P w K mg base 2 "has_wall" (p_has_wall K)) (G_beside : Has P w K mg base 1 "beside" (p_beside K)) (G_turned_to : Has P w K mg base 1 "turned_to" (p_turned_to K)) (D : Df K mg "after" s_after) : Has P w K mg base 4 "after" (p_after K) := by
  have sc := sc_after
  refine has_F D sc (fun y _ => rfl) (fun _ _ _ _ _ _ us hl => match us, hl with | [_, _, _], _ => rfl) (fun f cdv A outer s H E hr y py => ?_)
  obtain ⟨R, t, a⟩ := y
  obtain ⟨ht, hs⟩ := py
  replace ht : TabOk t := ht
  replace hs : a.s < t.length := hs
  obtain ⟨n, en, hn⟩ := sight_nat R a.x a.y a.k
  obtain ⟨row, e1, e2, e3, e4⟩ := tab_at ht hs hn
  have ee : R.entry t a = entAt t a.s n := by unfold Rm.entry; rw [en]; rfl
  rw [← ee] at e2 e3 e4
  refine dss_cons ?_
  refine ds_asg (vs := [3, 4, 5, 6]) ?_
  walk_at "v2"
  walk_at "F"
  refine dg_tup ?_ rfl
  refine dgs_cons ?_
  refine dg_name 3 ?_ sc.nd
  refine dgs_cons ?_
  refine dg_name 4 ?_ sc.nd
  refine dgs_cons ?_
  refine dg_name 5 ?_ sc.nd
  refine dgs_cons ?_
  refine dg_name 6 ?_ sc.nd
  refine dgs_nil ?_
  refine dss_cons ?_
  refine ds_asg (vs := [7, 8]) ?_
  refine de_sub ?_
  refine de_sub ?_
  walk_at "v1"
  walk_at "F"
  walk_at "v6"
  walk_at "F"
  refine sd_tup (atI_nat e1) ?_
  walk_at "F"
  refine de_callF G_sight_of (hr.mono (by decide)) ?_
  refine da_cons ?_
  walk_at "v0"
  walk_at "F"
  refine da_cons ?_
  walk_at "v2"
  walk_at "F"
  refine da_nil ?_
  refine ⟨((R, a.x, a.y, a.k), [.int (a.s : Int)]), trivial, rfl, ?_⟩
  rintro _ rfl
  walk_at "F"
  refine sd_tup (d := entD (R.entry t a)) (by show atI _ (R.sight a.x a.y a.k) = _; rw [en]; exact atI_nat e2) ?_
  walk_at "F"
  refine dg_tup ?_ rfl
  refine dgs_cons ?_
  refine dg_name 7 ?_ sc.nd
  refine dgs_cons ?_
  refine dg_name 8 ?_ sc.nd
  refine dgs_nil ?_
  refine dss_cons ?_
  refine ds_if ?_
  refine dt_cmp ?_
  walk_at "v7"
  walk_at "F"
  refine de_str ?_
  walk_at "F"
  refine cd_eqs ?_
  refine ite2 (fun h1 => ?_) (fun h1 => ?_)
  · replace h1 := of_decide_eq_true h1
    refine dss_cons ?_
    refine ds_set 9 ?_ sc.nd
    refine de_callF G_has_wall (hr.mono (by decide)) ?_
    refine da_cons ?_
    walk_at "v0"
    walk_at "F"
    refine da_cons ?_
    refine de_tup ?_
    refine da_cons ?_
    walk_at "v3"
    walk_at "F"
    refine da_cons ?_
    walk_at "v4"
    walk_at "F"
    refine da_nil ?_
    refine ⟨by show 2 ≤ sizeLine; decide, ?_⟩
    walk_at "F"
    refine da_cons ?_
    walk_at "v5"
    walk_at "F"
    refine da_nil ?_
    refine ⟨(R, (a.x, a.y), a.k), trivial, rfl, ?_⟩
    rintro _ rfl
    refine dss_cons ?_
    refine ds_set 10 ?_ sc.nd
    refine de_if ?_
    refine dt_val ?_
    walk_at "v9"
    refine ⟨_, rfl, ?_⟩
    refine ite2 (fun h2 => ?_) (fun h2 => ?_)
    · replace h2 : R.wall a.x a.y a.k = true := h2
      refine de_tup ?_
      refine da_cons ?_
      walk_at "v3"
      walk_at "F"
      refine da_cons ?_
      walk_at "v4"
      walk_at "F"
      refine da_nil ?_
      refine ⟨by show 2 ≤ sizeLine; decide, ?_⟩
      refine dss_one ?_
      refine ds_ret ?_
      refine de_tup ?_
      refine da_cons ?_
      refine de_bin ?_
      walk_at "v10"
      walk_at "F"
      refine de_tup ?_
      refine da_cons ?_
      walk_at "v5"
      walk_at "F"
      refine da_cons ?_
      walk_at "v8"
      walk_at "F"
      refine da_nil ?_
      refine ⟨by show 2 ≤ sizeLine; decide, ?_⟩
      walk_at "F"
      refine bd_cat (List.cons_ne_nil _ _) (List.cons_ne_nil _ _) (by show 4 ≤ sizeLine; decide) ?_
      walk_at "F"
      refine da_cons ?_
      walk_at "v9"
      walk_at "F"
      refine da_nil ?_
      refine ⟨by show 2 ≤ sizeLine; decide, ?_⟩
      show Sl.frz _ = Sl.frz _
      have e : R.step t a = (⟨a.x, a.y, a.k, (R.entry t a).2⟩, true) := by unfold Rm.step; rw [if_pos h1, if_pos h2]
      show _ = Sl.frz (.tuple [sdD (R.step t a).1, .bool (R.step t a).2])
      rw [e]
      show Sl.frz (.tuple [_, .bool (R.wall a.x a.y a.k)]) = _
      rw [h2]
      rfl
    · replace h2 : ¬ R.wall a.x a.y a.k = true := h2
      refine de_callF G_beside (hr.mono (by decide)) ?_
      refine da_cons ?_
      refine de_tup ?_
      refine da_cons ?_
      walk_at "v3"
      walk_at "F"
      refine da_cons ?_
      walk_at "v4"
      walk_at "F"
      refine da_nil ?_
      refine ⟨by show 2 ≤ sizeLine; decide, ?_⟩
      walk_at "F"
      refine da_cons ?_
      walk_at "v5"
      walk_at "F"
      refine da_nil ?_
      refine ⟨((a.x, a.y), a.k), trivial, rfl, ?_⟩
      rintro _ rfl
      refine dss_one ?_
      refine ds_ret ?_
      refine de_tup ?_
      refine da_cons ?_
      refine de_bin ?_
      walk_at "v10"
      walk_at "F"
      refine de_tup ?_
      refine da_cons ?_
      walk_at "v5"
      walk_at "F"
      refine da_cons ?_
      walk_at "v8"
      walk_at "F"
      refine da_nil ?_
      refine ⟨by show 2 ≤ sizeLine; decide, ?_⟩
      walk_at "F"
      refine bd_cat (List.cons_ne_nil _ _) (List.cons_ne_nil _ _) (by show 4 ≤ sizeLine; decide) ?_
      walk_at "F"
      refine da_cons ?_
      walk_at "v9"
      walk_at "F"
      refine da_nil ?_
      refine ⟨by show 2 ≤ sizeLine; decide, ?_⟩
      show Sl.frz _ = Sl.frz _
      have e : R.step t a = (⟨a.x + dx a.k, a.y + dy a.k, a.k, (R.entry t a).2⟩, false) := by unfold Rm.step; rw [if_pos h1, if_neg h2]
      show _ = Sl.frz (.tuple [sdD (R.step t a).1, .bool (R.step t a).2])
      rw [e]
      show Sl.frz (.tuple [_, .bool (R.wall a.x a.y a.k)]) = _
      rw [Bool.eq_false_iff.mpr h2]
      rfl
  · replace h1 : ¬ (R.entry t a).1 = "step" := of_decide_eq_false (by simpa using h1)
    have e : R.step t a = (⟨a.x, a.y, a.k + turnOf (R.entry t a).1, (R.entry t a).2⟩, false) := by unfold Rm.step; rw [if_neg h1]
    refine dss_nil ?_
    refine dss_cons ?_
    refine ds_if ?_
    refine dt_cmp ?_
    walk_at "v7"
    walk_at "F"
    refine de_str ?_
    walk_at "F"
    refine cd_eqs ?_
    refine ite2 (fun h3 => ?_) (fun h3 => ?_)
    · replace h3 : (R.entry t a).1 = "stay" := of_decide_eq_true h3
      refine dss_one ?_
      refine ds_ret ?_
      refine de_tup ?_
      refine da_cons ?_
      refine de_tup ?_
      refine da_cons ?_
      walk_at "v3"
      walk_at "F"
      refine da_cons ?_
      walk_at "v4"
      walk_at "F"
      refine da_cons ?_
      walk_at "v5"
      walk_at "F"
      refine da_cons ?_
      walk_at "v8"
      walk_at "F"
      refine da_nil ?_
      refine ⟨by show 4 ≤ sizeLine; decide, ?_⟩
      walk_at "F"
      refine da_cons ?_
      refine de_bl ?_
      walk_at "F"
      refine da_nil ?_
      refine ⟨by show 2 ≤ sizeLine; decide, ?_⟩
      show _ = Sl.frz (.tuple [sdD (R.step t a).1, .bool (R.step t a).2])
      rw [e]
      have : turnOf (R.entry t a).1 = 0 := by rw [h3]; decide
      rw [this, add_zero4]
      rfl
    · replace h3 : ¬ (R.entry t a).1 = "stay" := of_decide_eq_false (by simpa using h3)
      refine dss_nil ?_
      refine dss_one ?_
      refine ds_ret ?_
      refine de_tup ?_
      refine da_cons ?_
      refine de_tup ?_
      refine da_cons ?_
      walk_at "v3"
      walk_at "F"
      refine da_cons ?_
      walk_at "v4"
      walk_at "F"
      refine da_cons ?_
      refine de_callF G_turned_to (hr.mono (by decide)) ?_
      refine da_cons ?_
      walk_at "v5"
      walk_at "F"
      refine da_cons ?_
      refine de_tabC C_TURNS ?_
      walk_at "v7"
      refine ⟨_, _, rfl, turns_mem e3 h1 h3, ?_⟩
      walk_at "F"
      refine da_nil ?_
      refine ⟨(a.k, turnOf (R.entry t a).1), trivial, rfl, ?_⟩
      rintro _ rfl
      walk_at "F"
      refine da_cons ?_
      walk_at "v8"
      walk_at "F"
      refine da_nil ?_
      refine ⟨by show 4 ≤ sizeLine; decide, ?_⟩
      walk_at "F"
      refine da_cons ?_
      refine de_bl ?_
      walk_at "F"
      refine da_nil ?_
      refine ⟨by show 2 ≤ sizeLine; decide, ?_⟩
      show _ = Sl.frz (.tuple [sdD (R.step t a).1, .bool (R.step t a).2])
      rw [e]
      rfl

def stD (x y : Int) (k : Fin 4) : PyData := .tuple [.int x, .int y, .str (hS k)]
abbrev n_need_both : List Str := ["room", "table"]
theorem sc_need_both : FnScope n_need_both ["room", "table"] (defScope s_need_both) := ⟨rfl, rfl, rfl, by decide +kernel, rfl, by decide +kernel, by decide +kernel⟩
abbrev p_need_both (K : PySem.W.Frag) : Sp := spF K (ι := Rm × List (List (Str × Nat))) (fun y => TabOk y.2) (fun y => [roomD y.1.rows, tabD y.2]) (fun y s => s = .frz .none)
theorem ok_need_both (T : Txt mg) (G_need_room : Has P w K mg base 3 "need_room" (p_need_room K)) (G_need_table : Has P w K mg base 4 "need_table" (p_need_table K)) (D : Df K mg "need_both" s_need_both) : Has P w K mg base 5 "need_both" (p_need_both K) := by
  have sc := sc_need_both
  refine has_F D sc (fun y _ => rfl) (fun _ _ _ _ _ _ us hl => match us, hl with | [_, _], _ => rfl) (fun f cdv A outer s H E hr y py => ?_)
  refine dss_cons ?_
  refine ds_expr ?_
  refine de_callF G_need_room (hr.mono (by decide)) ?_
  refine da_cons ?_
  walk_at "v0"
  walk_at "F"
  refine da_nil ?_
  refine ⟨_, room_isRoom y.1, rfl, ?_⟩
  rintro _ rfl
  refine dss_one ?_
  refine ds_expr ?_
  refine de_callF G_need_table (hr.mono (by decide)) ?_
  refine da_cons ?_
  walk_at "v1"
  walk_at "F"
  refine da_nil ?_
  refine ⟨_, py, rfl, ?_⟩
  rintro _ rfl
  rfl
abbrev n_need_start : List Str := ["room", "start"]
theorem sc_need_start : FnScope n_need_start ["room", "start"] (defScope s_need_start) := ⟨rfl, rfl, rfl, by decide +kernel, rfl, by decide +kernel, by decide +kernel⟩
abbrev p_need_start (K : PySem.W.Frag) : Sp := spF K (ι := Rm × Int × Int × Fin 4) (fun y => y.1.free y.2.1 y.2.2.1 = true) (fun y => [roomD y.1.rows, stD y.2.1 y.2.2.1 y.2.2.2]) (fun y s => s = .frz .none)
theorem ok_need_start (T : Txt mg) (C_HEADINGS : Con K mg "HEADINGS" (.str "nesw")) (G_is_within : Has P w K mg base 1 "is_within" (p_is_within K)) (G_is_free : Has P w K mg base 1 "is_free" (p_is_free K)) (D : Df K mg "need_start" s_need_start) : Has P w K mg base 2 "need_start" (p_need_start K) := by
  have sc := sc_need_start
  refine has_F D sc (fun y _ => rfl) (fun _ _ _ _ _ _ us hl => match us, hl with | [_, _], _ => rfl) (fun f cdv A outer s H E hr y py => ?_)
  obtain ⟨R, x, y, k⟩ := y
  replace py : R.free x y = true := py
  obtain ⟨b1, b2, b3, b4⟩ := free_bounds py
  refine dss_cons ?_
  refine ds_if ?_
  refine dt_of_dw ?_
  refine dw_orP ?_
  refine dt_not ?_
  refine dt_val ?_
  refine de_isi_tuple T ?_
  walk_at "v1"
  walk_at "F"
  refine ⟨_, rfl, ?_⟩
  walk_at "cut"
  · intro h1
    refine dw_orP ?_
    refine dt_cmp ?_
    refine de_len T ?_
    refine da_cons ?_
    walk_at "v1"
    walk_at "F"
    refine da_nil ?_
    refine cl_lenT ?_
    walk_at "F"
    refine de_int ?_
    walk_at "F"
    walk_at "ne"
    walk_at "cut"
    · intro h2
      refine dw_orP ?_
      refine dt_not ?_
      refine dt_val ?_
      refine de_isi_str T ?_
      refine de_sub ?_
      walk_at "v1"
      walk_at "F"
      refine de_int ?_
      walk_at "F"
      refine sd_tup (atI_nat (j := 2) rfl) ?_
      walk_at "F"
      refine ⟨_, rfl, ?_⟩
      walk_at "cut"
      · intro h3
        refine dw_or1 ?_
        refine dt_cmp ?_
        refine de_len T ?_
        refine da_cons ?_
        refine de_sub ?_
        walk_at "v1"
        walk_at "F"
        refine de_int ?_
        walk_at "F"
        refine sd_tup (atI_nat (j := 2) rfl) ?_
        walk_at "F"
        refine da_nil ?_
        refine cl_lenS (by show 1 ≤ sizeLine; decide) ?_
        walk_at "F"
        refine de_int ?_
        walk_at "F"
        walk_at "ne"
        exact ⟨rfl, rfl⟩
      exact ⟨rfl, rfl⟩
    exact ⟨rfl, rfl⟩
  refine ite2 (fun h4 => ?_) (fun h4 => ?_)
  · exact absurd h4 (by show ¬ false = true; decide)
  · refine dss_nil ?_
    refine dss_cons ?_
    refine ds_if ?_
    refine dt_of_dw ?_
    refine dw_orP ?_
    refine dt_not ?_
    refine dt_val ?_
    refine de_callF G_is_within (hr.mono (by decide)) ?_
    refine da_cons ?_
    refine de_sub ?_
    walk_at "v1"
    walk_at "F"
    refine de_int ?_
    walk_at "F"
    refine sd_tup (atI_zero _ _) ?_
    walk_at "F"
    refine da_cons ?_
    refine de_int ?_
    walk_at "F"
    refine da_cons ?_
    refine de_int ?_
    walk_at "F"
    refine da_nil ?_
    refine ⟨(_, _, _), trivial, rfl, ?_⟩
    rintro _ rfl
    refine ⟨_, rfl, ?_⟩
    walk_at "cut"
    · intro h5
      refine dw_orP ?_
      refine dt_not ?_
      refine dt_val ?_
      refine de_callF G_is_within (hr.mono (by decide)) ?_
      refine da_cons ?_
      refine de_sub ?_
      walk_at "v1"
      walk_at "F"
      refine de_int ?_
      walk_at "F"
      refine sd_tup (atI_nat (j := 1) rfl) ?_
      walk_at "F"
      refine da_cons ?_
      refine de_int ?_
      walk_at "F"
      refine da_cons ?_
      refine de_int ?_
      walk_at "F"
      refine da_nil ?_
      refine ⟨(_, _, _), trivial, rfl, ?_⟩
      rintro _ rfl
      refine ⟨_, rfl, ?_⟩
      walk_at "cut"
      · intro h6
        refine dw_or1 ?_
        refine dt_cmp ?_
        refine de_sub ?_
        walk_at "v1"
        walk_at "F"
        refine de_int ?_
        walk_at "F"
        refine sd_tup (atI_nat (j := 2) rfl) ?_
        walk_at "F"
        refine de_con C_HEADINGS ?_
        walk_at "F"
        refine cd_ninc (c := code k) ?_
        exact ⟨rfl, rfl⟩
      exact ⟨rfl, rfl⟩
    refine ite2 (fun h7 => ?_) (fun h7 => ?_)
    · exfalso
      revert h7
      show ¬ ((!(decide ((0 : Int) ≤ x) && decide (x ≤ 9))) || ((!(decide ((0 : Int) ≤ y) && decide (y ≤ 9))) || !decide (code k ∈ ("nesw" : Str).cps.toList))) = true
      rw [decide_eq_true b1, decide_eq_true (show x ≤ 9 by omega), decide_eq_true b3, decide_eq_true (show y ≤ 9 by omega), decide_eq_true (code_in k)]
      decide
    · refine dss_nil ?_
      refine dss_one ?_
      refine ds_if ?_
      refine dt_not ?_
      refine dt_val ?_
      refine de_callF G_is_free (hr.mono (by decide)) ?_
      refine da_cons ?_
      walk_at "v0"
      walk_at "F"
      refine da_cons ?_
      refine de_sub ?_
      walk_at "v1"
      walk_at "F"
      refine de_int ?_
      walk_at "F"
      refine sd_tup (atI_zero _ _) ?_
      walk_at "F"
      refine da_cons ?_
      refine de_sub ?_
      walk_at "v1"
      walk_at "F"
      refine de_int ?_
      walk_at "F"
      refine sd_tup (atI_nat (j := 1) rfl) ?_
      walk_at "F"
      refine da_nil ?_
      refine ⟨(R, x, y), trivial, rfl, ?_⟩
      rintro _ rfl
      refine ⟨_, rfl, ?_⟩
      show if (!R.free x y) = true then _ else _
      rw [py]
      refine iteF ?_
      refine dss_nil ?_
      rfl
abbrev n_need_ticks : List Str := ["value"]
theorem sc_need_ticks : FnScope n_need_ticks ["value"] (defScope s_need_ticks) := ⟨rfl, rfl, rfl, by decide +kernel, rfl, by decide +kernel, by decide +kernel⟩
abbrev p_need_ticks (K : PySem.W.Frag) : Sp := spF K (ι := Nat) (fun y => y ≤ 200) (fun y => [.int (y : Int)]) (fun y s => s = .frz .none)
theorem ok_need_ticks (T : Txt mg) (C_MOST_TICKS : Con K mg "MOST_TICKS" (.int 200)) (G_is_within : Has P w K mg base 1 "is_within" (p_is_within K)) (D : Df K mg "need_ticks" s_need_ticks) : Has P w K mg base 2 "need_ticks" (p_need_ticks K) := by
  have sc := sc_need_ticks
  refine has_F D sc (fun y _ => rfl) (fun _ _ _ _ _ _ us hl => match us, hl with | [_], _ => rfl) (fun f cdv A outer s H E hr y py => ?_)
  refine dss_one ?_
  refine ds_if ?_
  refine dt_not ?_
  refine dt_val ?_
  refine de_callF G_is_within (hr.mono (by decide)) ?_
  refine da_cons ?_
  walk_at "v0"
  walk_at "F"
  refine da_cons ?_
  refine de_int ?_
  walk_at "F"
  refine da_cons ?_
  refine de_con C_MOST_TICKS ?_
  walk_at "F"
  refine da_nil ?_
  refine ⟨(_, _, _), trivial, rfl, ?_⟩
  rintro _ rfl
  refine ⟨_, rfl, ?_⟩
  have e : isWithin (.int (y : Int)) 0 200 = true := by
    show (decide ((0 : Int) ≤ (y : Int)) && decide ((y : Int) ≤ 200)) = true
    rw [decide_eq_true (show (0 : Int) ≤ (y : Int) by omega), decide_eq_true (show (y : Int) ≤ 200 by omega)]
    rfl
  show if (!isWithin (.int (y : Int)) 0 200) = true then _ else _
  rw [e]
  refine iteF ?_
  refine dss_nil ?_
  rfl
abbrev n_sight : List Str := ["room", "start"]
theorem sc_sight : FnScope n_sight ["room", "start"] (defScope s_sight) := ⟨rfl, rfl, rfl, by decide +kernel, rfl, by decide +kernel, by decide +kernel⟩
abbrev p_sight (K : PySem.W.Frag) : Sp := spF K (ι := Rm × Int × Int × Fin 4) (fun y => y.1.free y.2.1 y.2.2.1 = true) (fun y => [roomD y.1.rows, stD y.2.1 y.2.2.1 y.2.2.2]) (fun y s => s = .frz (.int (y.1.sight y.2.1 y.2.2.1 y.2.2.2)))
theorem ok_sight (T : Txt mg) (G_need_room : Has P w K mg base 3 "need_room" (p_need_room K)) (G_need_start : Has P w K mg base 2 "need_start" (p_need_start K)) (G_sight_of : Has P w K mg base 3 "sight_of" (p_sight_of K)) (D : Df K mg "sight" s_sight) : Has P w K mg base 4 "sight" (p_sight K) := by
  have sc := sc_sight
  refine has_F D sc (fun y _ => rfl) (fun _ _ _ _ _ _ us hl => match us, hl with | [_, _], _ => rfl) (fun f cdv A outer s H E hr y py => ?_)
  obtain ⟨R, x, y, k⟩ := y
  refine dss_cons ?_
  refine ds_expr ?_
  refine de_callF G_need_room (hr.mono (by decide)) ?_
  refine da_cons ?_
  walk_at "v0"
  walk_at "F"
  refine da_nil ?_
  refine ⟨_, room_isRoom R, rfl, ?_⟩
  rintro _ rfl
  refine dss_cons ?_
  refine ds_expr ?_
  refine de_callF G_need_start (hr.mono (by decide)) ?_
  refine da_cons ?_
  walk_at "v0"
  walk_at "F"
  refine da_cons ?_
  walk_at "v1"
  walk_at "F"
  refine da_nil ?_
  refine ⟨(R, x, y, k), py, rfl, ?_⟩
  rintro _ rfl
  refine dss_one ?_
  refine ds_ret ?_
  refine de_callF G_sight_of (hr.mono (by decide)) ?_
  refine da_cons ?_
  walk_at "v0"
  walk_at "F"
  refine da_cons ?_
  walk_at "v1"
  walk_at "F"
  refine da_nil ?_
  refine ⟨((R, x, y, k), []), trivial, rfl, ?_⟩
  rintro _ rfl
  rfl
def Rm.path (R : Rm) (t : List (List (Str × Nat))) (a : Sd) (n : Nat) : List PyData := (List.range n).map fun j => sdD (R.run t a j)
theorem path_succ (R : Rm) (t : List (List (Str × Nat))) (a : Sd) (n : Nat) : R.path t a (n + 1) = R.path t a n ++ [sdD (R.run t a n)] := by
  unfold Rm.path
  rw [List.range_succ, List.map_append]
  rfl
theorem path_len (R : Rm) (t : List (List (Str × Nat))) (a : Sd) (n : Nat) : (R.path t a n).length = n := by unfold Rm.path; rw [List.length_map, List.length_range]
abbrev n_stands_along : List Str := ["room", "table", "start", "ticks", "found", "turn"]
theorem sc_stands_along : FnScope n_stands_along ["room", "table", "start", "ticks"] (defScope s_stands_along) := ⟨rfl, rfl, rfl, by decide +kernel, rfl, by decide +kernel, by decide +kernel⟩
abbrev Wk : Type := Rm × List (List (Str × Nat)) × (Int × Int × Fin 4) × Nat
abbrev wkArgs (y : Wk) : List PyData := [roomD y.1.rows, tabD y.2.1, stD y.2.2.1.1 y.2.2.1.2.1 y.2.2.1.2.2, .int (y.2.2.2 : Int)]
def wkPath (y : Wk) (n : Nat) : List PyData := y.1.path y.2.1 ⟨y.2.2.1.1, y.2.2.1.2.1, y.2.2.1.2.2, 0⟩ n
abbrev p_stands_along (K : PySem.W.Frag) : Sp := spF K (ι := Wk) (fun y => TabOk y.2.1 ∧ y.2.2.2 ≤ 200) wkArgs (fun y s => ∃ p, s = .own p (oLst p (wkPath y (y.2.2.2 + 1))))
theorem ok_stands_along (T : Txt mg) (G_after : Has P w K mg base 4 "after" (p_after K)) (D : Df K mg "stands_along" s_stands_along) : Has P w K mg base 5 "stands_along" (p_stands_along K) := by
  have sc := sc_stands_along
  refine has_F D sc (fun y _ => rfl) (fun _ _ _ _ _ _ us hl => match us, hl with | [_, _, _, _], _ => rfl) (fun f cdv A outer s H E hr y py => ?_)
  obtain ⟨R, t, ⟨x, y, k⟩, n⟩ := y
  obtain ⟨ht, hn⟩ := py
  replace ht : TabOk t := ht
  replace hn : n ≤ 200 := hn
  have hlo := ht.lo
  refine dss_cons ?_
  refine ds_set 4 ?_ sc.nd
  refine de_lst ?_
  refine da_cons ?_
  refine de_bin ?_
  walk_at "v2"
  walk_at "F"
  refine de_tup ?_
  refine da_cons ?_
  refine de_int ?_
  walk_at "F"
  refine da_nil ?_
  refine ⟨by show 1 ≤ sizeLine; decide, ?_⟩
  walk_at "F"
  refine bd_cat (List.cons_ne_nil _ _) (List.cons_ne_nil _ _) (by show 4 ≤ sizeLine; decide) ?_
  walk_at "F"
  refine da_nil ?_
  refine ⟨by show 1 ≤ sizeLine; decide, ?_⟩
  intro q
  refine dss_cons ?_
  refine ds_forM (α := Nat) (vs := [5]) ?_
  refine di_range1 ?_ T.range
  walk_at "v3"
  walk_at "F"
  refine ⟨_, rfl, by show -(2 ^ 62) ≤ (n : Int); omega, by show (n : Int) < 2 ^ 62; omega, ?_⟩
  refine ⟨List.range n, fun i => .int (0 + (i : Int)), fun i ρ => ∃ o, ρ = [some (.frz (roomD R.rows)), some (.frz (tabD t)), some (.frz (stD x y k)), some (.frz (.int (n : Int))), some (.own q (oLst q (R.path t ⟨x, y, k, 0⟩ (i + 1)))), o], rfl, ⟨_, rfl⟩, ?_, ?_⟩
  · rintro i z ρ2 hd ⟨o, rfl⟩
    have ik : i < n := by have := (List.getElem?_eq_some_iff.mp hd).1; rwa [List.length_range] at this
    refine dg_name 5 ?_ sc.nd
    refine dss_one ?_
    refine ds_append 4 ?_ ⟨_, _, rfl⟩
    refine de_sub ?_
    refine de_callF G_after (hr.mono (by decide)) ?_
    refine da_cons ?_
    walk_at "v0"
    walk_at "F"
    refine da_cons ?_
    walk_at "v1"
    walk_at "F"
    refine da_cons ?_
    refine de_subO 4 ?_ ⟨_, _, rfl⟩
    refine de_neg ?_
    refine de_int ?_
    refine ⟨_, rfl, ?_⟩
    refine ⟨_, _, _, _, rfl, rfl, by rw [path_succ]; exact at_last _ _, ?_⟩
    walk_at "F"
    refine da_nil ?_
    refine ⟨(R, t, R.run t ⟨x, y, k, 0⟩ i), ⟨ht, run_s (a := ⟨x, y, k, 0⟩) ht (show 0 < t.length from hlo) i⟩, rfl, ?_⟩
    rintro _ rfl
    walk_at "F"
    refine de_int ?_
    walk_at "F"
    refine sd_tup (atI_zero _ _) ?_
    walk_at "F"
    refine ⟨_, _, rfl, by rw [path_len]; exact Nat.lt_of_le_of_lt (m := 201) (by omega) (by decide), ?_⟩
    refine ⟨some (.frz (.int (0 + (z : Int)))), ?_⟩
    rw [path_succ R t _ (i + 1)]
    rfl
  rintro ρ2 ⟨o, rfl⟩
  rw [List.length_range]
  refine dss_one ?_
  refine ds_ret ?_
  refine de_give 4 ?_
  exact ⟨q, rfl⟩
abbrev n_walk : List Str := ["room", "table", "start", "ticks"]
theorem sc_walk : FnScope n_walk ["room", "table", "start", "ticks"] (defScope s_walk) := ⟨rfl, rfl, rfl, by decide +kernel, rfl, by decide +kernel, by decide +kernel⟩
abbrev wkPre (y : Wk) : Prop := (TabOk y.2.1 ∧ y.2.2.2 ≤ 200) ∧ y.1.free y.2.2.1.1 y.2.2.1.2.1 = true
abbrev p_walk (K : PySem.W.Frag) : Sp := spF K (ι := Wk) wkPre wkArgs (fun y s => ∃ p, s = .own p (oLst p (wkPath y (y.2.2.2 + 1))))
theorem ok_walk (T : Txt mg) (G_need_both : Has P w K mg base 5 "need_both" (p_need_both K)) (G_need_start : Has P w K mg base 2 "need_start" (p_need_start K)) (G_need_ticks : Has P w K mg base 2 "need_ticks" (p_need_ticks K)) (G_stands_along : Has P w K mg base 5 "stands_along" (p_stands_along K)) (D : Df K mg "walk" s_walk) : Has P w K mg base 6 "walk" (p_walk K) := by
  have sc := sc_walk
  refine has_F D sc (fun y _ => rfl) (fun _ _ _ _ _ _ us hl => match us, hl with | [_, _, _, _], _ => rfl) (fun f cdv A outer s H E hr y py => ?_)
  obtain ⟨⟨ht, hn⟩, hf⟩ := py
  refine dss_cons ?_
  refine ds_expr ?_
  refine de_callF G_need_both (hr.mono (by decide)) ?_
  refine da_cons ?_
  walk_at "v0"
  walk_at "F"
  refine da_cons ?_
  walk_at "v1"
  walk_at "F"
  refine da_nil ?_
  refine ⟨(_, _), ht, rfl, ?_⟩
  rintro _ rfl
  refine dss_cons ?_
  refine ds_expr ?_
  refine de_callF G_need_start (hr.mono (by decide)) ?_
  refine da_cons ?_
  walk_at "v0"
  walk_at "F"
  refine da_cons ?_
  walk_at "v2"
  walk_at "F"
  refine da_nil ?_
  refine ⟨(y.1, y.2.2.1.1, y.2.2.1.2.1, y.2.2.1.2.2), hf, rfl, ?_⟩
  rintro _ rfl
  refine dss_cons ?_
  refine ds_expr ?_
  refine de_callF G_need_ticks (hr.mono (by decide)) ?_
  refine da_cons ?_
  walk_at "v3"
  walk_at "F"
  refine da_nil ?_
  refine ⟨_, hn, rfl, ?_⟩
  rintro _ rfl
  refine dss_one ?_
  refine ds_ret ?_
  refine de_callF G_stands_along (hr.mono (by decide)) ?_
  refine da_cons ?_
  walk_at "v0"
  walk_at "F"
  refine da_cons ?_
  walk_at "v1"
  walk_at "F"
  refine da_cons ?_
  walk_at "v2"
  walk_at "F"
  refine da_cons ?_
  walk_at "v3"
  walk_at "F"
  refine da_nil ?_
  refine ⟨y, ⟨ht, hn⟩, rfl, ?_⟩
  rintro _ ⟨p, rfl⟩
  exact ⟨p, rfl⟩
abbrev n_sights : List Str := ["room", "table", "start", "ticks", "stand"]
theorem sc_sights : FnScope n_sights ["room", "table", "start", "ticks"] (defScope s_sights) := ⟨rfl, rfl, rfl, by decide +kernel, rfl, by decide +kernel, by decide +kernel⟩
def Rm.seen (R : Rm) (t : List (List (Str × Nat))) (a : Sd) (n : Nat) : List PyData := (List.range n).map fun j => PyData.int (R.sight (R.run t a j).x (R.run t a j).y (R.run t a j).k)
def wkSeen (y : Wk) (n : Nat) : List PyData := y.1.seen y.2.1 ⟨y.2.2.1.1, y.2.2.1.2.1, y.2.2.1.2.2, 0⟩ n
abbrev p_sights (K : PySem.W.Frag) : Sp := spF K (ι := Wk) wkPre wkArgs (fun y s => ∃ p, s = .own p (oLst p (wkSeen y y.2.2.2)))
theorem ok_sights (T : Txt mg) (G_walk : Has P w K mg base 6 "walk" (p_walk K)) (G_sight_of : Has P w K mg base 3 "sight_of" (p_sight_of K)) (D : Df K mg "sights" s_sights) : Has P w K mg base 7 "sights" (p_sights K) := by
  have sc := sc_sights
  refine has_F D sc (fun y _ => rfl) (fun _ _ _ _ _ _ us hl => match us, hl with | [_, _, _, _], _ => rfl) (fun f cdv A outer s H E hr y py => ?_)
  refine dss_one ?_
  refine ds_ret ?_
  refine de_lc [("stand", 4)] ?_ sc.nd (blkOk_by (N := n_sights) (sc := defScope s_sights) (by decide +kernel))
  refine di_list ?_
  refine de_slice ?_
  refine de_callF G_walk (hr.mono (by decide)) ?_
  refine da_cons ?_
  walk_at "v0"
  walk_at "F"
  refine da_cons ?_
  walk_at "v1"
  walk_at "F"
  refine da_cons ?_
  walk_at "v2"
  walk_at "F"
  refine da_cons ?_
  walk_at "v3"
  walk_at "F"
  refine da_nil ?_
  refine ⟨y, py, rfl, ?_⟩
  rintro _ ⟨p, rfl⟩
  walk_at "F"
  refine do_none ?_
  refine do_some ?_
  refine de_neg ?_
  refine de_int ?_
  refine ⟨_, rfl, ?_⟩
  refine ⟨_, rfl, ?_⟩
  refine ld_list ?_
  intro q
  walk_at "F"
  refine ⟨_, rfl, ?_⟩
  have e : cutG (wkPath y (y.2.2.2 + 1)) none (some (-1)) = (List.range y.2.2.2).map fun j => sdD (y.1.run y.2.1 ⟨y.2.2.1.1, y.2.2.1.2.1, y.2.2.1.2.2, 0⟩ j) := by
    unfold wkPath
    rw [path_succ, cut_last]
    rfl
  refine lc_map (xs := List.range y.2.2.2) (f := fun j => sdD (y.1.run y.2.1 ⟨y.2.2.1.1, y.2.2.1.2.1, y.2.2.1.2.2, 0⟩ j)) (fun j => PyData.int (y.1.sight (y.1.run y.2.1 ⟨y.2.2.1.1, y.2.2.1.2.1, y.2.2.1.2.2, 0⟩ j).x (y.1.run y.2.1 ⟨y.2.2.1.1, y.2.2.1.2.1, y.2.2.1.2.2, 0⟩ j).y (y.1.run y.2.1 ⟨y.2.2.1.1, y.2.2.1.2.1, y.2.2.1.2.2, 0⟩ j).k)) e (by rw [List.length_range]; exact Nat.lt_of_le_of_lt (m := 200) py.1.2 (by decide)) ?_ ?_
  · intro i x hx s H C cl fp
    refine dg_name 4 ?_ sc.nd
    intro s H C cl fp
    refine dts_nil ?_
    refine ⟨rfl, ?_⟩
    intro s H C cl fp
    refine de_callF G_sight_of (hr.mono (by decide)) ?_
    refine da_cons ?_
    walk_at "v0"
    walk_at "F"
    refine da_cons ?_
    walk_at "v4"
    walk_at "F"
    refine da_nil ?_
    refine ⟨((y.1, _, _, _), [_]), trivial, rfl, ?_⟩
    rintro _ rfl
    walk_at "F"
    exact ⟨rfl, rfl⟩
  exact fun p => ⟨p, rfl⟩

theorem rngD_zero (n : Nat) : rngD 0 n = (List.range n).map fun (i : Nat) => PyData.int (i : Int) := by
  unfold rngD
  refine List.map_congr_left fun i _ => ?_
  rw [Int.zero_add]
theorem free_at {R : Rm} {x y : Nat} (hx : x < R.w) (hy : y < R.rows.length) : R.free (x : Int) (y : Int) = decide (R.spot x y = 46) := by
  unfold Rm.free
  rw [decide_eq_true (show (0 : Int) ≤ (y : Int) by omega), decide_eq_true (show (y : Int) < (R.rows.length : Int) by omega), decide_eq_true (show (0 : Int) ≤ (x : Int) by omega), decide_eq_true (show (x : Int) < (R.w : Int) by omega)]
  rfl
theorem free_some (R : Rm) : ∃ x y : Nat, x < R.w ∧ y < R.rows.length ∧ R.spot x y = 46 := by
  obtain ⟨r, hr, h⟩ := R.ok.free
  obtain ⟨y, hy, e⟩ := List.mem_iff_getElem.mp hr
  obtain ⟨x, hx, e2⟩ := List.mem_iff_getElem.mp h
  have hw := (R.ok.row r hr).1
  refine ⟨x, y, by rw [← hw, len_l]; exact hx, hy, ?_⟩
  unfold Rm.spot
  show ((R.rows.getD y "").cps.toList).getD x 0 = 46
  rw [List.getD_eq_getElem?_getD, List.getD_eq_getElem?_getD, List.getElem?_eq_getElem hy, e]
  show (r.cps.toList[x]?).getD 0 = 46
  rw [List.getElem?_eq_getElem hx, e2]
  rfl
def cellD (c : Nat × Nat) : PyData := .tuple [.int (c.1 : Int), .int (c.2 : Int)]
def startD (c : (Nat × Nat) × Fin 4) : PyData := stD (c.1.1 : Int) (c.1.2 : Int) c.2
abbrev n_law_is_open : List Str := ["_law_room_here", "_law_x", "_law_y"]
theorem sc_law_is_open : FnScope n_law_is_open ["_law_room_here", "_law_x", "_law_y"] (defScope s_law_is_open) := ⟨rfl, rfl, rfl, by decide +kernel, rfl, by decide +kernel, by decide +kernel⟩
theorem ok_law_is_open (T : Txt mg) (D : Df K mg "_law_is_open" s_law_is_open) : Has P w K mg base 1 "_law_is_open" (p_is_free K) := by
  have sc := sc_law_is_open
  refine has_F D sc (fun y _ => rfl) (fun _ _ _ _ _ _ us hl => match us, hl with | [_, _, _], _ => rfl) (fun f cdv A outer s H E hr y py => ?_)
  obtain ⟨R, x, y⟩ := y
  obtain ⟨r0, z1, z2, z3⟩ := R.zero
  refine dss_one ?_
  refine ds_ret ?_
  refine de_andP ?_
  refine de_chainP ?_
  refine de_int ?_
  walk_at "F"
  walk_at "v1"
  walk_at "F"
  refine cd_le ?_
  walk_at "cut"
  · intro h1
    refine de_len T ?_
    refine da_cons ?_
    refine de_sub ?_
    walk_at "v0"
    walk_at "F"
    refine de_int ?_
    walk_at "F"
    refine sd_tup z1 ?_
    walk_at "F"
    refine da_nil ?_
    refine cl_lenS z3 ?_
    walk_at "F"
    refine cd_lt ?_
    exact ⟨rfl, rfl⟩
  refine ⟨_, rfl, ?_⟩
  walk_at "cut"
  · intro h2
    refine de_andP ?_
    refine de_chainP ?_
    refine de_int ?_
    walk_at "F"
    walk_at "v2"
    walk_at "F"
    refine cd_le ?_
    walk_at "cut"
    · intro h3
      refine de_len T ?_
      refine da_cons ?_
      walk_at "v0"
      walk_at "F"
      refine da_nil ?_
      refine cl_lenT ?_
      walk_at "F"
      refine cd_lt ?_
      exact ⟨rfl, rfl⟩
    refine ⟨_, rfl, ?_⟩
    walk_at "cut"
    · intro h4
      rw [Bool.and_eq_true] at h2 h4
      have y0 := of_decide_eq_true h4.1
      have y1 := of_decide_eq_true h4.2
      have x0 := of_decide_eq_true h2.1
      have x1 := of_decide_eq_true h2.2
      rw [List.length_map] at y1
      rw [z2] at x1
      obtain ⟨row, e1, e2, e3, e4⟩ := R.row y0 y1
      refine de_one ?_
      refine de_cmp ?_
      refine de_sub ?_
      refine de_sub ?_
      walk_at "v0"
      walk_at "F"
      walk_at "v2"
      walk_at "F"
      refine sd_tup e1 ?_
      walk_at "F"
      walk_at "v1"
      walk_at "F"
      refine sd_str e3 (e4 x x0 x1) ?_
      walk_at "F"
      refine de_str ?_
      walk_at "F"
      refine cd_eqs ?_
      exact ⟨rfl, rfl⟩
    exact ⟨rfl, rfl⟩
  show Sl.frz _ = Sl.frz _
  rw [chr_dot, z2, List.length_map]
  show _ = Sl.frz (.bool (R.free x y))
  unfold Rm.free
  congr 2
  cases decide ((0 : Int) ≤ y) <;> cases decide (y < (R.rows.length : Int)) <;> cases decide ((0 : Int) ≤ x) <;> cases decide (x < (R.w : Int)) <;> rfl
abbrev n_law_all_free : List Str := ["_law_room_here", "_law_found", "_law_x", "_law_y"]
theorem sc_law_all_free : FnScope n_law_all_free ["_law_room_here"] (defScope s_law_all_free) := ⟨rfl, rfl, rfl, by decide +kernel, rfl, by decide +kernel, by decide +kernel⟩
abbrev p_law_all_free (K : PySem.W.Frag) : Sp := spF K (ι := Rm) (fun _ => True) (fun y => [roomD y.rows]) (fun y s => ∃ p L, s = .own p (oLst p (L.map cellD)) ∧ L ≠ [] ∧ L.length ≤ 30 ∧ ∀ c ∈ L, y.free (c.1 : Int) (c.2 : Int) = true)
theorem ok_law_all_free (T : Txt mg) (D : Df K mg "_law_all_free" s_law_all_free) : Has P w K mg base 1 "_law_all_free" (p_law_all_free K) := by
  have sc := sc_law_all_free
  refine has_F D sc (fun y _ => rfl) (fun _ _ _ _ _ _ us hl => match us, hl with | [_], _ => rfl) (fun f cdv A outer s H E hr R py => ?_)
  obtain ⟨r0, z1, z2, z3⟩ := R.zero
  have hw2 := R.ok.w2
  have hh2 := R.ok.h2
  refine dss_cons ?_
  refine ds_set 1 ?_ sc.nd
  refine de_lst ?_
  refine da_nil ?_
  refine ⟨by show 0 ≤ sizeLine; decide, ?_⟩
  intro q
  refine dss_cons ?_
  refine ds_forM (α := Nat) (vs := [2]) ?_
  refine di_range1 ?_ T.range
  refine de_len T ?_
  refine da_cons ?_
  refine de_sub ?_
  walk_at "v0"
  walk_at "F"
  refine de_int ?_
  walk_at "F"
  refine sd_tup z1 ?_
  walk_at "F"
  refine da_nil ?_
  refine cl_lenS z3 ?_
  rw [z2]
  walk_at "F"
  refine ⟨_, rfl, by omega, by omega, ?_⟩
  refine ⟨List.range R.w, fun i => .int (i : Int), fun i ρ => ∃ (q : Addr) (L : List (Nat × Nat)) (o2 : Option Sl), (∀ c ∈ L, R.free (c.1 : Int) (c.2 : Int) = true) ∧ (∀ x y : Nat, x < i → x < R.w → y < R.rows.length → R.spot x y = 46 → (x, y) ∈ L) ∧ L.length ≤ 5 * i ∧ ρ = [some (.frz (roomD R.rows)), some (.own q (oLst q (L.map cellD))), o2, none], rngD_zero _, ⟨q, [], none, by simp, fun x y h => by omega, Nat.le_refl _, rfl⟩, ?_, ?_⟩
  · rintro i x ρ2 hd ⟨q, L, o2, hf, hc, hl, rfl⟩
    have iw : i < R.w := by have := (List.getElem?_eq_some_iff.mp hd).1; rwa [List.length_range] at this
    have xi : x = i := by have := (List.getElem?_eq_some_iff.mp hd).2; rw [List.getElem_range] at this; exact this.symm
    subst xi
    refine dg_name 2 ?_ sc.nd
    refine dss_one ?_
    refine ds_set 1 ?_ sc.nd
    refine de_bin ?_
    walk_at "v1"
    walk_at "F"
    refine de_lc [("_law_y", 3)] ?_ sc.nd (blkOk_by (N := n_law_all_free) (sc := defScope s_law_all_free) (by decide +kernel))
    refine di_range1 ?_ T.range
    refine de_len T ?_
    refine da_cons ?_
    walk_at "v0"
    walk_at "F"
    refine da_nil ?_
    refine cl_lenT ?_
    rw [List.length_map]
    walk_at "F"
    refine ⟨_, rfl, by omega, by omega, ?_⟩
    refine lc_filter (xs := List.range R.rows.length) (f := fun (y : Nat) => .int (y : Int)) (fun (y : Nat) => decide (R.spot x y = 46)) (fun (y : Nat) => cellD (x, y)) (rngD_zero _) (by rw [List.length_range]; exact Nat.lt_of_le_of_lt (m := 5) (by omega) (by decide)) ?_ ?_
    · intro j y hx s H C cl fp
      have jh : j < R.rows.length := by have := (List.getElem?_eq_some_iff.mp hx).1; rwa [List.length_range] at this
      have yj : y = j := by have := (List.getElem?_eq_some_iff.mp hx).2; rw [List.getElem_range] at this; exact this.symm
      subst yj
      obtain ⟨row, e1, e2, e3, e4⟩ := R.row (y := (y : Int)) (by omega) (by omega)
      refine dg_name 3 ?_ sc.nd
      intro s H C cl fp
      refine dts_one ?_
      refine dt_cmp ?_
      refine de_sub ?_
      refine de_sub ?_
      walk_at "v0"
      walk_at "F"
      walk_at "v3"
      walk_at "F"
      refine sd_tup e1 ?_
      walk_at "F"
      walk_at "v2"
      walk_at "F"
      refine sd_str e3 (e4 (x : Int) (by omega) (by omega)) ?_
      walk_at "F"
      refine de_str ?_
      walk_at "F"
      refine cd_eqs ?_
      refine ⟨chr_dot _, fun _ => rfl, fun _ => ?_⟩
      intro s H C cl fp
      refine de_tup ?_
      refine da_cons ?_
      walk_at "v2"
      walk_at "F"
      refine da_cons ?_
      walk_at "v3"
      walk_at "F"
      refine da_nil ?_
      refine ⟨by show 2 ≤ sizeLine; decide, ?_⟩
      walk_at "F"
      exact ⟨rfl, rfl⟩
    intro q2
    walk_at "F"
    have hfl : ((List.range R.rows.length).filter fun (y : Nat) => decide (R.spot x y = 46)).length ≤ 5 := Nat.le_trans (List.length_filter_le _ _) (by rw [List.length_range]; exact hh2)
    refine bd_catL (by rw [List.length_map, List.length_map]; exact Nat.le_trans (m := 40) (by omega) (by decide)) ?_
    intro q3
    refine ⟨q3, L ++ ((List.range R.rows.length).filter fun (y : Nat) => decide (R.spot x y = 46)).map (fun (y : Nat) => (x, y)), some (.frz (.int (x : Int))), fun c hcm => ?_, fun x2 y2 h1 h2 h3 h4 => ?_, ?_, ?_⟩
    · rcases List.mem_append.mp hcm with hcm | hcm
      · exact hf c hcm
      · obtain ⟨y, hy, rfl⟩ := List.mem_map.mp hcm
        obtain ⟨hy1, hy2⟩ := List.mem_filter.mp hy
        rw [free_at iw (List.mem_range.mp hy1)]
        exact hy2
    · by_cases e : x2 = x
      · subst e
        exact List.mem_append_right _ (List.mem_map.mpr ⟨y2, List.mem_filter.mpr ⟨List.mem_range.mpr h3, decide_eq_true h4⟩, rfl⟩)
      · exact List.mem_append_left _ (hc x2 y2 (by omega) h2 h3 h4)
    · rw [List.length_append, List.length_map]
      omega
    · rw [List.map_append, List.map_map]
      rfl
  rintro ρ2 ⟨q, L, o2, hf, hc, hl, rfl⟩
  rw [List.length_range] at hl hc
  refine dss_one ?_
  refine ds_ret ?_
  refine de_give 1 ?_
  obtain ⟨x, y, h1, h2, h3⟩ := free_some R
  have hm := hc x y h1 h1 h2 h3
  exact ⟨q, L, rfl, (fun z => by rw [z] at hm; exact (List.not_mem_nil hm)), by omega, hf⟩
abbrev n_law_all_starts : List Str := ["_law_room_here", "_law_found", "_law_x", "_law_y", "_law_heading"]
theorem sc_law_all_starts : FnScope n_law_all_starts ["_law_room_here"] (defScope s_law_all_starts) := ⟨rfl, rfl, rfl, by decide +kernel, rfl, by decide +kernel, by decide +kernel⟩
abbrev p_law_all_starts (K : PySem.W.Frag) : Sp := spF K (ι := Rm) (fun _ => True) (fun y => [roomD y.rows]) (fun y s => ∃ p L, s = .own p (oLst p (L.map startD)) ∧ L ≠ [] ∧ L.length ≤ 120 ∧ ∀ c ∈ L, y.free (c.1.1 : Int) (c.1.2 : Int) = true)
theorem ok_law_all_starts (T : Txt mg) (G_law_all_free : Has P w K mg base 1 "_law_all_free" (p_law_all_free K)) (D : Df K mg "_law_all_starts" s_law_all_starts) : Has P w K mg base 2 "_law_all_starts" (p_law_all_starts K) := by
  have sc := sc_law_all_starts
  refine has_F D sc (fun y _ => rfl) (fun _ _ _ _ _ _ us hl => match us, hl with | [_], _ => rfl) (fun f cdv A outer s H E hr R py => ?_)
  refine dss_cons ?_
  refine ds_set 1 ?_ sc.nd
  refine de_lst ?_
  refine da_nil ?_
  refine ⟨by show 0 ≤ sizeLine; decide, ?_⟩
  intro q
  refine dss_cons ?_
  refine ds_forM (α := Nat × Nat) (vs := [2, 3]) ?_
  refine di_list ?_
  refine de_callF G_law_all_free (hr.mono (by decide)) ?_
  refine da_cons ?_
  walk_at "v0"
  walk_at "F"
  refine da_nil ?_
  refine ⟨R, trivial, rfl, ?_⟩
  rintro _ ⟨p, L, rfl, hne, hlen, hfree⟩
  walk_at "F"
  refine ⟨_, rfl, ?_⟩
  refine ⟨L, cellD, fun i ρ => ∃ (q : Addr) (M : List ((Nat × Nat) × Fin 4)) (o2 o3 : Option Sl), (∀ c ∈ M, R.free (c.1.1 : Int) (c.1.2 : Int) = true) ∧ M.length = 4 * i ∧ ρ = [some (.frz (roomD R.rows)), some (.own q (oLst q (M.map startD))), o2, o3, none], rfl, ⟨q, [], none, none, by simp, rfl, rfl⟩, ?_, ?_⟩
  · rintro i ⟨x, y⟩ ρ2 hd ⟨q, M, o2, o3, hf, hl, rfl⟩
    have il : i < L.length := (List.getElem?_eq_some_iff.mp hd).1
    refine dg_tup ?_ rfl
    refine dgs_cons ?_
    refine dg_name 2 ?_ sc.nd
    refine dgs_cons ?_
    refine dg_name 3 ?_ sc.nd
    refine dgs_nil ?_
    refine dss_one ?_
    refine ds_set 1 ?_ sc.nd
    refine de_bin ?_
    walk_at "v1"
    walk_at "F"
    refine de_lc [("_law_heading", 4)] ?_ sc.nd (blkOk_by (N := n_law_all_starts) (sc := defScope s_law_all_starts) (by decide +kernel))
    refine di_str ?_
    refine de_str ?_
    walk_at "F"
    refine ⟨_, rfl, ?_⟩
    refine lc_map (xs := ([1, 0, 2, 3] : List (Fin 4))) (f := fun k => .str (hS k)) (fun k => startD ((x, y), k)) rfl (by decide) ?_ ?_
    · intro i k hx s H C cl fp
      refine dg_name 4 ?_ sc.nd
      intro s H C cl fp
      refine dts_nil ?_
      refine ⟨rfl, ?_⟩
      intro s H C cl fp
      refine de_tup ?_
      refine da_cons ?_
      walk_at "v2"
      walk_at "F"
      refine da_cons ?_
      walk_at "v3"
      walk_at "F"
      refine da_cons ?_
      walk_at "v4"
      walk_at "F"
      refine da_nil ?_
      refine ⟨by show 3 ≤ sizeLine; decide, ?_⟩
      walk_at "F"
      exact ⟨rfl, rfl⟩
    intro q2
    walk_at "F"
    refine bd_catL (by rw [List.length_map, List.length_map, hl]; exact Nat.le_trans (m := 200) (by show 4 * i + 4 ≤ 200; omega) (by decide)) ?_
    intro q3
    refine ⟨q3, M ++ ([1, 0, 2, 3] : List (Fin 4)).map fun k => ((x, y), k), some (.frz (.int (x : Int))), some (.frz (.int (y : Int))), fun c hcm => ?_, ?_, ?_⟩
    · rcases List.mem_append.mp hcm with hcm | hcm
      · exact hf c hcm
      · obtain ⟨k, hk, rfl⟩ := List.mem_map.mp hcm
        exact hfree _ (List.mem_of_getElem? hd)
    · rw [List.length_append, hl]
      rfl
    · rw [List.map_append, List.map_map]
      rfl
  rintro ρ2 ⟨q, M, o2, o3, hf, hl, rfl⟩
  refine dss_one ?_
  refine ds_ret ?_
  refine de_give 1 ?_
  have l0 : 0 < L.length := List.length_pos_iff.mpr hne
  exact ⟨q, M, rfl, (fun z => by rw [z, List.length_nil] at hl; omega), by omega, hf⟩
theorem hS_e : ∀ k : Fin 4, decide (hS k = "e") = decide (k = 1) := by decide +kernel
theorem hS_w : ∀ k : Fin 4, decide (hS k = "w") = decide (k = 3) := by decide +kernel
theorem hS_s : ∀ k : Fin 4, decide (hS k = "s") = decide (k = 2) := by decide +kernel
theorem hS_n : ∀ k : Fin 4, decide (hS k = "n") = decide (k = 0) := by decide +kernel
theorem next_x (x : Int) : ∀ k : Fin 4, x + (if decide (k = 1) = true then (1 : Int) else 0) - (if decide (k = 3) = true then (1 : Int) else 0) = x + dx k
  | 0 => by show x + 0 - 0 = x + 0; omega
  | 1 => by show x + 1 - 0 = x + 1; omega
  | 2 => by show x + 0 - 0 = x + 0; omega
  | 3 => by show x + 0 - 1 = x + -1; omega
theorem next_y (x : Int) : ∀ k : Fin 4, x + (if decide (k = 2) = true then (1 : Int) else 0) - (if decide (k = 0) = true then (1 : Int) else 0) = x + dy k
  | 0 => by show x + 0 - 1 = x + -1; omega
  | 1 => by show x + 0 - 0 = x + 0; omega
  | 2 => by show x + 1 - 0 = x + 1; omega
  | 3 => by show x + 0 - 0 = x + 0; omega
abbrev n_law_next_cell : List Str := ["_law_x", "_law_y", "_law_heading"]
theorem sc_law_next_cell : FnScope n_law_next_cell ["_law_x", "_law_y", "_law_heading"] (defScope s_law_next_cell) := ⟨rfl, rfl, rfl, by decide +kernel, rfl, by decide +kernel, by decide +kernel⟩
abbrev p_law_next_cell (K : PySem.W.Frag) : Sp := spF K (ι := Int × Int × Fin 4) (fun _ => True) (fun y => [.int y.1, .int y.2.1, .str (hS y.2.2)]) (fun y s => s = .frz (.tuple [.int (y.1 + dx y.2.2), .int (y.2.1 + dy y.2.2)]))
theorem ok_law_next_cell (T : Txt mg) (D : Df K mg "_law_next_cell" s_law_next_cell) : Has P w K mg base 1 "_law_next_cell" (p_law_next_cell K) := by
  have sc := sc_law_next_cell
  refine has_F D sc (fun y _ => rfl) (fun _ _ _ _ _ _ us hl => match us, hl with | [_, _, _], _ => rfl) (fun f cdv A outer s H E hr y py => ?_)
  obtain ⟨x, y, k⟩ := y
  refine dss_cons ?_
  refine ds_set 0 ?_ sc.nd
  refine de_bin ?_
  refine de_bin ?_
  walk_at "v0"
  walk_at "F"
  refine de_toint T ?_
  refine da_cons ?_
  refine de_cmp ?_
  walk_at "v2"
  walk_at "F"
  refine de_str ?_
  walk_at "F"
  refine cd_eqs ?_
  rw [hS_e]
  walk_at "F"
  refine da_nil ?_
  refine cl_intb ?_
  walk_at "F"
  walk_at "add"
  walk_at "F"
  refine de_toint T ?_
  refine da_cons ?_
  refine de_cmp ?_
  walk_at "v2"
  walk_at "F"
  refine de_str ?_
  walk_at "F"
  refine cd_eqs ?_
  rw [hS_w]
  walk_at "F"
  refine da_nil ?_
  refine cl_intb ?_
  walk_at "F"
  refine bd_sub ?_
  rw [next_x]
  refine dss_one ?_
  refine ds_ret ?_
  refine de_tup ?_
  refine da_cons ?_
  walk_at "v0"
  walk_at "F"
  refine da_cons ?_
  refine de_bin ?_
  refine de_bin ?_
  walk_at "v1"
  walk_at "F"
  refine de_toint T ?_
  refine da_cons ?_
  refine de_cmp ?_
  walk_at "v2"
  walk_at "F"
  refine de_str ?_
  walk_at "F"
  refine cd_eqs ?_
  rw [hS_s]
  walk_at "F"
  refine da_nil ?_
  refine cl_intb ?_
  walk_at "F"
  walk_at "add"
  walk_at "F"
  refine de_toint T ?_
  refine da_cons ?_
  refine de_cmp ?_
  walk_at "v2"
  walk_at "F"
  refine de_str ?_
  walk_at "F"
  refine cd_eqs ?_
  rw [hS_n]
  walk_at "F"
  refine da_nil ?_
  refine cl_intb ?_
  walk_at "F"
  refine bd_sub ?_
  rw [next_y]
  walk_at "F"
  refine da_nil ?_
  refine ⟨by show 2 ≤ sizeLine; decide, ?_⟩
  rfl
abbrev n_law_to : List Str := ["_law_heading", "_law_quarters"]
theorem sc_law_to : FnScope n_law_to ["_law_heading", "_law_quarters"] (defScope s_law_to) := ⟨rfl, rfl, rfl, by decide +kernel, rfl, by decide +kernel, by decide +kernel⟩
theorem ok_law_to (T : Txt mg) (D : Df K mg "_law_to" s_law_to) : Has P w K mg base 1 "_law_to" (p_turned_to K) := by
  have sc := sc_law_to
  refine has_F D sc (fun y _ => rfl) (fun _ _ _ _ _ _ us hl => match us, hl with | [_, _], _ => rfl) (fun f cdv A outer s H E hr y py => ?_)
  obtain ⟨k, q⟩ := y
  refine dss_one ?_
  refine ds_ret ?_
  refine de_sub ?_
  refine de_str ?_
  walk_at "F"
  refine de_bin ?_
  refine de_bin ?_
  refine de_m1 PySem.F.slot_str_index PySem.F.type_str_index ?_
  refine de_str ?_
  refine ⟨_, rfl, ?_⟩
  walk_at "v0"
  walk_at "F"
  refine ml_index (occ_nesw k) ?_
  walk_at "F"
  walk_at "v1"
  walk_at "F"
  walk_at "add"
  walk_at "F"
  refine de_int ?_
  walk_at "F"
  refine bd_mod (by decide) ?_
  walk_at "F"
  refine sd_str (by decide) (at_nesw k q) ?_
  rfl
abbrev n_law_barred : List Str := ["_law_room_here", "_law_x", "_law_y", "_law_heading", "_law_there"]
theorem sc_law_barred : FnScope n_law_barred ["_law_room_here", "_law_x", "_law_y", "_law_heading"] (defScope s_law_barred) := ⟨rfl, rfl, rfl, by decide +kernel, rfl, by decide +kernel, by decide +kernel⟩
abbrev p_law_barred (K : PySem.W.Frag) : Sp := spF K (ι := Rm × Int × Int × Fin 4) (fun _ => True) (fun y => [roomD y.1.rows, .int y.2.1, .int y.2.2.1, .str (hS y.2.2.2)]) (fun y s => s = .frz (.int (bI (y.1.wall y.2.1 y.2.2.1 y.2.2.2))))
theorem ok_law_barred (T : Txt mg) (G_law_next_cell : Has P w K mg base 1 "_law_next_cell" (p_law_next_cell K)) (G_law_is_open : Has P w K mg base 1 "_law_is_open" (p_is_free K)) (D : Df K mg "_law_barred" s_law_barred) : Has P w K mg base 2 "_law_barred" (p_law_barred K) := by
  have sc := sc_law_barred
  refine has_F D sc (fun y _ => rfl) (fun _ _ _ _ _ _ us hl => match us, hl with | [_, _, _, _], _ => rfl) (fun f cdv A outer s H E hr y py => ?_)
  obtain ⟨R, x, y, k⟩ := y
  refine dss_cons ?_
  refine ds_set 4 ?_ sc.nd
  refine de_callF G_law_next_cell (hr.mono (by decide)) ?_
  refine da_cons ?_
  walk_at "v1"
  walk_at "F"
  refine da_cons ?_
  walk_at "v2"
  walk_at "F"
  refine da_cons ?_
  walk_at "v3"
  walk_at "F"
  refine da_nil ?_
  refine ⟨(x, y, k), trivial, rfl, ?_⟩
  rintro _ rfl
  refine dss_one ?_
  refine ds_ret ?_
  refine de_if ?_
  refine dt_val ?_
  refine de_callF G_law_is_open (hr.mono (by decide)) ?_
  refine da_cons ?_
  walk_at "v0"
  walk_at "F"
  refine da_cons ?_
  refine de_sub ?_
  walk_at "v4"
  walk_at "F"
  refine de_int ?_
  walk_at "F"
  refine sd_tup (atI_zero _ _) ?_
  walk_at "F"
  refine da_cons ?_
  refine de_sub ?_
  walk_at "v4"
  walk_at "F"
  refine de_int ?_
  walk_at "F"
  refine sd_tup (atI_nat (j := 1) rfl) ?_
  walk_at "F"
  refine da_nil ?_
  refine ⟨(R, x + dx k, y + dy k), trivial, rfl, ?_⟩
  rintro _ rfl
  refine ⟨_, rfl, ?_⟩
  refine ite2 (fun h1 => ?_) (fun h1 => ?_)
  · refine de_int ?_
    show Sl.frz _ = Sl.frz (.int (bI (!R.free (x + dx k) (y + dy k))))
    replace h1 : R.free (x + dx k) (y + dy k) = true := h1
    rw [h1]
    rfl
  · refine de_int ?_
    show Sl.frz _ = Sl.frz (.int (bI (!R.free (x + dx k) (y + dy k))))
    replace h1 : ¬ R.free (x + dx k) (y + dy k) = true := h1
    rw [Bool.eq_false_iff.mpr h1]
    rfl

abbrev n_law_sees : List Str := ["_law_room_here", "_law_stand", "_law_found", "_law_x", "_law_y", "_law_heading"]
theorem sc_law_sees : FnScope n_law_sees ["_law_room_here", "_law_stand"] (defScope s_law_sees) := ⟨rfl, rfl, rfl, by decide +kernel, rfl, by decide +kernel, by decide +kernel⟩
theorem ok_law_sees (T : Txt mg) (G_law_barred : Has P w K mg base 2 "_law_barred" (p_law_barred K)) (G_law_to : Has P w K mg base 1 "_law_to" (p_turned_to K)) (D : Df K mg "_law_sees" s_law_sees) : Has P w K mg base 3 "_law_sees" (p_sight_of K) := by
  have sc := sc_law_sees
  refine has_F D sc (fun y _ => rfl) (fun _ _ _ _ _ _ us hl => match us, hl with | [_, _], _ => rfl) (fun f cdv A outer s H E hr y py => ?_)
  obtain ⟨⟨R, x, y, k⟩, rest⟩ := y
  refine dss_cons ?_
  refine ds_par3 3 4 5 ?_ sc.nd
  refine db_cons ?_
  refine de_sub ?_
  walk_at "v1"
  walk_at "F"
  refine de_int ?_
  walk_at "F"
  refine sd_tup (atI_zero _ _) ?_
  refine db_cons ?_
  refine de_sub ?_
  walk_at "v1"
  walk_at "F"
  refine de_int ?_
  walk_at "F"
  refine sd_tup (atI_nat (j := 1) rfl) ?_
  refine db_cons ?_
  refine de_sub ?_
  walk_at "v1"
  walk_at "F"
  refine de_int ?_
  walk_at "F"
  refine sd_tup (atI_nat (j := 2) rfl) ?_
  refine db_nil ?_
  refine ⟨_, _, _, rfl, ?_⟩
  refine dss_cons ?_
  refine ds_set 2 ?_ sc.nd
  refine de_bin ?_
  refine de_bin ?_
  refine de_int ?_
  walk_at "F"
  refine de_callF G_law_barred (hr.mono (by decide)) ?_
  refine da_cons ?_
  walk_at "v0"
  walk_at "F"
  refine da_cons ?_
  walk_at "v3"
  walk_at "F"
  refine da_cons ?_
  walk_at "v4"
  walk_at "F"
  refine da_cons ?_
  walk_at "v5"
  walk_at "F"
  refine da_nil ?_
  refine ⟨(R, x, y, k), trivial, rfl, ?_⟩
  rintro _ rfl
  walk_at "F"
  walk_at "mul"
  walk_at "F"
  refine de_bin ?_
  refine de_int ?_
  walk_at "F"
  refine de_callF G_law_barred (hr.mono (by decide)) ?_
  refine da_cons ?_
  walk_at "v0"
  walk_at "F"
  refine da_cons ?_
  walk_at "v3"
  walk_at "F"
  refine da_cons ?_
  walk_at "v4"
  walk_at "F"
  refine da_cons ?_
  refine de_callF G_law_to (hr.mono (by decide)) ?_
  refine da_cons ?_
  walk_at "v5"
  walk_at "F"
  refine da_cons ?_
  refine de_int ?_
  walk_at "F"
  refine da_nil ?_
  refine ⟨(k, 3), trivial, rfl, ?_⟩
  rintro _ rfl
  walk_at "F"
  refine da_nil ?_
  refine ⟨(R, x, y, k + 3), trivial, rfl, ?_⟩
  rintro _ rfl
  walk_at "F"
  walk_at "mul"
  walk_at "F"
  walk_at "add"
  refine dss_one ?_
  refine ds_ret ?_
  refine de_bin ?_
  walk_at "v2"
  walk_at "F"
  refine de_callF G_law_barred (hr.mono (by decide)) ?_
  refine da_cons ?_
  walk_at "v0"
  walk_at "F"
  refine da_cons ?_
  walk_at "v3"
  walk_at "F"
  refine da_cons ?_
  walk_at "v4"
  walk_at "F"
  refine da_cons ?_
  refine de_callF G_law_to (hr.mono (by decide)) ?_
  refine da_cons ?_
  walk_at "v5"
  walk_at "F"
  refine da_cons ?_
  refine de_int ?_
  walk_at "F"
  refine da_nil ?_
  refine ⟨(k, 1), trivial, rfl, ?_⟩
  rintro _ rfl
  walk_at "F"
  refine da_nil ?_
  refine ⟨(R, x, y, k + 1), trivial, rfl, ?_⟩
  rintro _ rfl
  walk_at "F"
  walk_at "add"
  rfl
def turnsI : List (Str × Int) := [("left", 3), ("right", 1), ("round", 2), ("stay", 0)]
theorem turnsI_at {m : Str} (h : m ∈ mvs) (h1 : ¬ m = "step") : valV (tabV turnsI) (Sum.inr m) = some (.int ((turnOf m).val : Int)) := by
  rcases List.mem_cons.mp h with rfl | h
  · rfl
  rcases List.mem_cons.mp h with rfl | h
  · rfl
  rcases List.mem_cons.mp h with rfl | h
  · rfl
  rcases List.mem_cons.mp h with rfl | h
  · rfl
  · exact absurd (List.mem_singleton.mp h) h1
abbrev n_law_tick : List Str := ["_law_room_here", "_law_table_here", "_law_stand", "_law_quarters", "_law_x", "_law_y", "_law_heading", "_law_state", "_law_move", "_law_later"]
theorem sc_law_tick : FnScope n_law_tick ["_law_room_here", "_law_table_here", "_law_stand"] (defScope s_law_tick) := ⟨rfl, rfl, rfl, by decide +kernel, rfl, by decide +kernel, by decide +kernel⟩
theorem ok_law_tick (T : Txt mg) (G_law_sees : Has P w K mg base 3 "_law_sees" (p_sight_of K)) (G_law_barred : Has P w K mg base 2 "_law_barred" (p_law_barred K)) (G_law_to : Has P w K mg base 1 "_law_to" (p_turned_to K)) (G_law_next_cell : Has P w K mg base 1 "_law_next_cell" (p_law_next_cell K)) (D : Df K mg "_law_tick" s_law_tick) : Has P w K mg base 4 "_law_tick" (p_after K) := by
  have sc := sc_law_tick
  refine has_F D sc (fun y _ => rfl) (fun _ _ _ _ _ _ us hl => match us, hl with | [_, _, _], _ => rfl) (fun f cdv A outer s H E hr y py => ?_)
  obtain ⟨R, t, a⟩ := y
  obtain ⟨ht, hs⟩ := py
  replace ht : TabOk t := ht
  replace hs : a.s < t.length := hs
  obtain ⟨n, en, hn⟩ := sight_nat R a.x a.y a.k
  obtain ⟨row, e1, e2, e3, e4⟩ := tab_at ht hs hn
  have ee : R.entry t a = entAt t a.s n := by unfold Rm.entry; rw [en]; rfl
  rw [← ee] at e2 e3 e4
  refine dss_cons ?_
  refine ds_asg (vs := [4, 5, 6, 7]) ?_
  walk_at "v2"
  walk_at "F"
  refine dg_tup ?_ rfl
  refine dgs_cons ?_
  refine dg_name 4 ?_ sc.nd
  refine dgs_cons ?_
  refine dg_name 5 ?_ sc.nd
  refine dgs_cons ?_
  refine dg_name 6 ?_ sc.nd
  refine dgs_cons ?_
  refine dg_name 7 ?_ sc.nd
  refine dgs_nil ?_
  refine dss_cons ?_
  refine ds_asg (vs := [8, 9]) ?_
  refine de_sub ?_
  refine de_sub ?_
  walk_at "v1"
  walk_at "F"
  walk_at "v7"
  walk_at "F"
  refine sd_tup (atI_nat e1) ?_
  walk_at "F"
  refine de_callF G_law_sees (hr.mono (by decide)) ?_
  refine da_cons ?_
  walk_at "v0"
  walk_at "F"
  refine da_cons ?_
  walk_at "v2"
  walk_at "F"
  refine da_nil ?_
  refine ⟨((R, a.x, a.y, a.k), [.int (a.s : Int)]), trivial, rfl, ?_⟩
  rintro _ rfl
  walk_at "F"
  refine sd_tup (d := entD (R.entry t a)) (by show atI _ (R.sight a.x a.y a.k) = _; rw [en]; exact atI_nat e2) ?_
  walk_at "F"
  refine dg_tup ?_ rfl
  refine dgs_cons ?_
  refine dg_name 8 ?_ sc.nd
  refine dgs_cons ?_
  refine dg_name 9 ?_ sc.nd
  refine dgs_nil ?_
  refine dss_cons ?_
  refine ds_if ?_
  refine dt_of_dw ?_
  refine dw_andP ?_
  refine dt_cmp ?_
  walk_at "v8"
  walk_at "F"
  refine de_str ?_
  walk_at "F"
  refine cd_eqs ?_
  walk_at "cut"
  · intro h1
    refine dw_and1 ?_
    refine dt_cmp ?_
    refine de_callF G_law_barred (hr.mono (by decide)) ?_
    refine da_cons ?_
    walk_at "v0"
    walk_at "F"
    refine da_cons ?_
    walk_at "v4"
    walk_at "F"
    refine da_cons ?_
    walk_at "v5"
    walk_at "F"
    refine da_cons ?_
    walk_at "v6"
    walk_at "F"
    refine da_nil ?_
    refine ⟨(R, a.x, a.y, a.k), trivial, rfl, ?_⟩
    rintro _ rfl
    walk_at "F"
    refine de_int ?_
    walk_at "F"
    refine cd_eqi ?_
    exact ⟨rfl, rfl⟩
  refine ite2 (fun h2 => ?_) (fun h2 => ?_)
  · obtain ⟨h3, h4⟩ : (R.entry t a).1 = "step" ∧ R.wall a.x a.y a.k = true := by
      rw [Bool.and_eq_true] at h2
      refine ⟨of_decide_eq_true h2.1, ?_⟩
      have h5 : bI (R.wall a.x a.y a.k) = 1 := of_decide_eq_true h2.2
      cases h6 : R.wall a.x a.y a.k with
      | true => rfl
      | false => rw [h6] at h5; exact absurd h5 (by decide)
    refine dss_one ?_
    refine ds_ret ?_
    refine de_tup ?_
    refine da_cons ?_
    refine de_tup ?_
    refine da_cons ?_
    walk_at "v4"
    walk_at "F"
    refine da_cons ?_
    walk_at "v5"
    walk_at "F"
    refine da_cons ?_
    walk_at "v6"
    walk_at "F"
    refine da_cons ?_
    walk_at "v9"
    walk_at "F"
    refine da_nil ?_
    refine ⟨by show 4 ≤ sizeLine; decide, ?_⟩
    walk_at "F"
    refine da_cons ?_
    refine de_bl ?_
    walk_at "F"
    refine da_nil ?_
    refine ⟨by show 2 ≤ sizeLine; decide, ?_⟩
    have e : R.step t a = (⟨a.x, a.y, a.k, (R.entry t a).2⟩, true) := by unfold Rm.step; rw [if_pos h3, if_pos h4]
    show _ = Sl.frz (.tuple [sdD (R.step t a).1, .bool (R.step t a).2])
    rw [e]
    rfl
  · refine dss_nil ?_
    refine dss_cons ?_
    refine ds_if ?_
    refine dt_cmp ?_
    walk_at "v8"
    walk_at "F"
    refine de_str ?_
    walk_at "F"
    refine cd_eqs ?_
    refine ite2 (fun h3 => ?_) (fun h3 => ?_)
    · replace h3 : (R.entry t a).1 = "step" := of_decide_eq_true h3
      have h4 : ¬ R.wall a.x a.y a.k = true := fun h4 => h2 (by
        rw [Bool.and_eq_true]
        refine ⟨decide_eq_true h3, decide_eq_true ?_⟩
        show bI (R.wall a.x a.y a.k) = 1
        rw [h4]; rfl)
      refine dss_one ?_
      refine ds_ret ?_
      refine de_tup ?_
      refine da_cons ?_
      refine de_bin ?_
      refine de_callF G_law_next_cell (hr.mono (by decide)) ?_
      refine da_cons ?_
      walk_at "v4"
      walk_at "F"
      refine da_cons ?_
      walk_at "v5"
      walk_at "F"
      refine da_cons ?_
      walk_at "v6"
      walk_at "F"
      refine da_nil ?_
      refine ⟨(a.x, a.y, a.k), trivial, rfl, ?_⟩
      rintro _ rfl
      walk_at "F"
      refine de_tup ?_
      refine da_cons ?_
      walk_at "v6"
      walk_at "F"
      refine da_cons ?_
      walk_at "v9"
      walk_at "F"
      refine da_nil ?_
      refine ⟨by show 2 ≤ sizeLine; decide, ?_⟩
      walk_at "F"
      refine bd_cat (List.cons_ne_nil _ _) (List.cons_ne_nil _ _) (by show 4 ≤ sizeLine; decide) ?_
      walk_at "F"
      refine da_cons ?_
      refine de_bl ?_
      walk_at "F"
      refine da_nil ?_
      refine ⟨by show 2 ≤ sizeLine; decide, ?_⟩
      have e : R.step t a = (⟨a.x + dx a.k, a.y + dy a.k, a.k, (R.entry t a).2⟩, false) := by unfold Rm.step; rw [if_pos h3, if_neg h4]
      show _ = Sl.frz (.tuple [sdD (R.step t a).1, .bool (R.step t a).2])
      rw [e]
      rfl
    · replace h3 : ¬ (R.entry t a).1 = "step" := of_decide_eq_false (by simpa using h3)
      refine dss_nil ?_
      refine dss_cons ?_
      refine ds_set 3 ?_ sc.nd
      refine de_dlit turnsI (pps_cons pe_str pe_int (pps_cons pe_str pe_int (pps_cons pe_str pe_int (pps_cons pe_str pe_int pps_nil)))) (Nat.lt_of_le_of_lt (Nat.add_le_add_left (by decide : 1 ≤ 64) _) hr.units) ?_ (by decide)
      walk_at "v8"
      refine ⟨_, _, rfl, turnsI_at e3 h3, ?_⟩
      refine dss_one ?_
      refine ds_ret ?_
      refine de_tup ?_
      refine da_cons ?_
      refine de_tup ?_
      refine da_cons ?_
      walk_at "v4"
      walk_at "F"
      refine da_cons ?_
      walk_at "v5"
      walk_at "F"
      refine da_cons ?_
      refine de_callF G_law_to (hr.mono (by decide)) ?_
      refine da_cons ?_
      walk_at "v6"
      walk_at "F"
      refine da_cons ?_
      walk_at "v3"
      walk_at "F"
      refine da_nil ?_
      refine ⟨(a.k, turnOf (R.entry t a).1), trivial, rfl, ?_⟩
      rintro _ rfl
      walk_at "F"
      refine da_cons ?_
      walk_at "v9"
      walk_at "F"
      refine da_nil ?_
      refine ⟨by show 4 ≤ sizeLine; decide, ?_⟩
      walk_at "F"
      refine da_cons ?_
      refine de_bl ?_
      walk_at "F"
      refine da_nil ?_
      refine ⟨by show 2 ≤ sizeLine; decide, ?_⟩
      have e : R.step t a = (⟨a.x, a.y, a.k + turnOf (R.entry t a).1, (R.entry t a).2⟩, false) := by unfold Rm.step; rw [if_neg h3]
      show _ = Sl.frz (.tuple [sdD (R.step t a).1, .bool (R.step t a).2])
      rw [e]
      rfl

abbrev p_law_deck (K : PySem.W.Frag) : Sp := spF K (ι := Int × Int) (fun y => 0 ≤ y.2 ∧ y.2 ≤ 1000) (fun y => [.int y.1, .int y.2]) (fun y s => ∃ p a b c, s = .own p (oLst p [.int a, .int b, .int c]) ∧ 0 ≤ b ∧ b < 2147483579 ∧ 0 ≤ c ∧ c ≤ 1000)
theorem dep_int (n : Nat) (i : Int) : dep n (.int i) := by
  cases n with
  | zero => exact ⟨rfl, rfl⟩
  | succ n => exact .inr ⟨rfl, rfl⟩
theorem hS_shaped : ∀ k : Fin 4, SeqAt.shaped (.str (hS k)) = true := by decide +kernel
theorem dep_hS (n : Nat) (k : Fin 4) : dep n (.str (hS k)) := by
  cases n with
  | zero => exact ⟨rfl, hS_shaped k⟩
  | succ n => exact .inr ⟨rfl, hS_shaped k⟩
theorem dep_sd (a : Sd) : dep 1 (sdD a) := by
  refine .inl ⟨_, .inr rfl, by show 4 < sizeLine; decide, fun e he => ?_⟩
  rcases List.mem_cons.mp he with rfl | he
  · exact dep_int _ _
  rcases List.mem_cons.mp he with rfl | he
  · exact dep_int _ _
  rcases List.mem_cons.mp he with rfl | he
  · exact dep_hS _ _
  · rw [List.mem_singleton.mp he]
    exact dep_int _ _
theorem dep_path (R : Rm) (t : List (List (Str × Nat))) (a : Sd) (n : Nat) (h : n ≤ 1000) : dep 2 (.list (R.path t a n)) := by
  refine .inl ⟨_, .inl rfl, by rw [path_len]; exact Nat.lt_of_le_of_lt h (by decide), fun e he => ?_⟩
  obtain ⟨j, _, rfl⟩ := List.mem_map.mp he
  exact dep_sd _
theorem seen_len (R : Rm) (t : List (List (Str × Nat))) (a : Sd) (n : Nat) : (R.seen t a n).length = n := by unfold Rm.seen; rw [List.length_map, List.length_range]
theorem seen_succ (R : Rm) (t : List (List (Str × Nat))) (a : Sd) (n : Nat) : R.seen t a (n + 1) = R.seen t a n ++ [.int (R.sight (R.run t a n).x (R.run t a n).y (R.run t a n).k)] := by
  unfold Rm.seen
  rw [List.range_succ, List.map_append]
  rfl
theorem dep_seen (R : Rm) (t : List (List (Str × Nat))) (a : Sd) (n : Nat) (h : n ≤ 1000) : dep 2 (.list (R.seen t a n)) := by
  refine .inl ⟨_, .inl rfl, by rw [seen_len]; exact Nat.lt_of_le_of_lt h (by decide), fun e he => ?_⟩
  obtain ⟨j, _, rfl⟩ := List.mem_map.mp he
  exact dep_int _ _
theorem cutG_map {α β : Type} (f : α → β) (xs : List α) (lo hi : Option Int) : cutG (xs.map f) lo hi = (cutG xs lo hi).map f := by
  unfold cutG
  rw [List.length_map, List.map_take, List.map_drop]
theorem mem_cutG {α : Type} {xs : List α} {lo hi : Option Int} {x : α} (h : x ∈ cutG xs lo hi) : x ∈ xs := List.mem_of_mem_drop (List.mem_of_mem_take h)
theorem cutG_len {α : Type} (xs : List α) (lo hi : Option Int) : (cutG xs lo hi).length ≤ xs.length := by
  unfold cutG
  rw [List.length_take, List.length_drop]
  omega
abbrev n_law : List Str := ["_law_script", "_law_cell", "_law_deck_here", "_law_turn", "_law_tick_so", "_law_one_here", "_law_room_here", "_law_table_here", "_law_start", "_law_many", "_law_stands", "_law_seen"]
theorem sc_law : FnScope n_law ["_law_script"] (defScope s_law) := ⟨rfl, rfl, rfl, by decide +kernel, rfl, by decide +kernel, by decide +kernel⟩
abbrev p_law (K : PySem.W.Frag) : Sp := spF K (ι := List Int) (fun ns => ns.length ≤ 63) (fun ns => [.list (ns.map .int)]) (fun ns s => s = .frz (.bool true))
theorem ok_law (T : Txt mg) (G_law_deck : Has P w K mg base 1 "_law_deck" (p_law_deck K)) (G_law_room : Has P w K mg base 2 "_law_room" (p_law_room K)) (G_law_table : Has P w K mg base 4 "_law_table" (p_law_table K)) (G_law_one : Has P w K mg base 2 "_law_one" (p_law_one K)) (G_law_same : ∀ n, Has P w K mg base (n + 2) "_law_same" (p_law_same K n)) (G_law_all_starts : Has P w K mg base 2 "_law_all_starts" (p_law_all_starts K)) (G_law_sees : Has P w K mg base 3 "_law_sees" (p_sight_of K)) (G_walk : Has P w K mg base 6 "walk" (p_walk K)) (G_sights : Has P w K mg base 7 "sights" (p_sights K)) (G_law_tick : Has P w K mg base 4 "_law_tick" (p_after K)) (G_sight : Has P w K mg base 4 "sight" (p_sight K)) {f : Addr} {fd : FuncData} (FL : FunD K "law" "law" (defArgs s_law) (defBody s_law) (defScope s_law) [] [] f fd) : FnOk P w K mg base CX0 8 f fd ["_law_script"] (p_law K) := by
  have sc := sc_law
  refine fn_F FL sc (fun y _ => rfl) (fun cdv A outer s H E hr ns py => ?_)
  replace py : ns.length ≤ 63 := py
  refine dss_cons ?_
  refine ds_forM (α := Int) (vs := [1]) ?_
  refine di_list ?_
  refine de_slice ?_
  refine de_bin ?_
  refine de_lst ?_
  refine da_cons ?_
  refine de_int ?_
  walk_at "F"
  refine da_nil ?_
  refine ⟨by show 1 ≤ sizeLine; decide, ?_⟩
  intro q
  walk_at "F"
  walk_at "v0"
  walk_at "F"
  refine bd_catL (by rw [List.length_map]; exact Nat.le_trans (m := 64) (by show 1 + ns.length ≤ 64; omega) (by decide)) ?_
  intro q
  walk_at "F"
  refine do_none ?_
  refine do_some ?_
  refine de_int ?_
  refine ⟨_, rfl, ?_⟩
  refine ld_list ?_
  intro q
  walk_at "F"
  refine ⟨_, rfl, ?_⟩
  refine ⟨cutG (0 :: ns) none (some 10), PyData.int, fun i ρ => ∃ o1 o2 o3 o4 o5 o6 o7 o8 o9 o10 o11, ρ = [some (.frz (.list (ns.map .int))), o1, o2, o3, o4, o5, o6, o7, o8, o9, o10, o11], cutG_map PyData.int (0 :: ns) none (some 10), ⟨_, _, _, _, _, _, _, _, _, _, _, rfl⟩, ?_, ?_⟩
  · rintro i cell ρ2 hd ⟨o1, o2, o3, o4, o5, o6, o7, o8, o9, o10, o11, rfl⟩
    refine dg_name 1 ?_ sc.nd
    refine dss_cons ?_
    refine ds_set 2 ?_ sc.nd
    refine de_callF G_law_deck (hr.mono (by decide)) ?_
    refine da_cons ?_
    walk_at "v1"
    walk_at "F"
    refine da_cons ?_
    refine de_int ?_
    walk_at "F"
    refine da_nil ?_
    refine ⟨(_, _), ⟨by show (0 : Int) ≤ 3; decide, by show (3 : Int) ≤ 1000; decide⟩, rfl, ?_⟩
    rintro _ ⟨p, a, b, c, rfl, b0, b1, c0, c1⟩
    refine dss_weak 2 rfl (weak_lst (m := 1000) b0 b1 c0 (by omega)) ?_
    refine dss_one ?_
    refine ds_forM (α := Nat) (vs := [3]) ?_
    refine di_range1 ?_ T.range
    refine de_int ?_
    walk_at "F"
    refine ⟨_, rfl, by decide, by decide, ?_⟩
    refine ⟨List.range 4, fun i => .int (i : Int), fun i ρ => ∃ (B : Nat) (o3 o4 o5 o6 o7 o8 o9 o10 o11 : Option Sl), 1000 - 200 * i ≤ B ∧ ρ = [some (.frz (.list (ns.map .int))), some (.frz (.int cell)), some (.own p (oDeck B p)), o3, o4, o5, o6, o7, o8, o9, o10, o11], rngD_zero _, ⟨1000, o3, o4, o5, o6, o7, o8, o9, o10, o11, by omega, rfl⟩, ?_, ?_⟩
    · rintro i turn ρ2 hd ⟨B, o3, o4, o5, o6, o7, o8, o9, o10, o11, hB, rfl⟩
      have i4 : i < 4 := by have := (List.getElem?_eq_some_iff.mp hd).1; rwa [List.length_range] at this
      refine dg_name 3 ?_ sc.nd
      refine dss_cons ?_
      refine ds_par2 6 7 ?_ sc.nd
      refine db_cons ?_
      refine de_callD 2 G_law_room (hr.mono (by decide)) ?_
      refine da_cons ?_
      refine de_int ?_
      walk_at "F"
      refine da_cons ?_
      refine de_int ?_
      walk_at "F"
      refine da_nil ?_
      refine ⟨((6, 5), B - 40), _, _, ⟨⟨by show 1 ≤ 6; decide, by show 6 ≤ 6; decide⟩, by show 1 ≤ 5; decide, by show 5 ≤ 5; decide⟩, rfl, rfl, weak_deck (by show B - 40 + 40 ≤ B; omega), ?_⟩
      rintro _ _ ⟨rows, W, hroom, rfl, rfl⟩
      refine db_cons ?_
      refine de_callD 2 G_law_table (hr.mono (by decide)) ?_
      refine da_nil ?_
      refine ⟨B - 100, _, _, trivial, rfl, rfl, weak_deck (by show B - 100 + 60 ≤ B - 40; omega), ?_⟩
      rintro _ _ ⟨t, ht, rfl, rfl⟩
      refine db_nil ?_
      refine ⟨_, _, rfl, ?_⟩
      obtain ⟨R, hR⟩ : ∃ R : Rm, R.rows = rows := ⟨⟨rows, W, hroom⟩, rfl⟩
      subst hR
      refine dss_cons ?_
      refine ds_par2 8 9 ?_ sc.nd
      refine db_cons ?_
      refine de_callD 2 G_law_one (hr.mono (by decide)) ?_
      refine da_cons ?_
      refine de_callF G_law_all_starts (hr.mono (by decide)) ?_
      refine da_cons ?_
      walk_at "v6"
      walk_at "F"
      refine da_nil ?_
      refine ⟨R, trivial, rfl, ?_⟩
      rintro _ ⟨q1, L, rfl, hne, hlen, hfree⟩
      walk_at "F"
      refine da_nil ?_
      have l0 : 0 < L.length := List.length_pos_iff.mpr hne
      refine ⟨(_, B - 101), _, _, ⟨by show 0 < (L.map startD).length; rw [List.length_map]; exact l0, by show (L.map startD).length < 1073741824; rw [List.length_map]; omega⟩, rfl, rfl, weak_deck (by show B - 101 + 1 ≤ B - 100; omega), ?_⟩
      rintro _ _ ⟨d, hd, rfl, rfl⟩
      obtain ⟨⟨⟨x, y⟩, k⟩, hc, rfl⟩ := List.mem_map.mp hd
      have hxy : R.free (x : Int) (y : Int) = true := hfree _ hc
      refine db_cons ?_
      refine de_callD 2 G_law_one (hr.mono (by decide)) ?_
      refine da_cons ?_
      refine de_lst ?_
      refine da_cons ?_
      refine de_int ?_
      walk_at "F"
      refine da_cons ?_
      refine de_int ?_
      walk_at "F"
      refine da_cons ?_
      refine de_int ?_
      walk_at "F"
      refine da_cons ?_
      refine de_int ?_
      walk_at "F"
      refine da_cons ?_
      refine de_int ?_
      walk_at "F"
      refine da_nil ?_
      refine ⟨by show 5 ≤ sizeLine; decide, ?_⟩
      intro q
      walk_at "F"
      refine da_nil ?_
      refine ⟨(_, B - 102), _, _, ⟨by show 0 < 5; decide, by show 5 < 1073741824; decide⟩, rfl, rfl, weak_deck (by show B - 102 + 1 ≤ B - 101; omega), ?_⟩
      rintro _ _ ⟨d, hd, rfl, rfl⟩
      obtain ⟨n, hn, rfl⟩ : ∃ n : Nat, n ≤ 200 ∧ d = .int (n : Int) := by
        rcases List.mem_cons.mp hd with rfl | hd
        · exact ⟨0, by decide, rfl⟩
        rcases List.mem_cons.mp hd with rfl | hd
        · exact ⟨1, by decide, rfl⟩
        rcases List.mem_cons.mp hd with rfl | hd
        · exact ⟨7, by decide, rfl⟩
        rcases List.mem_cons.mp hd with rfl | hd
        · exact ⟨40, by decide, rfl⟩
        · exact ⟨200, by decide, List.mem_singleton.mp hd⟩
      refine db_nil ?_
      refine ⟨_, _, rfl, ?_⟩
      refine dss_cons ?_
      refine ds_par2 10 11 ?_ sc.nd
      refine db_cons ?_
      refine de_lst ?_
      refine da_cons ?_
      refine de_bin ?_
      walk_at "v8"
      walk_at "F"
      refine de_tup ?_
      refine da_cons ?_
      refine de_int ?_
      walk_at "F"
      refine da_nil ?_
      refine ⟨by show 1 ≤ sizeLine; decide, ?_⟩
      walk_at "F"
      refine bd_cat (List.cons_ne_nil _ _) (List.cons_ne_nil _ _) (by show 4 ≤ sizeLine; decide) ?_
      walk_at "F"
      refine da_nil ?_
      refine ⟨by show 1 ≤ sizeLine; decide, ?_⟩
      intro q10
      refine db_cons ?_
      refine de_lst ?_
      refine da_nil ?_
      refine ⟨by show 0 ≤ sizeLine; decide, ?_⟩
      intro q11
      refine db_nil ?_
      refine ⟨_, _, rfl, ?_⟩
      have hlo : 0 < t.length := ht.lo
      obtain ⟨a0, ha0⟩ : ∃ a0 : Sd, a0 = ⟨(x : Int), (y : Int), k, 0⟩ := ⟨_, rfl⟩
      have hs0 : a0.s < t.length := by rw [ha0]; exact hlo
      refine dss_cons ?_
      refine ds_forM (α := Nat) (vs := [4]) ?_
      refine di_range1 ?_ T.range
      walk_at "v9"
      walk_at "F"
      refine ⟨_, rfl, by omega, by omega, ?_⟩
      refine ⟨List.range n, fun i => .int (i : Int), fun j ρ => ∃ (o4 : Option Sl), ρ = [some (.frz (.list (ns.map .int))), some (.frz (.int cell)), some (.own p (oDeck (B - 102) p)), some (.frz (.int (turn : Int))), o4, o5, some (.frz (roomD R.rows)), some (.frz (tabD t)), some (.frz (stD (x : Int) (y : Int) k)), some (.frz (.int (n : Int))), some (.own q10 (oLst q10 (R.path t a0 (j + 1)))), some (.own q11 (oLst q11 (R.seen t a0 j)))], rngD_zero _, ⟨o4, by rw [ha0]; rfl⟩, ?_, ?_⟩
      · rintro j tk ρ2 hd ⟨o4, rfl⟩
        have jn : j < n := by have := (List.getElem?_eq_some_iff.mp hd).1; rwa [List.length_range] at this
        refine dg_name 4 ?_ sc.nd
        refine dss_cons ?_
        refine ds_append 11 ?_ ⟨_, _, rfl⟩
        refine de_callF G_law_sees (hr.mono (by decide)) ?_
        refine da_cons ?_
        walk_at "v6"
        walk_at "F"
        refine da_cons ?_
        refine de_subO 10 ?_ ⟨_, _, rfl⟩
        refine de_neg ?_
        refine de_int ?_
        refine ⟨_, rfl, ?_⟩
        refine ⟨_, _, _, _, rfl, rfl, by rw [path_succ]; exact at_last _ _, ?_⟩
        walk_at "F"
        refine da_nil ?_
        refine ⟨((R, _, _, _), [_]), trivial, rfl, ?_⟩
        rintro _ rfl
        walk_at "F"
        refine ⟨_, _, rfl, by rw [seen_len]; exact Nat.lt_of_le_of_lt (m := 200) (by omega) (by decide), ?_⟩
        refine dss_one ?_
        refine ds_append 10 ?_ ⟨_, _, rfl⟩
        refine de_sub ?_
        refine de_callF G_law_tick (hr.mono (by decide)) ?_
        refine da_cons ?_
        walk_at "v6"
        walk_at "F"
        refine da_cons ?_
        walk_at "v7"
        walk_at "F"
        refine da_cons ?_
        refine de_subO 10 ?_ ⟨_, _, rfl⟩
        refine de_neg ?_
        refine de_int ?_
        refine ⟨_, rfl, ?_⟩
        refine ⟨_, _, _, _, rfl, rfl, by rw [path_succ]; exact at_last _ _, ?_⟩
        walk_at "F"
        refine da_nil ?_
        refine ⟨(R, t, R.run t a0 j), ⟨ht, run_s ht hs0 j⟩, rfl, ?_⟩
        rintro _ rfl
        walk_at "F"
        refine de_int ?_
        walk_at "F"
        refine sd_tup (atI_zero _ _) ?_
        walk_at "F"
        refine ⟨_, _, rfl, by rw [path_len]; exact Nat.lt_of_le_of_lt (m := 201) (by omega) (by decide), ?_⟩
        refine ⟨some (.frz (.int (tk : Int))), ?_⟩
        rw [seen_succ, path_succ R t a0 (j + 1)]
        rfl
      rintro ρ2 ⟨o4, rfl⟩
      rw [List.length_range]
      refine dss_cons ?_
      refine ds_if ?_
      refine dt_not ?_
      refine dt_val ?_
      refine de_callF (G_law_same 2) (hr.mono (show 2 + 2 ≤ 7 by decide)) ?_
      refine da_cons ?_
      refine de_callF G_walk (hr.mono (by decide)) ?_
      refine da_cons ?_
      walk_at "v6"
      walk_at "F"
      refine da_cons ?_
      walk_at "v7"
      walk_at "F"
      refine da_cons ?_
      walk_at "v8"
      walk_at "F"
      refine da_cons ?_
      walk_at "v9"
      walk_at "F"
      refine da_nil ?_
      refine ⟨(R, t, ((x : Int), (y : Int), k), n), ⟨⟨ht, hn⟩, hxy⟩, rfl, ?_⟩
      rintro _ ⟨q1, rfl⟩
      walk_at "F"
      refine da_cons ?_
      walk_at "v10"
      walk_at "F"
      refine da_nil ?_
      refine ⟨.list (R.path t a0 (n + 1)), dep_path R t a0 (n + 1) (by omega), by rw [ha0]; rfl, ?_⟩
      rintro _ rfl
      refine ⟨_, rfl, ?_⟩
      refine iteF ?_
      refine dss_nil ?_
      refine dss_cons ?_
      refine ds_if ?_
      refine dt_not ?_
      refine dt_val ?_
      refine de_callF (G_law_same 2) (hr.mono (show 2 + 2 ≤ 7 by decide)) ?_
      refine da_cons ?_
      refine de_callF G_sights (hr.mono (by decide)) ?_
      refine da_cons ?_
      walk_at "v6"
      walk_at "F"
      refine da_cons ?_
      walk_at "v7"
      walk_at "F"
      refine da_cons ?_
      walk_at "v8"
      walk_at "F"
      refine da_cons ?_
      walk_at "v9"
      walk_at "F"
      refine da_nil ?_
      refine ⟨(R, t, ((x : Int), (y : Int), k), n), ⟨⟨ht, hn⟩, hxy⟩, rfl, ?_⟩
      rintro _ ⟨q1, rfl⟩
      walk_at "F"
      refine da_cons ?_
      walk_at "v11"
      walk_at "F"
      refine da_nil ?_
      refine ⟨.list (R.seen t a0 n), dep_seen R t a0 n (by omega), by rw [ha0]; rfl, ?_⟩
      rintro _ rfl
      refine ⟨_, rfl, ?_⟩
      refine iteF ?_
      refine dss_nil ?_
      refine dss_one ?_
      refine ds_forM (α := (Nat × Nat) × Fin 4) (vs := [5]) ?_
      refine di_list ?_
      refine de_slice ?_
      refine de_callF G_law_all_starts (hr.mono (by decide)) ?_
      refine da_cons ?_
      walk_at "v6"
      walk_at "F"
      refine da_nil ?_
      refine ⟨R, trivial, rfl, ?_⟩
      rintro _ ⟨q2, M, rfl, hne2, hlen2, hfree2⟩
      walk_at "F"
      refine do_none ?_
      refine do_some ?_
      refine de_int ?_
      refine ⟨_, rfl, ?_⟩
      refine ld_list ?_
      intro q3
      walk_at "F"
      refine ⟨_, rfl, ?_⟩
      refine ⟨cutG M none (some 12), startD, fun j ρ => ∃ (o5 : Option Sl), ρ = [some (.frz (.list (ns.map .int))), some (.frz (.int cell)), some (.own p (oDeck (B - 102) p)), some (.frz (.int (turn : Int))), o4, o5, some (.frz (roomD R.rows)), some (.frz (tabD t)), some (.frz (stD (x : Int) (y : Int) k)), some (.frz (.int (n : Int))), some (.frz (.list (R.path t a0 (n + 1)))), some (.frz (.list (R.seen t a0 n)))], cutG_map startD M none (some 12), ⟨o5, rfl⟩, ?_, ?_⟩
      · rintro j c ρ2 hd ⟨o5, rfl⟩
        have hcf := hfree2 c (mem_cutG (List.mem_of_getElem? hd))
        refine dg_name 5 ?_ sc.nd
        refine dss_one ?_
        refine ds_if ?_
        refine dt_not ?_
        refine dt_val ?_
        refine de_callF (G_law_same 0) (hr.mono (show 0 + 2 ≤ 7 by decide)) ?_
        refine da_cons ?_
        refine de_callF G_sight (hr.mono (by decide)) ?_
        refine da_cons ?_
        walk_at "v6"
        walk_at "F"
        refine da_cons ?_
        walk_at "v5"
        walk_at "F"
        refine da_nil ?_
        refine ⟨(R, (c.1.1 : Int), (c.1.2 : Int), c.2), hcf, rfl, ?_⟩
        rintro _ rfl
        walk_at "F"
        refine da_cons ?_
        refine de_callF G_law_sees (hr.mono (by decide)) ?_
        refine da_cons ?_
        walk_at "v6"
        walk_at "F"
        refine da_cons ?_
        walk_at "v5"
        walk_at "F"
        refine da_nil ?_
        refine ⟨((R, (c.1.1 : Int), (c.1.2 : Int), c.2), []), trivial, rfl, ?_⟩
        rintro _ rfl
        walk_at "F"
        refine da_nil ?_
        refine ⟨_, dep_int 0 _, rfl, ?_⟩
        rintro _ rfl
        refine ⟨_, rfl, ?_⟩
        refine iteF ?_
        refine dss_nil ?_
        exact ⟨some (.frz (startD c)), rfl⟩
      rintro ρ2 ⟨o5, rfl⟩
      exact ⟨B - 102, _, _, _, _, _, _, _, _, _, by omega, rfl⟩
    rintro ρ2 ⟨B, o3, o4, o5, o6, o7, o8, o9, o10, o11, hB, rfl⟩
    exact ⟨_, _, _, _, _, _, _, _, _, _, _, rfl⟩
  rintro ρ2 ⟨o1, o2, o3, o4, o5, o6, o7, o8, o9, o10, o11, rfl⟩
  refine dss_one ?_
  refine ds_ret ?_
  refine de_bl ?_
  rfl

end
end WF
set_option maxHeartbeats 0
namespace WF
open PySem PySem.Spec PyProof.Rows L2 DL
def dd (x : Str) (i : Nat) : He.DefD := ⟨(x, none), x, x, defArgs (top i), defBody (top i), defScope (top i), [], []⟩
def hfn : List He.DefD := [dd "is_within" 9, dd "is_row" 10, dd "is_room_value" 11, dd "need_room" 12, dd "is_free" 13, dd "is_entry" 18, dd "is_table_value" 19, dd "need_table" 20, dd "turned_to" 26, dd "beside" 27, dd "has_wall" 28, dd "sight_of" 29, dd "after" 30, dd "need_both" 31, dd "need_start" 32, dd "need_ticks" 33, dd "sight" 34, dd "stands_along" 35, dd "walk" 36, dd "sights" 37, dd "_law_deck" 39, dd "_law_pick" 40, dd "_law_one" 41, dd "_law_sort" 42, dd "_law_same" 43, dd "_law_room" 44, dd "_law_hand" 45, dd "_law_table" 46, dd "_law_is_open" 47, dd "_law_all_free" 48, dd "_law_all_starts" 49, dd "_law_next_cell" 50, dd "_law_to" 51, dd "_law_barred" 52, dd "_law_sees" 53, dd "_law_tick" 54, dd "law" 55]
def hfa : List He.Fa := [.glo "is_within", .glo "is_row", .glo "is_room_value", .glo "need_room", .glo "is_free", .glo "is_entry", .glo "is_table_value", .glo "need_table", .glo "turned_to", .glo "beside", .glo "has_wall", .glo "sight_of", .glo "after", .glo "need_both", .glo "need_start", .glo "need_ticks", .glo "sight", .glo "stands_along", .glo "walk", .glo "sights", .glo "_law_deck", .glo "_law_pick", .glo "_law_one", .glo "_law_sort", .glo "_law_same", .glo "_law_room", .glo "_law_hand", .glo "_law_table", .glo "_law_is_open", .glo "_law_all_free", .glo "_law_all_starts", .glo "_law_next_cell", .glo "_law_to", .glo "_law_barred", .glo "_law_sees", .glo "_law_tick", .glo "law", .free "len", .free "range", .free "all", .free "any", .free "isinstance", .free "int", .free "str", .free "bool", .free "list", .free "tuple", .free "set", .free "sorted", .free "enumerate", .free "zip", .free "sum", .free "max", .free "min", .int "MOST_WIDE" 6, .int "MOST_HIGH" 5, .glo "MOVES", .int "MOST_STATES" 3, .int "SIGHTS" 8, .str "HEADINGS" "nesw", .glo "AHEAD", .glo "TURNS", .int "MOST_TICKS" 200]
def hts : List He.Tab := [(fun K => He.ga K "TURNS", ["left", "right", "round"])]
def hex (K : PySem.W.Frag) : Bool := datB K 4 (.ref (He.ga K "MOVES")) (.tuple (mvs.map .str)) && (datB K 4 (.ref (He.ga K "AHEAD")) (aheadD) && (He.valsB K (He.ga K "TURNS") (([("left", 3), ("right", 1), ("round", 2)] : List (Str × Int)).map fun e => (e.1, He.Dv.int e.2))))
abbrev hR : PySem.W.OpenRow := PySem.W.OpenLaw.row PySem.Challenge.rw_wallfeet_k03_whole_walkers_tick_by_tick
abbrev hk : PySem.W.Hook := He.hookX 4 hfa hfn hts [] hex
def hob (s : PySem.W.SharedT) : He.AlX := He.obsX 4 hfa hfn hts [] hex (HandSHeadRun.getT s)
theorem hob_eq (s : PySem.W.SharedT) : hob s = hk.obs s.abs := He.obsX_eq (HandSHeadRun.getT_eq s)
def hloose0 : List PySem.Str := ["WalkError", "InvalidRoom", "InvalidTable", "InvalidStart", "InvalidNumber", "MOST_WIDE", "MOST_HIGH", "is_within", "is_row", "is_room_value", "need_room", "is_free", "MOVES", "MOST_STATES", "SIGHTS", "is_entry", "is_table_value", "need_table", "HEADINGS", "AHEAD", "TURNS", "MOST_TICKS", "turned_to", "beside", "has_wall", "sight_of", "after", "need_both", "need_start", "need_ticks"]
def hloose1 : List PySem.Str := ["sight", "stands_along", "walk", "sights", "_law_deck", "_law_pick", "_law_one", "_law_sort", "_law_same", "_law_room", "_law_hand", "_law_table", "_law_is_open", "_law_all_free", "_law_all_starts", "_law_next_cell", "_law_to", "_law_barred", "_law_sees", "_law_tick"]
def hloose : List PySem.Str := hloose0 ++ hloose1
theorem hrun (w : World) : HandSHeadRun.RunEq hR (PySem.W.view hR.prog [55]) hk hob 3000 hloose w := by
  refine PySem.W.byRow2 (P := fun w => HandSHeadRun.RunEq hR (PySem.W.view hR.prog [55]) hk hob 3000 hloose w) "special-get-raises" (fun w => ?_) (fun w => ?_) w
  · intro os
    kernel_rfl
  · intro os
    kernel_rfl
theorem facts {P : Program} {w : World} {K : PySem.W.Frag} {h h0 : Heap} {mg : Str → Option Value} {fl : Addr} (X : K.In h) (G : h.Ns mainGlobals mg) (hfa0 : mg ("law" : Str) = some (.ref fl)) (c : He.SaysX hfa hfn hts [] hex w h0 K) :
    ∃ fd : FuncData, (∀ (s : Shared) (v : Value), BindsTo s fd ⟨[v], []⟩ [("_law_script", v)]) ∧ ∀ base : Heap, K.In base → base.Ns mainGlobals mg → FnOk P w K mg base CX0 8 fl fd ["_law_script"] (p_law K) := by
  have cd := c.t.d
  have D_is_within : Df K mg "is_within" s_is_within := ⟨let ⟨fd, h⟩ := cd.def_ 0 (d := dd "is_within" 9) rfl; ⟨_, fd, h, He.glo_ok X G (cd.fact 0 (f := .glo "is_within") rfl)⟩⟩
  have D_is_row : Df K mg "is_row" s_is_row := ⟨let ⟨fd, h⟩ := cd.def_ 1 (d := dd "is_row" 10) rfl; ⟨_, fd, h, He.glo_ok X G (cd.fact 1 (f := .glo "is_row") rfl)⟩⟩
  have D_is_room_value : Df K mg "is_room_value" s_is_room_value := ⟨let ⟨fd, h⟩ := cd.def_ 2 (d := dd "is_room_value" 11) rfl; ⟨_, fd, h, He.glo_ok X G (cd.fact 2 (f := .glo "is_room_value") rfl)⟩⟩
  have D_need_room : Df K mg "need_room" s_need_room := ⟨let ⟨fd, h⟩ := cd.def_ 3 (d := dd "need_room" 12) rfl; ⟨_, fd, h, He.glo_ok X G (cd.fact 3 (f := .glo "need_room") rfl)⟩⟩
  have D_is_free : Df K mg "is_free" s_is_free := ⟨let ⟨fd, h⟩ := cd.def_ 4 (d := dd "is_free" 13) rfl; ⟨_, fd, h, He.glo_ok X G (cd.fact 4 (f := .glo "is_free") rfl)⟩⟩
  have D_is_entry : Df K mg "is_entry" s_is_entry := ⟨let ⟨fd, h⟩ := cd.def_ 5 (d := dd "is_entry" 18) rfl; ⟨_, fd, h, He.glo_ok X G (cd.fact 5 (f := .glo "is_entry") rfl)⟩⟩
  have D_is_table_value : Df K mg "is_table_value" s_is_table_value := ⟨let ⟨fd, h⟩ := cd.def_ 6 (d := dd "is_table_value" 19) rfl; ⟨_, fd, h, He.glo_ok X G (cd.fact 6 (f := .glo "is_table_value") rfl)⟩⟩
  have D_need_table : Df K mg "need_table" s_need_table := ⟨let ⟨fd, h⟩ := cd.def_ 7 (d := dd "need_table" 20) rfl; ⟨_, fd, h, He.glo_ok X G (cd.fact 7 (f := .glo "need_table") rfl)⟩⟩
  have D_turned_to : Df K mg "turned_to" s_turned_to := ⟨let ⟨fd, h⟩ := cd.def_ 8 (d := dd "turned_to" 26) rfl; ⟨_, fd, h, He.glo_ok X G (cd.fact 8 (f := .glo "turned_to") rfl)⟩⟩
  have D_beside : Df K mg "beside" s_beside := ⟨let ⟨fd, h⟩ := cd.def_ 9 (d := dd "beside" 27) rfl; ⟨_, fd, h, He.glo_ok X G (cd.fact 9 (f := .glo "beside") rfl)⟩⟩
  have D_has_wall : Df K mg "has_wall" s_has_wall := ⟨let ⟨fd, h⟩ := cd.def_ 10 (d := dd "has_wall" 28) rfl; ⟨_, fd, h, He.glo_ok X G (cd.fact 10 (f := .glo "has_wall") rfl)⟩⟩
  have D_sight_of : Df K mg "sight_of" s_sight_of := ⟨let ⟨fd, h⟩ := cd.def_ 11 (d := dd "sight_of" 29) rfl; ⟨_, fd, h, He.glo_ok X G (cd.fact 11 (f := .glo "sight_of") rfl)⟩⟩
  have D_after : Df K mg "after" s_after := ⟨let ⟨fd, h⟩ := cd.def_ 12 (d := dd "after" 30) rfl; ⟨_, fd, h, He.glo_ok X G (cd.fact 12 (f := .glo "after") rfl)⟩⟩
  have D_need_both : Df K mg "need_both" s_need_both := ⟨let ⟨fd, h⟩ := cd.def_ 13 (d := dd "need_both" 31) rfl; ⟨_, fd, h, He.glo_ok X G (cd.fact 13 (f := .glo "need_both") rfl)⟩⟩
  have D_need_start : Df K mg "need_start" s_need_start := ⟨let ⟨fd, h⟩ := cd.def_ 14 (d := dd "need_start" 32) rfl; ⟨_, fd, h, He.glo_ok X G (cd.fact 14 (f := .glo "need_start") rfl)⟩⟩
  have D_need_ticks : Df K mg "need_ticks" s_need_ticks := ⟨let ⟨fd, h⟩ := cd.def_ 15 (d := dd "need_ticks" 33) rfl; ⟨_, fd, h, He.glo_ok X G (cd.fact 15 (f := .glo "need_ticks") rfl)⟩⟩
  have D_sight : Df K mg "sight" s_sight := ⟨let ⟨fd, h⟩ := cd.def_ 16 (d := dd "sight" 34) rfl; ⟨_, fd, h, He.glo_ok X G (cd.fact 16 (f := .glo "sight") rfl)⟩⟩
  have D_stands_along : Df K mg "stands_along" s_stands_along := ⟨let ⟨fd, h⟩ := cd.def_ 17 (d := dd "stands_along" 35) rfl; ⟨_, fd, h, He.glo_ok X G (cd.fact 17 (f := .glo "stands_along") rfl)⟩⟩
  have D_walk : Df K mg "walk" s_walk := ⟨let ⟨fd, h⟩ := cd.def_ 18 (d := dd "walk" 36) rfl; ⟨_, fd, h, He.glo_ok X G (cd.fact 18 (f := .glo "walk") rfl)⟩⟩
  have D_sights : Df K mg "sights" s_sights := ⟨let ⟨fd, h⟩ := cd.def_ 19 (d := dd "sights" 37) rfl; ⟨_, fd, h, He.glo_ok X G (cd.fact 19 (f := .glo "sights") rfl)⟩⟩
  have D_law_deck : Df K mg "_law_deck" s_law_deck := ⟨let ⟨fd, h⟩ := cd.def_ 20 (d := dd "_law_deck" 39) rfl; ⟨_, fd, h, He.glo_ok X G (cd.fact 20 (f := .glo "_law_deck") rfl)⟩⟩
  have D_law_pick : Df K mg "_law_pick" s_law_pick := ⟨let ⟨fd, h⟩ := cd.def_ 21 (d := dd "_law_pick" 40) rfl; ⟨_, fd, h, He.glo_ok X G (cd.fact 21 (f := .glo "_law_pick") rfl)⟩⟩
  have D_law_one : Df K mg "_law_one" s_law_one := ⟨let ⟨fd, h⟩ := cd.def_ 22 (d := dd "_law_one" 41) rfl; ⟨_, fd, h, He.glo_ok X G (cd.fact 22 (f := .glo "_law_one") rfl)⟩⟩
  have D_law_sort : Df K mg "_law_sort" s_law_sort := ⟨let ⟨fd, h⟩ := cd.def_ 23 (d := dd "_law_sort" 42) rfl; ⟨_, fd, h, He.glo_ok X G (cd.fact 23 (f := .glo "_law_sort") rfl)⟩⟩
  have D_law_same : Df K mg "_law_same" s_law_same := ⟨let ⟨fd, h⟩ := cd.def_ 24 (d := dd "_law_same" 43) rfl; ⟨_, fd, h, He.glo_ok X G (cd.fact 24 (f := .glo "_law_same") rfl)⟩⟩
  have D_law_room : Df K mg "_law_room" s_law_room := ⟨let ⟨fd, h⟩ := cd.def_ 25 (d := dd "_law_room" 44) rfl; ⟨_, fd, h, He.glo_ok X G (cd.fact 25 (f := .glo "_law_room") rfl)⟩⟩
  have D_law_hand : Df K mg "_law_hand" s_law_hand := ⟨let ⟨fd, h⟩ := cd.def_ 26 (d := dd "_law_hand" 45) rfl; ⟨_, fd, h, He.glo_ok X G (cd.fact 26 (f := .glo "_law_hand") rfl)⟩⟩
  have D_law_table : Df K mg "_law_table" s_law_table := ⟨let ⟨fd, h⟩ := cd.def_ 27 (d := dd "_law_table" 46) rfl; ⟨_, fd, h, He.glo_ok X G (cd.fact 27 (f := .glo "_law_table") rfl)⟩⟩
  have D_law_is_open : Df K mg "_law_is_open" s_law_is_open := ⟨let ⟨fd, h⟩ := cd.def_ 28 (d := dd "_law_is_open" 47) rfl; ⟨_, fd, h, He.glo_ok X G (cd.fact 28 (f := .glo "_law_is_open") rfl)⟩⟩
  have D_law_all_free : Df K mg "_law_all_free" s_law_all_free := ⟨let ⟨fd, h⟩ := cd.def_ 29 (d := dd "_law_all_free" 48) rfl; ⟨_, fd, h, He.glo_ok X G (cd.fact 29 (f := .glo "_law_all_free") rfl)⟩⟩
  have D_law_all_starts : Df K mg "_law_all_starts" s_law_all_starts := ⟨let ⟨fd, h⟩ := cd.def_ 30 (d := dd "_law_all_starts" 49) rfl; ⟨_, fd, h, He.glo_ok X G (cd.fact 30 (f := .glo "_law_all_starts") rfl)⟩⟩
  have D_law_next_cell : Df K mg "_law_next_cell" s_law_next_cell := ⟨let ⟨fd, h⟩ := cd.def_ 31 (d := dd "_law_next_cell" 50) rfl; ⟨_, fd, h, He.glo_ok X G (cd.fact 31 (f := .glo "_law_next_cell") rfl)⟩⟩
  have D_law_to : Df K mg "_law_to" s_law_to := ⟨let ⟨fd, h⟩ := cd.def_ 32 (d := dd "_law_to" 51) rfl; ⟨_, fd, h, He.glo_ok X G (cd.fact 32 (f := .glo "_law_to") rfl)⟩⟩
  have D_law_barred : Df K mg "_law_barred" s_law_barred := ⟨let ⟨fd, h⟩ := cd.def_ 33 (d := dd "_law_barred" 52) rfl; ⟨_, fd, h, He.glo_ok X G (cd.fact 33 (f := .glo "_law_barred") rfl)⟩⟩
  have D_law_sees : Df K mg "_law_sees" s_law_sees := ⟨let ⟨fd, h⟩ := cd.def_ 34 (d := dd "_law_sees" 53) rfl; ⟨_, fd, h, He.glo_ok X G (cd.fact 34 (f := .glo "_law_sees") rfl)⟩⟩
  have D_law_tick : Df K mg "_law_tick" s_law_tick := ⟨let ⟨fd, h⟩ := cd.def_ 35 (d := dd "_law_tick" 54) rfl; ⟨_, fd, h, He.glo_ok X G (cd.fact 35 (f := .glo "_law_tick") rfl)⟩⟩
  obtain ⟨fd, FL⟩ := cd.def_ 36 (d := dd "law" 55) rfl
  have e := hfa0.symm.trans (He.glo_ok X G (cd.fact 36 (f := .glo "law") rfl))
  cases e
  have T : Txt mg := ⟨He.free_ok X G (cd.fact 37 (f := .free "len") rfl), He.free_ok X G (cd.fact 38 (f := .free "range") rfl), He.free_ok X G (cd.fact 39 (f := .free "all") rfl), He.free_ok X G (cd.fact 40 (f := .free "any") rfl), He.free_ok X G (cd.fact 41 (f := .free "isinstance") rfl), He.free_ok X G (cd.fact 42 (f := .free "int") rfl), He.free_ok X G (cd.fact 43 (f := .free "str") rfl), He.free_ok X G (cd.fact 44 (f := .free "bool") rfl), He.free_ok X G (cd.fact 45 (f := .free "list") rfl), He.free_ok X G (cd.fact 46 (f := .free "tuple") rfl), He.free_ok X G (cd.fact 47 (f := .free "set") rfl), He.free_ok X G (cd.fact 48 (f := .free "sorted") rfl), He.free_ok X G (cd.fact 49 (f := .free "enumerate") rfl), He.free_ok X G (cd.fact 50 (f := .free "zip") rfl), He.free_ok X G (cd.fact 51 (f := .free "sum") rfl), He.free_ok X G (cd.fact 52 (f := .free "max") rfl), He.free_ok X G (cd.fact 53 (f := .free "min") rfl)⟩
  have hx : hex K = true := c.more
  obtain ⟨x0, y0⟩ := He.ba hx
  obtain ⟨x1, y1⟩ := He.ba y0
  have C_MOST_WIDE : Con K mg "MOST_WIDE" (.int 6) := Con.int (He.int_ok X G (cd.fact 54 (f := .int "MOST_WIDE" 6) rfl))
  have C_MOST_HIGH : Con K mg "MOST_HIGH" (.int 5) := Con.int (He.int_ok X G (cd.fact 55 (f := .int "MOST_HIGH" 5) rfl))
  have C_MOVES : Con K mg "MOVES" (.tuple (mvs.map .str)) := Con.dat (n := 4) (He.glo_ok X G (cd.fact 56 (f := .glo "MOVES") rfl)) x0
  have C_MOST_STATES : Con K mg "MOST_STATES" (.int 3) := Con.int (He.int_ok X G (cd.fact 57 (f := .int "MOST_STATES" 3) rfl))
  have C_SIGHTS : Con K mg "SIGHTS" (.int 8) := Con.int (He.int_ok X G (cd.fact 58 (f := .int "SIGHTS" 8) rfl))
  have C_HEADINGS : Con K mg "HEADINGS" (.str "nesw") := Con.str (He.str_ok X G (cd.fact 59 (f := .str "HEADINGS" "nesw") rfl))
  have C_AHEAD : Con K mg "AHEAD" (aheadD) := Con.dat (n := 4) (He.glo_ok X G (cd.fact 60 (f := .glo "AHEAD") rfl)) x1
  have C_TURNS : TabC K w mg "TURNS" turnsL := TabC.of (He.glo_ok X G (cd.fact 61 (f := .glo "TURNS") rfl)) (c.t.tab 0) y1
  have C_MOST_TICKS : Con K mg "MOST_TICKS" (.int 200) := Con.int (He.int_ok X G (cd.fact 62 (f := .int "MOST_TICKS" 200) rfl))
  have b := FunD.bindsA (ps := ["_law_script"]) FL fun _ _ _ _ _ _ us hl => match us, hl with | [_], _ => rfl
  refine ⟨fd, fun s v => b s [v] rfl, fun base _ _ => ?_⟩
  have G_law_deck := ok_law_deck (P := P) (w := w) (base := base) T D_law_deck
  have G_law_pick := ok_law_pick (P := P) (w := w) (base := base) T D_law_pick
  have G_is_within := ok_is_within (P := P) (w := w) (base := base) T D_is_within
  have G_is_row := ok_is_row (P := P) (w := w) (base := base) T C_MOST_WIDE D_is_row
  have G_is_room_value := ok_is_room_value (P := P) (w := w) (base := base) T C_MOST_HIGH G_is_row D_is_room_value
  have G_need_room := ok_need_room (P := P) (w := w) (base := base) T G_is_room_value D_need_room
  have G_is_entry := ok_is_entry (P := P) (w := w) (base := base) T C_MOVES G_is_within D_is_entry
  have G_is_table_value := ok_is_table_value (P := P) (w := w) (base := base) T C_MOST_STATES C_SIGHTS G_is_entry D_is_table_value
  have G_need_table := ok_need_table (P := P) (w := w) (base := base) T G_is_table_value D_need_table
  have G_law_sort := ok_law_sort (P := P) (w := w) (base := base) T D_law_sort
  have G_law_same := ok_law_same (P := P) (w := w) (base := base) T G_law_sort D_law_same
  have G_law_one := ok_law_one (P := P) (w := w) (base := base) T G_law_pick D_law_one
  have G_law_room := ok_law_room (P := P) (w := w) (base := base) T G_law_pick D_law_room
  have G_law_hand := ok_law_hand (P := P) (w := w) (base := base) T G_law_one D_law_hand
  have G_law_table := ok_law_table (P := P) (w := w) (base := base) T G_law_pick G_law_one G_law_hand D_law_table
  have G_is_free := ok_is_free (P := P) (w := w) (base := base) T D_is_free
  have G_turned_to := ok_turned_to (P := P) (w := w) (base := base) T C_HEADINGS D_turned_to
  have G_beside := ok_beside (P := P) (w := w) (base := base) T C_HEADINGS C_AHEAD D_beside
  have G_has_wall := ok_has_wall (P := P) (w := w) (base := base) T G_beside G_is_free D_has_wall
  have G_sight_of := ok_sight_of (P := P) (w := w) (base := base) T G_has_wall G_turned_to D_sight_of
  have G_after := ok_after (P := P) (w := w) (base := base) T C_TURNS G_sight_of G_has_wall G_beside G_turned_to D_after
  have G_need_both := ok_need_both (P := P) (w := w) (base := base) T G_need_room G_need_table D_need_both
  have G_need_start := ok_need_start (P := P) (w := w) (base := base) T C_HEADINGS G_is_within G_is_free D_need_start
  have G_need_ticks := ok_need_ticks (P := P) (w := w) (base := base) T C_MOST_TICKS G_is_within D_need_ticks
  have G_sight := ok_sight (P := P) (w := w) (base := base) T G_need_room G_need_start G_sight_of D_sight
  have G_stands_along := ok_stands_along (P := P) (w := w) (base := base) T G_after D_stands_along
  have G_walk := ok_walk (P := P) (w := w) (base := base) T G_need_both G_need_start G_need_ticks G_stands_along D_walk
  have G_sights := ok_sights (P := P) (w := w) (base := base) T G_walk G_sight_of D_sights
  have G_law_is_open := ok_law_is_open (P := P) (w := w) (base := base) T D_law_is_open
  have G_law_all_free := ok_law_all_free (P := P) (w := w) (base := base) T D_law_all_free
  have G_law_all_starts := ok_law_all_starts (P := P) (w := w) (base := base) T G_law_all_free D_law_all_starts
  have G_law_next_cell := ok_law_next_cell (P := P) (w := w) (base := base) T D_law_next_cell
  have G_law_to := ok_law_to (P := P) (w := w) (base := base) T D_law_to
  have G_law_barred := ok_law_barred (P := P) (w := w) (base := base) T G_law_next_cell G_law_is_open D_law_barred
  have G_law_sees := ok_law_sees (P := P) (w := w) (base := base) T G_law_barred G_law_to D_law_sees
  have G_law_tick := ok_law_tick (P := P) (w := w) (base := base) T G_law_sees G_law_barred G_law_to G_law_next_cell D_law_tick
  exact ok_law (P := P) (w := w) (base := base) T G_law_deck G_law_room G_law_table G_law_one G_law_same G_law_all_starts G_law_sees G_walk G_sights G_law_tick G_sight FL
end WF
open PySem PySem.W PySem.Calls PyProof.Rows
theorem PySem.Challenge.cw_wallfeet_k03_whole_walkers_tick_by_tick_holds : PySem.Challenge.rw_wallfeet_k03_whole_walkers_tick_by_tick.Holds := by
  w_on; o_law
  refine HandSHeadRun.head_any (r := OpenLaw.row PySem.Challenge.rw_wallfeet_k03_whole_walkers_tick_by_tick) (q := view (OpenLaw.row PySem.Challenge.rw_wallfeet_k03_whole_walkers_tick_by_tick).prog [55]) (H := WF.hk) (ob := WF.hob) (M := 3000) (loose := WF.hloose) (d := HandSHeadRun.topDef (OpenLaw.row PySem.Challenge.rw_wallfeet_k03_whole_walkers_tick_by_tick).prog 55) (kwd := []) WF.hob_eq
    (by kernel_rfl) (fun s => by kernel_rfl) WF.hrun (by kernel_rfl) (by kernel_rfl) (by kernel_rfl) (by rfl) (by first | assumption | decide +kernel) (by decide +kernel) ⟨rfl, rfl, rfl, rfl, rfl, by decide +kernel⟩ ?hw ?hc
  case hw => w_witness2
  case hc =>
    refine L2.walk_ofE (l := PySem.Challenge.rw_wallfeet_k03_whole_walkers_tick_by_tick) (n := 63) (k := 8) (x := "_law_script") (CX := L2.CX0) rfl (by decide) (by kernel_rfl) ⟨rfl, by decide, by decide⟩ ?F (fun _ _ _ _ z => z)
    intro w mg fa h Y G hmg0
    obtain ⟨K, KX, c⟩ := Y
    have hmg : mg ("law" : PySem.Str) = some (.ref fa) := by
      have e : (HandSHeadRun.topDef (OpenLaw.row PySem.Challenge.rw_wallfeet_k03_whole_walkers_tick_by_tick).prog 55).name = ("law" : PySem.Str) := by kernel_rfl
      rw [← e]
      exact hmg0
    obtain ⟨fd, hb, hF⟩ := WF.facts (P := (PySem.Challenge.rw_wallfeet_k03_whole_walkers_tick_by_tick).prog) (w := w) KX G hmg c
    exact ⟨K, fd, WF.p_law K, KX, hb, fun H a ns hl _ hS => DL.spF_law hl hS fun s h => h, hF⟩

