import PyProof.Rows.All
import Wide.All
import OpenK.AllK
import Wide.FinOn
import HandS.ForMost
import HandS.TupAny
import HandS.TupMul
import HandS.IsInst
import HandS.Deep
import HandS.Strs
import HandS.CallLocal
import HandS.Flow
import HandS.TryOnly
import PySem.Challenge.RW_gatedpolicy_k47_routes_of_requests
section
set_option Elab.async false
set_option linter.all false
set_option maxRecDepth 100000
set_option maxHeartbeats 4000000
/-! VS, part 1: data in place of addresses. -/
namespace VS
open PySem L2

/-! ### data that stands still: Rp K F v d, v is the datum d in the part F of the heap that is never written -/
def kD : Key → PyData
  | .inl i => .int i
  | .inr x => .str x
mutual
inductive Rp (K : PySem.W.Frag) (F : Hp) : V → PyData → Prop
  | non : Rp K F .non .none
  | bl (b : Bool) : Rp K F (.bl b) (.bool b)
  | int (i : Int) : Rp K F (.int i) (.int i)
  | str (x : Str) : PyData.strOk x = true → x.length ≤ sizeLine → Rp K F (.str x) (.str x)
  | lst {a : Addr} {xs : List V} {ds : List PyData} : F a = some (.lst xs) → xs.length ≤ sizeLine → RpAll K F xs ds → Rp K F (.ref a) (.list ds)
  | tup {a : Addr} {xs : List V} {ds : List PyData} : SqT K F a xs → xs.length ≤ sizeLine → RpAll K F xs ds → Rp K F (.ref a) (.tuple ds)
  | dct {a : Addr} {kvs : List (Key × V)} {es : List (PyData × PyData)} : Rd F a (.dK kvs) → kvs.length ≤ sizeLine → RpKV K F kvs es → Rp K F (.ref a) (.dict es)
inductive RpAll (K : PySem.W.Frag) (F : Hp) : List V → List PyData → Prop
  | nil : RpAll K F [] []
  | cons {v : V} {vs : List V} {d : PyData} {ds : List PyData} : Rp K F v d → RpAll K F vs ds → RpAll K F (v :: vs) (d :: ds)
inductive RpKV (K : PySem.W.Frag) (F : Hp) : List (Key × V) → List (PyData × PyData) → Prop
  | nil : RpKV K F [] []
  | cons {k : Key} {v : V} {vs : List (Key × V)} {d : PyData} {ds : List (PyData × PyData)} : Rp K F v d → RpKV K F vs ds → RpKV K F ((k, v) :: vs) ((kD k, d) :: ds)
end

theorem Rd.same {F H : Hp} {a : Addr} {u : HO} (s : Same F H) (h : Rd F a u) : Rd H a u := by
  rcases h with h | ⟨o, h⟩
  · exact .inl (s _ _ h)
  · exact .inr ⟨o, s _ _ h⟩
theorem SqL.same {K : PySem.W.Frag} {F H : Hp} {a : Addr} {xs : List V} (s : Same F H) (h : SqL K F a xs) : SqL K H a xs := by
  rcases h with h | h
  · exact .inl (Rd.same s h)
  · exact .inr h
theorem SqT.same {K : PySem.W.Frag} {F H : Hp} {a : Addr} {xs : List V} (s : Same F H) (h : SqT K F a xs) : SqT K H a xs := by
  rcases h with h | h
  · exact .inl (Rd.same s h)
  · exact .inr h

section
variable {K : PySem.W.Frag} {F H : Hp}
mutual
theorem Rp.same (s : Same F H) : ∀ (d : PyData) (v : V), Rp K F v d → Rp K H v d
  | .none, _, h => by cases h; exact .non
  | .bool _, _, h => by cases h; exact .bl _
  | .int _, _, h => by cases h; exact .int _
  | .str _, _, h => by cases h with | str _ e l => exact .str _ e l
  | .list ds, _, h => by cases h with | lst a l b => exact .lst (s _ _ a) l (RpAll.same s ds _ b)
  | .tuple ds, _, h => by cases h with | tup a l b => exact .tup (SqT.same s a) l (RpAll.same s ds _ b)
  | .dict es, _, h => by cases h with | dct a l b => exact .dct (Rd.same s a) l (RpKV.same s es _ b)
theorem RpAll.same (s : Same F H) : ∀ (ds : List PyData) (vs : List V), RpAll K F vs ds → RpAll K H vs ds
  | [], _, h => by cases h; exact .nil
  | d :: ds, _, h => by cases h with | cons a b => exact .cons (Rp.same s d _ a) (RpAll.same s ds _ b)
theorem RpKV.same (s : Same F H) : ∀ (ds : List (PyData × PyData)) (vs : List (Key × V)), RpKV K F vs ds → RpKV K H vs ds
  | [], _, h => by cases h; exact .nil
  | d :: ds, _, h => by cases h with | cons a b => exact .cons (Rp.same s _ _ a) (RpKV.same s ds _ b)
end
end
theorem Rp.mono {K : PySem.W.Frag} {F H : Hp} {v : V} {d : PyData} (s : Same F H) (h : Rp K F v d) : Rp K H v d := Rp.same s d v h
theorem RpAll.mono {K : PySem.W.Frag} {F H : Hp} {v : List V} {d : List PyData} (s : Same F H) (h : RpAll K F v d) : RpAll K H v d := RpAll.same s d v h
theorem RpKV.mono {K : PySem.W.Frag} {F H : Hp} {v : List (Key × V)} {d : List (PyData × PyData)} (s : Same F H) (h : RpKV K F v d) : RpKV K H v d := RpKV.same s d v h

theorem RpAll.length {K : PySem.W.Frag} {F : Hp} : ∀ {vs : List V} {ds : List PyData}, RpAll K F vs ds → vs.length = ds.length
  | _, _, .nil => rfl
  | _, _, .cons _ t => by simp [RpAll.length t]
theorem RpAll.get {K : PySem.W.Frag} {F : Hp} : ∀ {vs : List V} {ds : List PyData} {i : Nat} {d : PyData}, RpAll K F vs ds → ds[i]? = some d → ∃ v, vs[i]? = some v ∧ Rp K F v d
  | _, _, _, _, .nil, e => by simp at e
  | _, _, 0, _, .cons r _, e => by simp at e; subst e; exact ⟨_, rfl, r⟩
  | _, _, i + 1, _, .cons _ t, e => by
    obtain ⟨v, h1, h2⟩ := RpAll.get (i := i) t (by simpa using e)
    exact ⟨v, by simpa using h1, h2⟩
theorem RpAll.getV {K : PySem.W.Frag} {F : Hp} : ∀ {vs : List V} {ds : List PyData} {i : Nat} {v : V}, RpAll K F vs ds → vs[i]? = some v → ∃ d, ds[i]? = some d ∧ Rp K F v d
  | _, _, _, _, .nil, e => by simp at e
  | _, _, 0, _, .cons r _, e => by simp at e; subst e; exact ⟨_, rfl, r⟩
  | _, _, i + 1, _, .cons _ t, e => by
    obtain ⟨v, h1, h2⟩ := RpAll.getV (i := i) t (by simpa using e)
    exact ⟨v, by simpa using h1, h2⟩
theorem RpAll.append {K : PySem.W.Frag} {F : Hp} : ∀ {vs ws : List V} {ds es : List PyData}, RpAll K F vs ds → RpAll K F ws es → RpAll K F (vs ++ ws) (ds ++ es)
  | _, _, _, _, .nil, s => s
  | _, _, _, _, .cons r t, s => .cons r (RpAll.append t s)
theorem RpAll.take {K : PySem.W.Frag} {F : Hp} : ∀ {vs : List V} {ds : List PyData} (n : Nat), RpAll K F vs ds → RpAll K F (vs.take n) (ds.take n)
  | _, _, 0, _ => .nil
  | _, _, _ + 1, .nil => .nil
  | _, _, n + 1, .cons r t => .cons r (RpAll.take n t)
theorem RpAll.drop {K : PySem.W.Frag} {F : Hp} : ∀ {vs : List V} {ds : List PyData} (n : Nat), RpAll K F vs ds → RpAll K F (vs.drop n) (ds.drop n)
  | _, _, 0, r => r
  | _, _, _ + 1, .nil => .nil
  | _, _, n + 1, .cons _ t => RpAll.drop n t
theorem RpAll.set {K : PySem.W.Frag} {F : Hp} {v : V} {d : PyData} (r : Rp K F v d) : ∀ {vs : List V} {ds : List PyData} (i : Nat), RpAll K F vs ds → RpAll K F (vs.set i v) (ds.set i d)
  | _, _, _, .nil => .nil
  | _, _, 0, .cons _ t => .cons r t
  | _, _, i + 1, .cons q t => .cons q (RpAll.set r i t)

/-! ### what == wants -/
mutual
def noDict : PyData → Bool
  | .none | .bool _ | .int _ | .str _ => true
  | .list xs | .tuple xs => noDictAll xs
  | .dict _ => false
def noDictAll : List PyData → Bool
  | [] => true
  | x :: xs => noDict x && noDictAll xs
end
def eqOk (d : PyData) : Bool := noDict d && decide (d.depth ≤ 64)
section
variable {K : PySem.W.Frag} {F : Hp}
mutual
theorem Rp.lay : ∀ (d : PyData) (v : V), Rp K F v d → noDict d = true → d.canLay0 = true
  | .none, _, _, _ => rfl
  | .bool _, _, _, _ => rfl
  | .int _, _, _, _ => rfl
  | .str _, _, h, _ => by cases h with | str _ e l => exact e
  | .list ds, _, h, n => by cases h with | lst a l b => exact RpAll.lay ds _ b n
  | .tuple ds, _, h, n => by cases h with | tup a l b => exact RpAll.lay ds _ b n
  | .dict _, _, _, n => by cases n
theorem RpAll.lay : ∀ (ds : List PyData) (vs : List V), RpAll K F vs ds → noDictAll ds = true → PyData.canLayAll0 ds = true
  | [], _, _, _ => rfl
  | d :: ds, _, h, n => by
    cases h with
    | cons a b =>
      have n' : (noDict d && noDictAll ds) = true := n
      rw [Bool.and_eq_true] at n'
      show (PyData.canLay0 d && PyData.canLayAll0 ds) = true
      rw [Rp.lay d _ a n'.1, RpAll.lay ds _ b n'.2]; rfl
end
mutual
theorem Rp.dp : ∀ (d : PyData) (v : V), Rp K F v d → noDict d = true → Dp K F v d
  | .none, _, h, _ => by cases h; exact .non
  | .bool _, _, h, _ => by cases h; exact .bl _
  | .int _, _, h, _ => by cases h; exact .int _
  | .str _, _, h, _ => by cases h; exact .str _
  | .list ds, _, h, n => by cases h with | lst a l b => exact .lst (SqL.of a) (RpAll.dp ds _ b n)
  | .tuple ds, _, h, n => by cases h with | tup a l b => exact .tup a (RpAll.dp ds _ b n)
  | .dict _, _, _, n => by cases n
theorem RpAll.dp : ∀ (ds : List PyData) (vs : List V), RpAll K F vs ds → noDictAll ds = true → DpAll K F vs ds
  | [], _, h, _ => by cases h; exact .nil
  | d :: ds, _, h, n => by
    cases h with
    | cons a b =>
      have n' : (noDict d && noDictAll ds) = true := n
      rw [Bool.and_eq_true] at n'
      exact .cons (Rp.dp d _ a n'.1) (RpAll.dp ds _ b n'.2)
end
theorem Rp.shaped {d : PyData} {v : V} (h : Rp K F v d) (n : eqOk d = true) : SeqAt.shaped d = true := by
  unfold eqOk at n
  rw [Bool.and_eq_true] at n
  show (PyData.canLay0 d && decide (d.depth ≤ 64)) = true
  rw [Rp.lay d v h n.1, n.2]; rfl
theorem eqOk.nd {d : PyData} (n : eqOk d = true) : noDict d = true := by
  unfold eqOk at n
  rw [Bool.and_eq_true] at n
  exact n.1
end

/-! ### the part of the heap that is written: DH -/
/-- a datum, or a raw value (an object that is written, a def, a class) -/
inductive DV where
  | d (x : PyData) | w (v : V)
inductive DO where
  | lst (xs : List DV)
  | ins (C dx : Addr) (fs : List (Str × DV))
  | dK (kvs : List (Key × DV))
  /-- the script: ints, locked, never written -/
  | scr (ns : List Int)
  /-- a list of which something is known -/
  | ok (φ : List DV → Prop)
abbrev DH := Addr → Option DO
def updM (M : DH) (a : Addr) (o : DO) : DH := fun b => if b = a then some o else M b
theorem updM_same {M : DH} {a : Addr} {o : DO} : updM M a o a = some o := by unfold updM; rw [if_pos rfl]
theorem updM_ne {M : DH} {a b : Addr} {o : DO} (h : b ≠ a) : updM M a o b = M b := by unfold updM; rw [if_neg h]
theorem updM_updM {M : DH} {a : Addr} {o u : DO} : updM (updM M a o) a u = updM M a u := by
  funext b; unfold updM; split <;> rfl
theorem ne_ofM {M : DH} {a b : Addr} {o : DO} (h : M a = some o) (h' : M b = none) : a ≠ b := by
  intro e; subst e; rw [h] at h'; cases h'

def RV (K : PySem.W.Frag) (F : Hp) (v : V) : DV → Prop
  | .d x => Rp K F v x
  | .w u => v = u
theorem RV.mono {K : PySem.W.Frag} {F H : Hp} {v : V} {x : DV} (s : Same F H) (h : RV K F v x) : RV K H v x := by
  cases x with
  | d x => exact Rp.mono s h
  | w u => exact h
abbrev RVs (K : PySem.W.Frag) (F : Hp) : List V → List DV → Prop := Paired (RV K F)
theorem RVs.mono {K : PySem.W.Frag} {F H : Hp} (s : Same F H) : ∀ {vs : List V} {xs : List DV}, RVs K F vs xs → RVs K H vs xs
  | _, _, .nil => .nil
  | _, _, .cons r t => .cons (RV.mono s r) (RVs.mono s t)
def RO (K : PySem.W.Frag) (F : Hp) : HO → DO → Prop
  | .lst vs, .lst xs => vs.length ≤ sizeLine ∧ RVs K F vs xs
  | .ins C dx fs, .ins C' dx' gs => C = C' ∧ dx = dx' ∧ Paired (fun (p : Str × V) (q : Str × DV) => p.1 = q.1 ∧ RV K F p.2 q.2) fs gs
  | .dK kvs, .dK es => kvs.length ≤ sizeLine ∧ Paired (fun (p : Key × V) (q : Key × DV) => p.1 = q.1 ∧ RV K F p.2 q.2) kvs es
  | .lst vs, .ok φ => vs.length ≤ sizeLine ∧ ∃ xs, φ xs ∧ RVs K F vs xs
  | .frz _ (.lst vs), .scr ns => vs.length ≤ sizeLine ∧ vs = ns.map V.int
  | _, _ => False
theorem RO.mono {K : PySem.W.Frag} {F H : Hp} {o : HO} {u : DO} (s : Same F H) (h : RO K F o u) : RO K H o u := by
  cases o with
  | frz o' u' => cases u' <;> cases u <;> first | exact h.elim | exact h
  | lst vs =>
    cases u <;> first | exact h.elim | exact ⟨h.1, RVs.mono s h.2⟩ | exact ⟨h.1, let ⟨xs, a, b⟩ := h.2; ⟨xs, a, RVs.mono s b⟩⟩
  | dK vs =>
    cases u <;> first | exact h.elim | exact ⟨h.1, Paired.mapP h.2 fun p q z => ⟨z.1, RV.mono s z.2⟩⟩
  | ins C dx fs =>
    cases u <;> first | exact h.elim | exact ⟨h.1, h.2.1, Paired.mapP h.2.2 fun p q z => ⟨z.1, RV.mono s z.2⟩⟩
  | _ => cases u <;> exact h.elim

/-- the heap H: F stands still, M is what is written -/
structure SR (K : PySem.W.Frag) (H F : Hp) (M : DH) : Prop where
  sub : Same F H
  own : ∀ a o, M a = some o → F a = none ∧ ∃ u, H a = some u ∧ RO K F u o
section
variable {K : PySem.W.Frag} {H F : Hp} {M : DH} {a p : Addr}
theorem SR.free (s : SR K H F M) (h : H p = none) : F p = none ∧ M p = none := by
  refine ⟨s.sub.free h, ?_⟩
  cases e : M p with
  | none => rfl
  | some o =>
    obtain ⟨_, u, q, _⟩ := s.own p o e
    rw [h] at q; cases q
/-- a new object that will stand still -/
theorem SR.newF (s : SR K H F M) (h : H p = none) (o : HO) : Same F (upd F p o) ∧ SR K (upd H p o) (upd F p o) M := by
  obtain ⟨f1, f2⟩ := s.free h
  have sf : Same F (upd F p o) := fun b u e => by rw [upd_ne (ne_of_none e f1)]; exact e
  refine ⟨sf, fun b u e => ?_, fun b u e => ?_⟩
  · by_cases hb : b = p
    · subst hb; rw [upd_same] at e ⊢; exact e
    · rw [upd_ne hb] at e ⊢; exact s.sub _ _ e
  · have hb : b ≠ p := ne_ofM e f2
    obtain ⟨g1, w, g2, g3⟩ := s.own b u e
    exact ⟨by rw [upd_ne hb]; exact g1, w, by rw [upd_ne hb]; exact g2, RO.mono sf g3⟩
/-- a new object that will be written -/
theorem SR.newM (s : SR K H F M) (h : H p = none) {o : HO} {u : DO} (r : RO K F o u) : SR K (upd H p o) F (updM M p u) := by
  obtain ⟨f1, f2⟩ := s.free h
  refine ⟨fun b w e => ?_, fun b w e => ?_⟩
  · rw [upd_ne (ne_of_none e f1)]; exact s.sub _ _ e
  · by_cases hb : b = p
    · subst hb; rw [updM_same] at e; cases e; exact ⟨f1, o, upd_same, r⟩
    · rw [updM_ne hb] at e
      obtain ⟨g1, x, g2, g3⟩ := s.own b w e
      exact ⟨g1, x, by rw [upd_ne hb]; exact g2, g3⟩
/-- an object that is written -/
theorem SR.put (s : SR K H F M) {v : DO} (h : M p = some v) {o : HO} {u : DO} (r : RO K F o u) : SR K (upd H p o) F (updM M p u) := by
  obtain ⟨f1, _⟩ := s.own p v h
  refine ⟨fun b w e => ?_, fun b w e => ?_⟩
  · rw [upd_ne (ne_of_none e f1)]; exact s.sub _ _ e
  · by_cases hb : b = p
    · subst hb; rw [updM_same] at e; cases e; exact ⟨f1, o, upd_same, r⟩
    · rw [updM_ne hb] at e
      obtain ⟨g1, x, g2, g3⟩ := s.own b w e
      exact ⟨g1, x, by rw [upd_ne hb]; exact g2, g3⟩
/-- the heap got a new untracked object -/
theorem SR.newH (s : SR K H F M) (h : H p = none) (o : HO) : SR K (upd H p o) F M := by
  obtain ⟨f1, f2⟩ := s.free h
  refine ⟨fun b w e => ?_, fun b w e => ?_⟩
  · rw [upd_ne (ne_of_none e f1)]; exact s.sub _ _ e
  · obtain ⟨g1, x, g2, g3⟩ := s.own b w e
    exact ⟨g1, x, by rw [upd_ne (ne_ofM e f2)]; exact g2, g3⟩
/-- a list of which something is known, opened and shut -/
theorem SR.opened (s : SR K H F M) {φ : List DV → Prop} (h : M p = some (.ok φ)) : ∃ xs, φ xs ∧ SR K H F (updM M p (.lst xs)) := by
  obtain ⟨f1, u, h1, r⟩ := s.own p _ h
  cases u with
  | lst vs =>
    obtain ⟨l, xs, q, rv⟩ := r
    refine ⟨xs, q, s.sub, fun b o e => ?_⟩
    by_cases hb : b = p
    · subst hb; rw [updM_same] at e; cases e; exact ⟨f1, _, h1, l, rv⟩
    · rw [updM_ne hb] at e; exact s.own b o e
  | frz o u => cases u <;> exact r.elim
  | _ => exact r.elim
theorem SR.shut {xs : List DV} (s : SR K H F M) (e : M p = some (.lst xs)) {φ : List DV → Prop} (q : φ xs) : SR K H F (updM M p (.ok φ)) := by
  refine ⟨s.sub, fun b o e' => ?_⟩
  by_cases hb : b = p
  · subst hb
    rw [updM_same] at e'; cases e'
    obtain ⟨f1, u, h1, r⟩ := s.own b _ e
    refine ⟨f1, u, h1, ?_⟩
    cases u with
    | lst vs => exact ⟨r.1, xs, q, r.2⟩
    | frz o u => cases u <;> exact r.elim
    | _ => exact r.elim
  · rw [updM_ne hb] at e'; exact s.own b o e'
/-- less is known -/
theorem SR.less {M' : DH} (s : SR K H F M) (h : ∀ a o, M' a = some o → M a = some o) : SR K H F M' := ⟨s.sub, fun a o e => s.own a o (h a o e)⟩
/-- back to less that stands still -/
theorem SR.back {F' : Hp} {M' : DH} (s : SR K H F' M') (f : Same F F') (h : ∀ a o, M a = some o → F a = none ∧ ∃ u, H a = some u ∧ RO K F u o) : SR K H F M := ⟨f.trans s.sub, h⟩
end

/-! ### slots -/
abbrev Ds := List (Option DV)
structure SL (K : PySem.W.Frag) (F : Hp) (σ : St) (τ : Ds) : Prop where
  len : σ.length = τ.length
  at_ : ∀ (i : Nat) (x : DV), τ[i]? = some (some x) → ∃ v, σ[i]? = some (some v) ∧ RV K F v x
theorem SL.mono {K : PySem.W.Frag} {F H : Hp} {σ : St} {τ : Ds} (s : Same F H) (h : SL K F σ τ) : SL K H σ τ :=
  ⟨h.len, fun i x e => let ⟨v, a, b⟩ := h.at_ i x e; ⟨v, a, RV.mono s b⟩⟩
def slot : Ds → Nat → Option DV
  | [], _ => none
  | a :: _, 0 => a
  | _ :: r, i + 1 => slot r i
def setS : Ds → Nat → DV → Ds
  | [], _, _ => []
  | _ :: r, 0, x => some x :: r
  | a :: r, i + 1, x => a :: setS r i x
def wipeS : Ds → List Nat → Ds
  | τ, [] => τ
  | τ, v :: vs => noneS (wipeS τ vs) v
where noneS : Ds → Nat → Ds
  | [], _ => []
  | _ :: r, 0 => none :: r
  | a :: r, i + 1 => a :: noneS r i
theorem slot_get : ∀ {τ : Ds} {i : Nat} {x : DV}, slot τ i = some x → τ[i]? = some (some x)
  | [], _, _, h => by cases h
  | a :: _, 0, _, h => by simp only [slot] at h; simp [h]
  | _ :: r, i + 1, x, h => by simpa using slot_get (τ := r) h
theorem setS_eq : ∀ (τ : Ds) (i : Nat) (x : DV), setS τ i x = τ.set i (some x)
  | [], _, _ => rfl
  | _ :: _, 0, _ => rfl
  | a :: r, i + 1, x => by simp [setS, setS_eq r i x]
theorem noneS_eq : ∀ (τ : Ds) (i : Nat), wipeS.noneS τ i = τ.set i none
  | [], _ => rfl
  | _ :: _, 0 => rfl
  | a :: r, i + 1 => by simp [wipeS.noneS, noneS_eq r i]
theorem SL.set {K : PySem.W.Frag} {F : Hp} {σ : St} {τ : Ds} {v : V} {x : DV} (h : SL K F σ τ) (r : RV K F v x) (i : Nat) : SL K F (σ.set i (some v)) (setS τ i x) := by
  rw [setS_eq]
  refine ⟨by simp [h.len], fun j y e => ?_⟩
  by_cases hj : i = j
  · subst hj
    by_cases hl : i < τ.length
    · rw [List.getElem?_set_self hl] at e
      cases e
      exact ⟨v, by rw [List.getElem?_set_self (by rw [h.len]; exact hl)], r⟩
    · rw [List.getElem?_eq_none (by simpa using hl)] at e; cases e
  · rw [List.getElem?_set_ne hj] at e
    obtain ⟨w, a, b⟩ := h.at_ j y e
    exact ⟨w, by rw [List.getElem?_set_ne hj]; exact a, b⟩
theorem SL.none1 {K : PySem.W.Frag} {F : Hp} {σ : St} {τ : Ds} (h : SL K F σ τ) (i : Nat) : SL K F (σ.set i none) (wipeS.noneS τ i) := by
  rw [noneS_eq]
  refine ⟨by simp [h.len], fun j y e => ?_⟩
  by_cases hj : i = j
  · subst hj
    by_cases hl : i < τ.length
    · rw [List.getElem?_set_self hl] at e
      cases e
    · rw [List.getElem?_eq_none (by simpa using hl)] at e; cases e
  · rw [List.getElem?_set_ne hj] at e
    obtain ⟨w, a, b⟩ := h.at_ j y e
    exact ⟨w, by rw [List.getElem?_set_ne hj]; exact a, b⟩
theorem SL.wipe {K : PySem.W.Frag} {F : Hp} {σ : St} {τ : Ds} (h : SL K F σ τ) : ∀ vs : List Nat, SL K F (wipe σ vs) (wipeS τ vs)
  | [] => h
  | v :: vs => by
    unfold L2.wipe wipeS
    exact (SL.wipe h vs).none1 v

/-! ### judgements -/
abbrev DQ := DV → DH → Prop
abbrev DE := Ds → DH → DQ → Prop
abbrev DT := Ds → DH → (Bool → DH → Prop) → Prop
abbrev DA := Ds → DH → (List DV → DH → Prop) → Prop
def Up (K : PySem.W.Frag) (F : Hp) (Q : DQ) (Q' : VK) : Prop := ∀ x M v H' F', Q x M → Same F F' → SR K H' F' M → RV K F' v x → Q' v H'
def UpT (K : PySem.W.Frag) (F : Hp) (Q : Bool → DH → Prop) (Q' : Bool → Hp → Prop) : Prop := ∀ b M H' F', Q b M → Same F F' → SR K H' F' M → Q' b H'
def UpA (K : PySem.W.Frag) (F : Hp) (n : Nat) (Q : List DV → DH → Prop) (Q' : List V → Hp → Prop) : Prop := ∀ xs M vs H' F', xs.length = n → Q xs M → Same F F' → SR K H' F' M → RVs K F' vs xs → Q' vs H'
def upE (K : PySem.W.Frag) (t : DE) : TE := fun σ H Q' => ∃ F τ M Q, SR K H F M ∧ SL K F σ τ ∧ t τ M Q ∧ Up K F Q Q'
def upT (K : PySem.W.Frag) (t : DT) : TT := fun σ H Q' => ∃ F τ M Q, SR K H F M ∧ SL K F σ τ ∧ t τ M Q ∧ UpT K F Q Q'
def upA (K : PySem.W.Frag) (n : Nat) (t : DA) : TA := fun σ H Q' => ∃ F τ M Q, SR K H F M ∧ SL K F σ τ ∧ t τ M Q ∧ UpA K F n Q Q'
def VE (X : Cx) (e : Expr) (t : DE) : Prop := PE X e (upE X.K t)
def VT (X : Cx) (e : Expr) (t : DT) : Prop := PT X e (upT X.K t)
def VW (X : Cx) (e : Expr) (t : DT) : Prop := PW X e (upT X.K t)
def VA (X : Cx) (es : List Expr) (t : DA) : Prop := PA X es (upA X.K es.length t)
theorem Up.later {K : PySem.W.Frag} {F F' : Hp} {Q : DQ} {Q' : VK} (h : Up K F Q Q') (s : Same F F') : Up K F' Q Q' := fun x M v H1 F1 q s1 => h x M v H1 F1 q (s.trans s1)
theorem UpT.later {K : PySem.W.Frag} {F F' : Hp} {Q : Bool → DH → Prop} {Q' : Bool → Hp → Prop} (h : UpT K F Q Q') (s : Same F F') : UpT K F' Q Q' := fun x M H1 F1 q s1 => h x M H1 F1 q (s.trans s1)
theorem UpA.later {K : PySem.W.Frag} {F F' : Hp} {n : Nat} {Q : List DV → DH → Prop} {Q' : List V → Hp → Prop} (h : UpA K F n Q Q') (s : Same F F') : UpA K F' n Q Q' := fun x M v H1 F1 n q s1 => h x M v H1 F1 n q (s.trans s1)
theorem Up.now {K : PySem.W.Frag} {H F : Hp} {M : DH} {Q : DQ} {Q' : VK} {x : DV} {v : V} (h : Up K F Q Q') (q : Q x M) (s : SR K H F M) (r : RV K F v x) : Q' v H := h x M v H F q (Same.refl _) s r
theorem PE.imp {X : Cx} {e : Expr} {t t' : TE} (h : PE X e t) (i : ∀ σ H Q, t' σ H Q → t σ H Q) : PE X e t' := ⟨fun pins s σ H Q I q => h.run pins s σ H Q I (i σ H Q q)⟩
theorem PT.imp {X : Cx} {e : Expr} {t t' : TT} (h : PT X e t) (i : ∀ σ H Q, t' σ H Q → t σ H Q) : PT X e t' := ⟨fun pins s σ H Q I q => h.run pins s σ H Q I (i σ H Q q)⟩
theorem PW.imp {X : Cx} {e : Expr} {t t' : TT} (h : PW X e t) (i : ∀ σ H Q, t' σ H Q → t σ H Q) : PW X e t' := ⟨fun wh pins s σ H Q I q => h.run wh pins s σ H Q I (i σ H Q q)⟩
theorem PA.imp {X : Cx} {e : List Expr} {t t' : TA} (h : PA X e t) (i : ∀ σ H Q, t' σ H Q → t σ H Q) : PA X e t' := ⟨fun ps pins s σ H Q I q => h.run ps pins s σ H Q I (i σ H Q q)⟩

section
variable {X : Cx} {e a b c : Expr} {ta tb tc : DE} {pos : Pos}
theorem VE.mk {t0 : TE} {t : DE} (h : PE X e t0) (i : ∀ σ H F τ M Q Q', SR X.K H F M → SL X.K F σ τ → t τ M Q → Up X.K F Q Q' → t0 σ H Q') : VE X e t :=
  PE.imp h fun σ H Q' ⟨F, τ, M, Q, s, l, q, u⟩ => i σ H F τ M Q Q' s l q u
theorem VT.mk {t0 : TT} {t : DT} (h : PT X e t0) (i : ∀ σ H F τ M Q Q', SR X.K H F M → SL X.K F σ τ → t τ M Q → UpT X.K F Q Q' → t0 σ H Q') : VT X e t :=
  PT.imp h fun σ H Q' ⟨F, τ, M, Q, s, l, q, u⟩ => i σ H F τ M Q Q' s l q u
theorem VW.mk {t0 : TT} {t : DT} (h : PW X e t0) (i : ∀ σ H F τ M Q Q', SR X.K H F M → SL X.K F σ τ → t τ M Q → UpT X.K F Q Q' → t0 σ H Q') : VW X e t :=
  PW.imp h fun σ H Q' ⟨F, τ, M, Q, s, l, q, u⟩ => i σ H F τ M Q Q' s l q u

/-! ### names and constants -/
def gotV (o : Option DV) (M : DH) (Q : DQ) : Prop := match o with
  | some x => Q x M
  | none => False
def dVar (i : Nat) : DE := fun τ M Q => gotV (slot τ i) M Q
def dC (x : PyData) : DE := fun _ M Q => Q (.d x) M
def dW (v : V) : DE := fun _ M Q => Q (.w v) M
theorem ve_var {i : Nat} {x : Str} (h : PE X (.Name x pos) (tVar i)) : VE X (.Name x pos) (dVar i) := by
  refine VE.mk h fun σ H F τ M Q Q' s l q u => ?_
  unfold dVar gotV at q
  cases e : slot τ i with
  | none => rw [e] at q; exact q.elim
  | some y =>
    rw [e] at q
    obtain ⟨v, e1, r⟩ := l.at_ i y (slot_get e)
    exact ⟨v, e1, u.now q s r⟩
theorem vv (i : Nat) {x : Str} (hN : X.N[i]? = some x := by rfl) (hv : Vis X.env.scope x := by first | exact Or.inl rfl | exact Or.inr (Or.inl rfl) | exact Or.inr (Or.inr rfl)) (hd : (x == ("__debug__" : Str)) = false := by decide)
    (hcd : (x == ("__classdict__" : Str)) = false := by decide) : VE X (.Name x pos) (dVar i) := ve_var (pe_var hN hv hd hcd)
theorem ve_const {v : V} {x : PyData} (h : PE X e (tC v)) (r : ∀ F, Rp X.K F v x) : VE X e (dC x) :=
  VE.mk h fun σ H F τ M Q Q' s l q u => u.now (x := .d x) q s (r F)
theorem ve_int {i : Int} {j : Nat} {pos : Pos} : VE X (.Constant (.int i) j pos) (dC (.int i)) := ve_const pe_int fun _ => .int _
theorem ve_bl {i : Bool} {j : Nat} {pos : Pos} : VE X (.Constant (.bool i) j pos) (dC (.bool i)) := ve_const pe_bl fun _ => .bl _
theorem ve_non {j : Nat} {pos : Pos} : VE X (.Constant .none j pos) (dC .none) := ve_const pe_non fun _ => .non
theorem ve_str {x : Str} {j : Nat} {pos : Pos} (h : PyData.strOk x = true := by decide +kernel) (hl : x.length ≤ sizeLine := by decide +kernel) : VE X (.Constant (.str x) j pos) (dC (.str x)) := ve_const pe_str fun _ => .str _ h hl
theorem ve_raw {v : V} (h : PE X e (tC v)) : VE X e (dW v) := VE.mk h fun σ H F τ M Q Q' s l q u => u.now (x := .w v) q s rfl

/-! ### operators by values -/
abbrev D2 := DV → DV → DH → DQ → Prop
abbrev D1 := DV → DH → DQ → Prop
def upR2 (K : PySem.W.Frag) (r : D2) : R2 := fun v w H Q' => ∃ F M x y Q, SR K H F M ∧ RV K F v x ∧ RV K F w y ∧ r x y M Q ∧ Up K F Q Q'
def upR1 (K : PySem.W.Frag) (r : D1) : V → Hp → VK → Prop := fun v H Q' => ∃ F M x Q, SR K H F M ∧ RV K F v x ∧ r x M Q ∧ Up K F Q Q'
def VO (X : Cx) (f : Value → Value → Sem Value) (r : D2) : Prop := OpR X f (upR2 X.K r)
def dOp (r : D2) (ta tb : DE) : DE := fun τ M Q => ta τ M fun x M1 => tb τ M1 fun y M2 => r x y M2 Q
theorem up_tOp {r : D2} {σ : St} {H F : Hp} {τ : Ds} {M : DH} {Q : DQ} {Q' : VK} (s : SR X.K H F M) (l : SL X.K F σ τ) (q : dOp r ta tb τ M Q) (u : Up X.K F Q Q') : tOp (upR2 X.K r) (upE X.K ta) (upE X.K tb) σ H Q' := by
  refine ⟨F, τ, M, _, s, l, q, fun x M1 v H1 F1 q1 s1 r1 rv => ?_⟩
  refine ⟨F1, τ, M1, _, r1, l.mono s1, q1, fun y M2 w H2 F2 q2 s2 r2 rw' => ?_⟩
  exact ⟨F2, M2, x, y, Q, r2, RV.mono s2 rv, rw', q2, u.later (s1.trans s2)⟩
theorem ve_op {op : Operator} {r : D2} (ho : VO X (binaryOp op) r) (ha : VE X a ta) (hb : VE X b tb) : VE X (.BinOp a op b pos) (dOp r ta tb) :=
  VE.mk (pe_op ho ha hb) fun σ H F τ M Q Q' s l q u => up_tOp s l q u
theorem ve_cmp {op : CmpOp} {r : D2} (ho : VO X (compareOp op) r) (ha : VE X a ta) (hb : VE X b tb) (h1 : behindInMarks op b = false) : VE X (.Compare a [op] [b] pos) (dOp r ta tb) :=
  VE.mk (pe_cmpR ho ha hb h1) fun σ H F τ M Q Q' s l q u => up_tOp s l q u

end
end VS

end

section
set_option Elab.async false
set_option linter.all false
set_option maxRecDepth 100000
set_option maxHeartbeats 4000000
/-! VS, part 2: operators, tests, calls of what is built in, displays, subscripts. -/
namespace VS
open PySem L2

theorem RpAll.rvs {K : PySem.W.Frag} {F : Hp} : ∀ {vs : List V} {ds : List PyData}, RpAll K F vs ds → RVs K F vs (ds.map .d)
  | _, _, .nil => .nil
  | _, _, .cons r t => .cons r (RpAll.rvs t)
theorem rvs_all {K : PySem.W.Frag} {F : Hp} : ∀ {vs : List V} {ds : List PyData}, RVs K F vs (ds.map .d) → RpAll K F vs ds
  | _, [], .nil => .nil
  | _, _ :: _, .cons r t => .cons r (rvs_all t)
theorem RVs.length {K : PySem.W.Frag} {F : Hp} {vs : List V} {xs : List DV} (h : RVs K F vs xs) : vs.length = xs.length := Paired.length h
theorem RVs.get {K : PySem.W.Frag} {F : Hp} : ∀ {vs : List V} {xs : List DV} {i : Nat} {x : DV}, RVs K F vs xs → xs[i]? = some x → ∃ v, vs[i]? = some v ∧ RV K F v x
  | _, _, _, _, .nil, e => by simp at e
  | _, _, 0, _, .cons r _, e => by simp at e; subst e; exact ⟨_, rfl, r⟩
  | _, _, i + 1, _, .cons _ t, e => by
    obtain ⟨v, h1, h2⟩ := RVs.get (i := i) t (by simpa using e)
    exact ⟨v, by simpa using h1, h2⟩
theorem RVs.set {K : PySem.W.Frag} {F : Hp} {v : V} {x : DV} (r : RV K F v x) : ∀ {vs : List V} {xs : List DV} (i : Nat), RVs K F vs xs → RVs K F (vs.set i v) (xs.set i x)
  | _, _, _, .nil => .nil
  | _, _, 0, .cons _ t => .cons r t
  | _, _, i + 1, .cons q t => .cons q (RVs.set r i t)
theorem RVs.append {K : PySem.W.Frag} {F : Hp} : ∀ {vs ws : List V} {xs ys : List DV}, RVs K F vs xs → RVs K F ws ys → RVs K F (vs ++ ws) (xs ++ ys)
  | _, _, _, _, .nil, s => s
  | _, _, _, _, .cons r t, s => .cons r (RVs.append t s)
theorem rvs_ints {K : PySem.W.Frag} {F : Hp} : ∀ ns : List Int, RVs K F (ns.map V.int) (ns.map fun i => .d (.int i))
  | [] => .nil
  | n :: ns => .cons (.int n) (rvs_ints ns)

/-- all of a list are data -/
def dAll : List DV → Option (List PyData)
  | [] => some []
  | .d x :: r => match dAll r with
    | some ds => some (x :: ds)
    | none => none
  | .w _ :: _ => none
theorem dAll_map : ∀ {xs : List DV} {ds : List PyData}, dAll xs = some ds → xs = ds.map .d
  | [], _, h => by cases h; rfl
  | .d x :: r, ds, h => by
    unfold dAll at h
    split at h
    · rename_i es e; cases h; rw [dAll_map e]; rfl
    · cases h
  | .w _ :: _, _, h => by cases h
theorem dAll_of_map : ∀ ds : List PyData, dAll (ds.map .d) = some ds
  | [] => rfl
  | d :: ds => by show (match dAll (ds.map .d) with | some ds => some (d :: ds) | none => none) = _; rw [dAll_of_map ds]

/-- what is read as a row of things -/
def lstAt : Option DO → Option (List DV)
  | some (.lst xs) => some xs
  | some (.scr ns) => some (ns.map fun i => .d (.int i))
  | _ => none
def seqOf (M : DH) : DV → Option (List DV)
  | .d (.list ds) => some (ds.map .d)
  | .d (.tuple ds) => some (ds.map .d)
  | .w (.ref a) => lstAt (M a)
  | _ => none
section
variable {K : PySem.W.Frag} {H F : Hp} {M : DH} {x : DV} {v : V} {ys : List DV}
theorem SR.raw (s : SR K H F M) {a : Addr} (e : lstAt (M a) = some ys) : ∃ vs, SqL K H a vs ∧ RVs K F vs ys ∧ vs.length ≤ sizeLine := by
  cases q : M a with
  | none => rw [q] at e; cases e
  | some o =>
    obtain ⟨_, u, hu, r⟩ := s.own a o q
    rw [q] at e
    cases o with
    | lst xs =>
      cases e
      cases u <;> first | exact r.elim | skip
      · exact ⟨_, SqL.of hu, r.2, r.1⟩
      · rename_i u'; cases u' <;> exact r.elim
    | scr ns =>
      cases e
      cases u <;> first | exact r.elim | skip
      rename_i ob u'
      cases u' <;> first | exact r.elim | skip
      obtain ⟨r1, r⟩ := r
      cases r
      exact ⟨_, .inl (.inr ⟨_, hu⟩), rvs_ints ns, r1⟩
    | _ => cases e
theorem SR.seq (s : SR K H F M) (r : RV K F v x) (e : seqOf M x = some ys) : ∃ a vs, v = .ref a ∧ (SqL K H a vs ∨ SqT K H a vs) ∧ RVs K F vs ys ∧ vs.length ≤ sizeLine := by
  cases x with
  | d x =>
    cases x <;> first | cases e; done | skip
    · cases e
      have r : Rp K F v _ := r
      cases r with | lst h l t => exact ⟨_, _, rfl, .inl (SqL.of (s.sub _ _ h)), t.rvs, l⟩
    · cases e
      have r : Rp K F v _ := r
      cases r with | tup h l t => exact ⟨_, _, rfl, .inr (SqT.same s.sub h), t.rvs, l⟩
  | w u =>
    cases u <;> first | cases e; done | skip
    rename_i a
    have r : v = .ref a := r
    obtain ⟨vs, h1, h2, h3⟩ := s.raw (a := a) e
    exact ⟨a, vs, r, .inl h1, h2, h3⟩
end

/-! ### == and != -/
def peekL : Option (List DV) → Option PyData
  | some xs => match dAll xs with
    | some ds => some (.list ds)
    | none => none
  | none => none
theorem peekL_some {o : Option (List DV)} {d : PyData} (h : peekL o = some d) : ∃ ds, o = some (ds.map .d) ∧ d = .list ds := by
  cases o with
  | none => cases h
  | some xs =>
    unfold peekL at h
    simp only at h
    split at h
    · rename_i ds e; cases h; exact ⟨ds, by rw [dAll_map e], rfl⟩
    · cases h
def peek (M : DH) : DV → Option PyData
  | .d x => some x
  | .w (.ref a) => peekL (lstAt (M a))
  | _ => none
section
variable {K : PySem.W.Frag} {H F : Hp} {M : DH} {x : DV} {v : V} {d : PyData}
theorem DpAll.same {H : Hp} (s : Same F H) : ∀ {vs : List V} {ds : List PyData}, RpAll K F vs ds → noDictAll ds = true → DpAll K H vs ds := fun r n => RpAll.dp _ _ (RpAll.mono s r) n
theorem SR.peek (s : SR K H F M) (r : RV K F v x) (e : peek M x = some d) (n : noDict d = true) : Dp K H v d ∧ d.canLay0 = true := by
  cases x with
  | d x =>
    cases e
    have r : Rp K F v d := r
    exact ⟨Rp.dp _ _ (Rp.mono s.sub r) n, Rp.lay _ _ r n⟩
  | w u =>
    cases u <;> first | cases e; done | skip
    rename_i a
    have r : v = .ref a := r
    subst r
    obtain ⟨ds, e1, rfl⟩ := peekL_some (show peekL (lstAt (M a)) = some d from e)
    obtain ⟨vs, h1, h2, _⟩ := s.raw e1
    have h3 := rvs_all h2
    exact ⟨.lst h1 (DpAll.same s.sub h3 n), RpAll.lay _ _ h3 n⟩
end
def oEq (M : DH) (x y : DV) (k : Bool → Prop) : Prop := match peek M x, peek M y with
  | some a, some b => eqOk a = true ∧ eqOk b = true ∧ k (PyData.eqv a b)
  | _, _ => False
def rEqV : D2 := fun x y M Q => oEq M x y fun b => Q (.d (.bool b)) M
def rNeV : D2 := fun x y M Q => oEq M x y fun b => Q (.d (.bool (!b))) M
section
variable {X : Cx}
theorem oEq_ok {K : PySem.W.Frag} {H F : Hp} {M : DH} {x y : DV} {v w : V} {k : Bool → Prop} (s : SR K H F M) (rv : RV K F v x) (rw' : RV K F w y) (h : oEq M x y k) :
    ∃ d e, Dp K H v d ∧ Dp K H w e ∧ SeqAt.shaped d = true ∧ SeqAt.shaped e = true ∧ k (PyData.eqv d e) := by
  unfold oEq at h
  split at h
  · rename_i a b ea eb
    obtain ⟨h1, h2, h3⟩ := h
    obtain ⟨p1, p2⟩ := s.peek rv ea (eqOk.nd h1)
    obtain ⟨q1, q2⟩ := s.peek rw' eb (eqOk.nd h2)
    refine ⟨a, b, p1, q1, ?_, ?_, h3⟩
    · unfold eqOk at h1; rw [Bool.and_eq_true] at h1
      show (PyData.canLay0 a && decide (a.depth ≤ 64)) = true
      rw [p2, h1.2]; rfl
    · unfold eqOk at h2; rw [Bool.and_eq_true] at h2
      show (PyData.canLay0 b && decide (b.depth ≤ 64)) = true
      rw [q2, h2.2]; rfl
  · exact h.elim
theorem vo_eq (hu : X.A.units + 64 < cLine) : VO X (compareOp .Eq) rEqV := by
  intro pins s σ H v w u1 u2 Q' I r1 r2 ⟨F, M, x, y, Q, sr, rv, rw', h, up⟩
  obtain ⟨d, e, h1, h2, h3, h4, h5⟩ := oEq_ok sr rv rw' h
  exact op_eqD hu pins s σ H v w u1 u2 Q' I r1 r2 ⟨d, e, h1, h2, h3, h4, up.now h5 sr (.bl _)⟩
theorem vo_ne (hu : X.A.units + 64 < cLine) : VO X (compareOp .NotEq) rNeV := by
  intro pins s σ H v w u1 u2 Q' I r1 r2 ⟨F, M, x, y, Q, sr, rv, rw', h, up⟩
  obtain ⟨d, e, h1, h2, h3, h4, h5⟩ := oEq_ok sr rv rw' h
  exact op_neD hu pins s σ H v w u1 u2 Q' I r1 r2 ⟨d, e, h1, h2, h3, h4, up.now h5 sr (.bl _)⟩

/-! ### is None -/
def isNone : DV → Bool
  | .d .none => true
  | .w .non => true
  | _ => false
theorem isNone_ok {K : PySem.W.Frag} {F : Hp} {v : V} {x : DV} (r : RV K F v x) : decide (v = V.non) = isNone x := by
  cases x with
  | d x =>
    have r : Rp K F v x := r
    cases r <;> simp [isNone]
  | w u =>
    have r : v = u := r
    subst r
    cases v <;> simp [isNone]
def rIsV : D2 := fun x y M Q => match y with
  | .d .none => Q (.d (.bool (isNone x))) M
  | _ => False
def rNotIsV : D2 := fun x y M Q => match y with
  | .d .none => Q (.d (.bool (!isNone x))) M
  | _ => False
theorem vo_is : VO X (compareOp .Is) rIsV := by
  intro pins s σ H v w u1 u2 Q' I r1 r2 ⟨F, M, x, y, Q, sr, rv, rw', h, up⟩
  unfold rIsV at h
  split at h
  · have rw' : Rp X.K F w .none := rw'
    cases rw'
    exact op_isN pins s σ H v .non u1 u2 Q' I r1 r2 ⟨rfl, by rw [isNone_ok rv]; exact up.now h sr (.bl _)⟩
  · exact h.elim
theorem vo_isnot : VO X (compareOp .IsNot) rNotIsV := by
  intro pins s σ H v w u1 u2 Q' I r1 r2 ⟨F, M, x, y, Q, sr, rv, rw', h, up⟩
  unfold rNotIsV at h
  split at h
  · have rw' : Rp X.K F w .none := rw'
    cases rw'
    exact op_notN pins s σ H v .non u1 u2 Q' I r1 r2 ⟨rfl, by rw [isNone_ok rv]; exact up.now h sr (.bl _)⟩
  · exact h.elim

/-! ### ints -/
def rII (C : Int → Int → Prop) (g : Int → Int → PyData) : D2 := fun x y M Q => match x, y with
  | .d (.int i), .d (.int j) => C i j ∧ Q (.d (g i j)) M
  | _, _ => False
def rI2 (g : Int → Int → PyData) : D2 := fun x y M Q => match x, y with
  | .d (.int i), .d (.int j) => Q (.d (g i j)) M
  | _, _ => False
theorem vo_II {f : Value → Value → Sem Value} {C : Int → Int → Prop} {g : Int → Int → V} {g' : Int → Int → PyData} (h : OpR X f (rI C g)) (hg : ∀ F i j, Rp X.K F (g i j) (g' i j)) : VO X f (rII C g') := by
  intro pins s σ H v w u1 u2 Q' I r1 r2 ⟨F, M, x, y, Q, sr, rv, rw', q, up⟩
  unfold rII at q
  split at q
  · have rv : Rp X.K F v _ := rv
    have rw' : Rp X.K F w _ := rw'
    cases rv; cases rw'
    exact h pins s σ H _ _ u1 u2 Q' I r1 r2 ⟨_, _, rfl, rfl, q.1, up.now q.2 sr (hg F _ _)⟩
  · exact q.elim
theorem vo_I2 {f : Value → Value → Sem Value} {g : Int → Int → V} {g' : Int → Int → PyData} (h : OpR X f (rI0 g)) (hg : ∀ F i j, Rp X.K F (g i j) (g' i j)) : VO X f (rI2 g') := by
  intro pins s σ H v w u1 u2 Q' I r1 r2 ⟨F, M, x, y, Q, sr, rv, rw', q, up⟩
  unfold rI2 at q
  split at q
  · have rv : Rp X.K F v _ := rv
    have rw' : Rp X.K F w _ := rw'
    cases rv; cases rw'
    exact h pins s σ H _ _ u1 u2 Q' I r1 r2 ⟨_, _, rfl, rfl, up.now q sr (hg F _ _)⟩
  · exact q.elim
theorem vo_lt : VO X (compareOp .Lt) (rI2 fun i j => .bool (decide (i < j))) := vo_I2 op_lt fun _ _ _ => .bl _
theorem vo_le : VO X (compareOp .LtE) (rI2 fun i j => .bool (decide (i ≤ j))) := vo_I2 op_le fun _ _ _ => .bl _
theorem vo_gt : VO X (compareOp .Gt) (rI2 fun i j => .bool (decide (j < i))) := vo_I2 op_gt fun _ _ _ => .bl _
theorem vo_ge : VO X (compareOp .GtE) (rI2 fun i j => .bool (decide (j ≤ i))) := vo_I2 op_ge fun _ _ _ => .bl _
theorem vo_sub : VO X (binaryOp .Sub) (rI2 fun i j => .int (i - j)) := vo_I2 op_sub fun _ _ _ => .int _
theorem vo_fdiv : VO X (binaryOp .FloorDiv) (rII CDiv fun i j => .int (i / j)) := vo_II op_fdiv fun _ _ _ => .int _
theorem vo_mod : VO X (binaryOp .Mod) (rII (fun _ j => 0 < j) fun i j => .int (i % j)) := vo_II op_mod fun _ _ _ => .int _
theorem vo_pow : VO X (binaryOp .Pow) (rII CPow fun i j => .int (i ^ j.toNat)) := vo_II op_pow fun _ _ _ => .int _

def lstO : Option DO → Option (List DV)
  | some (.lst xs) => some xs
  | _ => none
theorem lstO_some {o : Option DO} {xs : List DV} (h : lstO o = some xs) : o = some (.lst xs) := by
  cases o with
  | none => cases h
  | some u => cases u <;> first | (cases h; rfl) | cases h
def lstW (M : DH) : DV → Option (List DV)
  | .d (.list ds) => some (ds.map .d)
  | .w (.ref a) => lstO (M a)
  | _ => none
theorem SR.lst {K : PySem.W.Frag} {H F : Hp} {M : DH} {a : Addr} {ys : List DV} (s : SR K H F M) (q : M a = some (.lst ys)) : ∃ vs, H a = some (.lst vs) ∧ RVs K F vs ys ∧ vs.length ≤ sizeLine := by
  obtain ⟨_, u, hu, ro⟩ := s.own a _ q
  cases u with
  | lst vs => exact ⟨vs, hu, ro.2, ro.1⟩
  | frz o u => cases u <;> exact ro.elim
  | _ => exact ro.elim
theorem SR.lstW {K : PySem.W.Frag} {H F : Hp} {M : DH} {x : DV} {v : V} {ys : List DV} (s : SR K H F M) (r : RV K F v x) (e : lstW M x = some ys) : ∃ a vs, v = .ref a ∧ H a = some (.lst vs) ∧ RVs K F vs ys ∧ vs.length ≤ sizeLine := by
  cases x with
  | d x =>
    cases x <;> first | cases e; done | skip
    cases e
    have r : Rp K F v _ := r
    cases r with | lst h l t => exact ⟨_, _, rfl, s.sub _ _ h, t.rvs, l⟩
  | w u =>
    cases u <;> first | cases e; done | skip
    rename_i a
    have r : v = .ref a := r
    obtain ⟨vs, hu, ro⟩ := s.lst (lstO_some (show lstO (M a) = some ys from e))
    exact ⟨a, vs, r, hu, ro⟩
def lstD (M : DH) (x : DV) : Option (List PyData) := match lstW M x with
  | some xs => dAll xs
  | none => none
theorem SR.lstD {K : PySem.W.Frag} {H F : Hp} {M : DH} {x : DV} {v : V} {ds : List PyData} (s : SR K H F M) (r : RV K F v x) (e : VS.lstD M x = some ds) : ∃ a vs, v = .ref a ∧ H a = some (.lst vs) ∧ RpAll K F vs ds ∧ vs.length ≤ sizeLine := by
  unfold VS.lstD at e
  split at e
  · rename_i xs e1
    obtain ⟨a, vs, h1, h2, h3, h4⟩ := s.lstW r e1
    rw [dAll_map e] at h3
    exact ⟨a, vs, h1, h2, rvs_all h3, h4⟩
  · cases e
/-! ### + -/
theorem Str.length_append (x y : Str) : (x ++ y).length = x.length + y.length := by
  show (x.cps ++ y.cps).size = _
  exact Array.size_append ..
theorem strOk_append {x y : Str} (h : PyData.strOk x = true) (h' : PyData.strOk y = true) : PyData.strOk (x ++ y) = true := by
  unfold PyData.strOk at h h' ⊢
  show (x.cps ++ y.cps).all _ = true
  rw [Array.all_append, h, h']; rfl
def rAddV : D2 := fun x y M Q => match x, y with
  | .d (.int i), .d (.int j) => Q (.d (.int (i + j))) M
  | .d (.str i), .d (.str j) => i.length + j.length ≤ sizeLine ∧ Q (.d (.str (i ++ j))) M
  | .d (.tuple i), .d (.tuple j) => i.length + j.length ≤ sizeLine ∧ Q (.d (.tuple (i ++ j))) M
  | x, y => match lstD M x, lstD M y with
    | some i, some j => i.length + j.length ≤ sizeLine ∧ Q (.d (.list (i ++ j))) M
    | _, _ => False
theorem vo_add : VO X (binaryOp .Add) rAddV := by
  intro pins s σ H v w u1 u2 Q' I r1 r2 ⟨F, M, x, y, Q, sr, rv, rw', q, up⟩
  unfold rAddV at q
  split at q
  · have rv : Rp X.K F v _ := rv
    have rw' : Rp X.K F w _ := rw'
    cases rv; cases rw'
    exact op_add pins s σ H _ _ u1 u2 Q' I r1 r2 ⟨_, _, rfl, rfl, up.now q sr (.int _)⟩
  · have rv : Rp X.K F v _ := rv
    have rw' : Rp X.K F w _ := rw'
    cases rv with
    | str _ o1 l1 =>
      cases rw' with
      | str _ o2 l2 =>
        exact op_add_str pins s σ H _ _ u1 u2 Q' I r1 r2 ⟨_, _, rfl, rfl, q.1, up.now q.2 sr (.str _ (strOk_append o1 o2) (by rw [Str.length_append]; exact q.1))⟩
  · have rv : Rp X.K F v _ := rv
    have rw' : Rp X.K F w _ := rw'
    obtain ⟨ql, q⟩ := q
    cases rv with
    | tup a1 l1 t1 =>
      cases rw' with
      | tup a2 l2 t2 =>
        have e1 := t1.length
        have e2 := t2.length
        refine op_catA pins s σ H _ _ u1 u2 Q' I r1 r2 ⟨_, _, _, _, rfl, rfl, SqT.same sr.sub a1, SqT.same sr.sub a2, by omega, fun z => ?_, fun _ z => ?_, fun _ _ p hp => ?_⟩
        · subst z
          cases t1
          exact up.now q sr (.tup a2 l2 t2)
        · subst z
          cases t2
          rw [List.append_nil] at q
          exact up.now q sr (.tup a1 l1 t1)
        · obtain ⟨s1, s2⟩ := sr.newF hp (.tup _)
          exact up _ _ _ _ _ q s1 s2 (.tup (SqT.of upd_same) (by rw [List.length_append]; omega) ((t1.append t2).mono s1))
  · split at q
    · rename_i i j e1 e2
      obtain ⟨ql, q⟩ := q
      obtain ⟨a, vs, rfl, a1, t1, l1⟩ := sr.lstD rv e1
      obtain ⟨b, ws, rfl, a2, t2, l2⟩ := sr.lstD rw' e2
      have e1 := t1.length
      have e2 := t2.length
      refine op_cat pins s σ H _ _ u1 u2 Q' I r1 r2 ⟨_, _, _, _, rfl, rfl, a1, a2, by omega, fun p hp => ?_⟩
      obtain ⟨s1, s2⟩ := sr.newF hp (.lst _)
      exact up _ _ _ _ _ q s1 s2 (.lst upd_same (by rw [List.length_append]; omega) ((t1.append t2).mono s1))
    · exact q.elim
/-- the sum of two lists, one that will be written -/
def wLst (M : DH) (xs : List DV) (Q : DQ) : Prop := ∀ p, M p = none → Q (.w (.ref p)) (updM M p (.lst xs))
def rAddM : D2 := fun x y M Q => match lstW M x, lstW M y with
  | some xs, some ys => xs.length + ys.length ≤ sizeLine ∧ wLst M (xs ++ ys) Q
  | _, _ => False
theorem vo_addM : VO X (binaryOp .Add) rAddM := by
  intro pins s σ H v w u1 u2 Q' I r1 r2 ⟨F, M, x, y, Q, sr, rv, rw', q, up⟩
  unfold rAddM at q
  split at q
  · rename_i xs ys e1 e2
    obtain ⟨ql, q⟩ := q
    obtain ⟨a, vs, rfl, h1, t1, _⟩ := sr.lstW rv e1
    obtain ⟨b, ws, rfl, h2, t2, _⟩ := sr.lstW rw' e2
    have l1 := t1.length
    have l2 := t2.length
    refine op_cat pins s σ H _ _ u1 u2 Q' I r1 r2 ⟨_, _, _, _, rfl, rfl, h1, h2, by omega, fun p hp => ?_⟩
    have s2 := sr.newM (u := .lst (xs ++ ys)) hp (o := .lst (vs ++ ws)) ⟨by rw [List.length_append]; omega, t1.append t2⟩
    exact up _ _ _ _ _ (q p (sr.free hp).2) (Same.refl _) s2 rfl
  · exact q.elim

/-! ### * -/
def repL {α : Type} (n : Nat) (xs : List α) : List α := (List.replicate n xs).flatten
theorem RpAll.rep {K : PySem.W.Frag} {F : Hp} {vs : List V} {ds : List PyData} (r : RpAll K F vs ds) : ∀ n, RpAll K F (repL n vs) (repL n ds)
  | 0 => .nil
  | n + 1 => by
    show RpAll K F (List.replicate (n + 1) vs).flatten (List.replicate (n + 1) ds).flatten
    rw [List.replicate_succ, List.replicate_succ, List.flatten_cons, List.flatten_cons]
    exact r.append (RpAll.rep r n)
theorem repL_length {α : Type} (xs : List α) : ∀ n, (repL n xs).length = n * xs.length
  | 0 => by simp [repL]
  | n + 1 => by
    have h := repL_length xs n
    unfold repL at h ⊢
    rw [List.replicate_succ, List.flatten_cons, List.length_append, h, Nat.add_mul, Nat.one_mul, Nat.add_comm]
end
end VS

end

section
set_option Elab.async false
set_option linter.all false
set_option maxRecDepth 100000
set_option maxHeartbeats 4000000
/-! VS, part 3: tests, and or not, conditional expressions, calls of what is built in, displays, subscripts, slices. -/
namespace VS
open PySem L2

section
variable {X : Cx} {e a b c : Expr} {ta tb tc : DE} {tA tB' : DT} {pos : Pos} {rest : List Expr}

/-! ### tests -/
def dTest (t : DE) : DT := fun τ M Q => t τ M fun x M1 => match x with
  | .d (.bool k) => Q k M1
  | _ => False
theorem up_test {K : PySem.W.Frag} {t : DE} {σ : St} {H F : Hp} {τ : Ds} {M : DH} {Q : Bool → DH → Prop} {Q' : Bool → Hp → Prop} (s : SR K H F M) (l : SL K F σ τ) (q : dTest t τ M Q) (u : UpT K F Q Q') :
    upE K t σ H fun x H1 => ∃ k, x = .bl k ∧ Q' k H1 := by
  refine ⟨F, τ, M, _, s, l, q, fun x M1 v H1 F1 q1 s1 r1 rv => ?_⟩
  split at q1
  · have rv : Rp K F1 v _ := rv
    cases rv
    exact ⟨_, rfl, u _ _ _ _ q1 s1 r1⟩
  · exact q1.elim
theorem vt_val (h : VE X e ta) (he : ∀ whole, isTrue e X.env whole = (do let v ← whole; standAt e.pos; holding [v] (truthy v)) := by intro _; rfl) : VT X e (dTest ta) :=
  VT.mk (pt_val h he) fun σ H F τ M Q Q' s l q u => up_test s l q u
theorem vt_cmp {op : CmpOp} {r : D2} (ho : VO X (compareOp op) r) (ha : VE X a ta) (hb : VE X b tb) (h1 : behindInMarks op b = false) : VT X (.Compare a [op] [b] pos) (dTest (dOp r ta tb)) :=
  VT.mk (pt_cmpR ho ha hb h1) fun σ H F τ M Q Q' s l q u => by
    refine ⟨F, τ, M, _, s, l, q, fun x M1 v H1 F1 q1 s1 r1 rv => ?_⟩
    refine ⟨F1, τ, M1, _, r1, l.mono s1, q1, fun y M2 w H2 F2 q2 s2 r2 rw' => ?_⟩
    refine ⟨F2, M2, x, y, _, r2, RV.mono s2 rv, rw', q2, fun z M3 v3 H3 F3 q3 s3 r3 rv3 => ?_⟩
    split at q3
    · have rv3 : Rp X.K F3 v3 _ := rv3
      cases rv3
      exact ⟨_, rfl, u _ _ _ _ q3 ((s1.trans s2).trans s3) r3⟩
    · exact q3.elim
/-- truth of any value -/
def truOf (M : DH) : DV → Option Bool
  | .d .none => some false
  | .d (.bool b) => some b
  | .d (.int i) => some (i != 0)
  | .d (.str x) => some ((x.length : Int) != 0)
  | .d (.list xs) => some (!xs.isEmpty)
  | .d (.tuple xs) => some (!xs.isEmpty)
  | .w (.ref a) => match lstAt (M a) with
    | some xs => some (!xs.isEmpty)
    | none => none
  | _ => none
def dTru (t : DE) : DT := fun τ M Q => t τ M fun x M1 => match truOf M1 x with
  | some k => Q k M1
  | none => False
theorem empty_eq {α β : Type} {R : α → β → Prop} {xs : List α} {ys : List β} (h : Paired R xs ys) : xs.isEmpty = ys.isEmpty := by cases h <;> rfl
theorem RpKV.empty {K : PySem.W.Frag} {F : Hp} {vs : List (Key × V)} {ds : List (PyData × PyData)} (h : RpKV K F vs ds) : vs.isEmpty = ds.isEmpty := by cases h <;> rfl
theorem tru_ok {K : PySem.W.Frag} {H F : Hp} {M : DH} {x : DV} {v : V} {k : Bool} (s : SR K H F M) (r : RV K F v x) (e : truOf M x = some k) : TruV K v H k := by
  cases x with
  | d x =>
    have r : Rp K F v x := r
    cases r with
    | non => cases e; rfl
    | bl b => cases e; rfl
    | int i => cases e; rfl
    | str y h1 h2 => cases e; exact ⟨h2, rfl⟩
    | lst h l t => cases e; exact .inl ⟨_, SqL.of (s.sub _ _ h), by rw [empty_eq t.rvs]; simp⟩
    | tup h l t => cases e; exact .inr (.inl ⟨_, SqT.same s.sub h, by rw [empty_eq t.rvs]; simp⟩)
    | dct h l t => cases e
  | w u =>
    cases u <;> first | cases e; done | skip
    rename_i a
    have r : v = .ref a := r
    subst r
    have e : (match lstAt (M a) with | some xs => some (!xs.isEmpty) | none => none) = some k := e
    split at e
    · rename_i xs e1
      cases e
      obtain ⟨vs, h1, h2, _⟩ := s.raw e1
      exact .inl ⟨vs, h1, by rw [empty_eq h2]⟩
    · cases e
theorem vt_tru (ha : VE X a ta) (he : ∀ whole, isTrue a X.env whole = (do let v ← whole; standAt a.pos; holding [v] (truthy v)) := by intro _; rfl) : VT X a (dTru ta) :=
  VT.mk (pt_truth ha he) fun σ H F τ M Q Q' s l q u => by
    refine ⟨F, τ, M, _, s, l, q, fun x M1 v H1 F1 q1 s1 r1 rv => ?_⟩
    split at q1
    · rename_i k e
      exact ⟨k, VS.tru_ok r1 rv e, u _ _ _ _ q1 s1 r1⟩
    · exact q1.elim

def dAnd (t u : DT) : DT := fun τ M Q => t τ M fun c M1 => if c = true then u τ M1 Q else Q false M1
def dOr (t u : DT) : DT := fun τ M Q => t τ M fun c M1 => if c = true then Q true M1 else u τ M1 Q
def dNot (t : DT) : DT := fun τ M Q => t τ M fun c M1 => Q (!c) M1
theorem up_tand {K : PySem.W.Frag} {t u : DT} {σ : St} {H F : Hp} {τ : Ds} {M : DH} {Q : Bool → DH → Prop} {Q' : Bool → Hp → Prop} (s : SR K H F M) (l : SL K F σ τ) (q : dAnd t u τ M Q) (up : UpT K F Q Q') :
    tAnd (upT K t) (upT K u) σ H Q' := by
  refine ⟨F, τ, M, _, s, l, q, fun k M1 H1 F1 q1 s1 r1 => ?_⟩
  cases k with
  | true => exact ⟨F1, τ, M1, _, r1, l.mono s1, q1, up.later s1⟩
  | false => exact up _ _ _ _ q1 s1 r1
theorem up_tor {K : PySem.W.Frag} {t u : DT} {σ : St} {H F : Hp} {τ : Ds} {M : DH} {Q : Bool → DH → Prop} {Q' : Bool → Hp → Prop} (s : SR K H F M) (l : SL K F σ τ) (q : dOr t u τ M Q) (up : UpT K F Q Q') :
    tOr (upT K t) (upT K u) σ H Q' := by
  refine ⟨F, τ, M, _, s, l, q, fun k M1 H1 F1 q1 s1 r1 => ?_⟩
  cases k with
  | false => exact ⟨F1, τ, M1, _, r1, l.mono s1, q1, up.later s1⟩
  | true => exact up _ _ _ _ q1 s1 r1
theorem vw_and1 (ha : VT X a tA) : VW X (.BoolOp .And [a] pos) tA := pw_and1 ha
theorem vw_or1 (ha : VT X a tA) : VW X (.BoolOp .Or [a] pos) tA := pw_or1 ha
theorem vw_and (ha : VT X a tA) (hb : VW X (.BoolOp .And (b :: rest) pos) tB') : VW X (.BoolOp .And (a :: b :: rest) pos) (dAnd tA tB') :=
  VW.mk (pw_and ha hb) fun σ H F τ M Q Q' s l q u => up_tand s l q u
theorem vw_or (ha : VT X a tA) (hb : VW X (.BoolOp .Or (b :: rest) pos) tB') : VW X (.BoolOp .Or (a :: b :: rest) pos) (dOr tA tB') :=
  VW.mk (pw_or ha hb) fun σ H F τ M Q Q' s l q u => up_tor s l q u
theorem vt_w (h : VW X e tA) : VT X e tA := PW.pt h
theorem vt_not (ha : VT X a tA) : VT X (.UnaryOp .Not a pos) (dNot tA) :=
  VT.mk (pt_not ha) fun σ H F τ M Q Q' s l q u => ⟨F, τ, M, _, s, l, q, fun k M1 H1 F1 q1 s1 r1 => u _ _ _ _ q1 s1 r1⟩
/-- and, or, not as values: all but the last are bools -/
def dAndV (ta tb : DE) : DE := fun τ M Q => ta τ M fun x M1 => match x with
  | .d (.bool c) => if c = true then tb τ M1 Q else Q (.d (.bool false)) M1
  | _ => False
def dOrV (ta tb : DE) : DE := fun τ M Q => ta τ M fun x M1 => match x with
  | .d (.bool c) => if c = true then Q (.d (.bool true)) M1 else tb τ M1 Q
  | _ => False
def dNotV (ta : DE) : DE := fun τ M Q => ta τ M fun x M1 => match x with
  | .d (.bool c) => Q (.d (.bool (!c))) M1
  | _ => False
theorem ve_one {op : BoolOp} (h : VE X a ta) : VE X (.BoolOp op [a] pos) ta := pe_one h
theorem ve_and (ha : VE X a ta) (hb : VE X (.BoolOp .And (b :: rest) pos) tb) : VE X (.BoolOp .And (a :: b :: rest) pos) (dAndV ta tb) :=
  VE.mk (pe_and ha hb) fun σ H F τ M Q Q' s l q u => by
    refine ⟨F, τ, M, _, s, l, q, fun x M1 v H1 F1 q1 s1 r1 rv => ?_⟩
    split at q1
    · rename_i k
      have rv : Rp X.K F1 v _ := rv
      cases rv
      refine ⟨k, rfl, ?_⟩
      cases k with
      | true => exact ⟨F1, τ, M1, _, r1, l.mono s1, q1, u.later s1⟩
      | false => exact u _ _ _ _ _ q1 s1 r1 (.bl _)
    · exact q1.elim
theorem ve_or (ha : VE X a ta) (hb : VE X (.BoolOp .Or (b :: rest) pos) tb) : VE X (.BoolOp .Or (a :: b :: rest) pos) (dOrV ta tb) :=
  VE.mk (pe_or ha hb) fun σ H F τ M Q Q' s l q u => by
    refine ⟨F, τ, M, _, s, l, q, fun x M1 v H1 F1 q1 s1 r1 rv => ?_⟩
    split at q1
    · rename_i k
      have rv : Rp X.K F1 v _ := rv
      cases rv
      refine ⟨k, rfl, ?_⟩
      cases k with
      | false => exact ⟨F1, τ, M1, _, r1, l.mono s1, q1, u.later s1⟩
      | true => exact u _ _ _ _ _ q1 s1 r1 (.bl _)
    · exact q1.elim
theorem ve_not (ha : VE X a ta) : VE X (.UnaryOp .Not a pos) (dNotV ta) :=
  VE.mk (pe_not ha) fun σ H F τ M Q Q' s l q u => by
    refine ⟨F, τ, M, _, s, l, q, fun x M1 v H1 F1 q1 s1 r1 rv => ?_⟩
    split at q1
    · rename_i k
      have rv : Rp X.K F1 v _ := rv
      cases rv
      exact ⟨k, rfl, u _ _ _ _ _ q1 s1 r1 (.bl _)⟩
    · exact q1.elim
def dIf (t : DT) (ta tb : DE) : DE := fun τ M Q => t τ M fun c M1 => if c = true then ta τ M1 Q else tb τ M1 Q
theorem ve_if (hc : VT X c tA) (ha : VE X a ta) (hb : VE X b tb) : VE X (.IfExp c a b pos) (dIf tA ta tb) :=
  VE.mk (pe_ifExp hc ha hb) fun σ H F τ M Q Q' s l q u => by
    refine ⟨F, τ, M, _, s, l, q, fun k M1 H1 F1 q1 s1 r1 => ?_⟩
    cases k with
    | true => exact ⟨F1, τ, M1, _, r1, l.mono s1, q1, u.later s1⟩
    | false => exact ⟨F1, τ, M1, _, r1, l.mono s1, q1, u.later s1⟩
/-- a < b < c -/
def dChain (r r' : D2) (ta tb tc : DE) : DE := fun τ M Q => ta τ M fun x M1 => tb τ M1 fun y M2 => r x y M2 fun z M3 => match z with
  | .d (.bool k) => if k = true then tc τ M3 fun w M4 => r' y w M4 Q else Q (.d (.bool false)) M3
  | _ => False

/-! ### arguments, displays -/
def dNeg (t : DE) : DE := fun τ M Q => t τ M fun x M1 => match x with
  | .d (.int i) => Q (.d (.int (-i))) M1
  | _ => False
theorem ve_neg (ha : VE X a ta) : VE X (.UnaryOp .USub a pos) (dNeg ta) :=
  VE.mk (pe_un un_neg ha) fun σ H F τ M Q Q' s l q u => by
    refine ⟨F, τ, M, _, s, l, q, fun x M1 v H1 F1 q1 s1 r1 rv => ?_⟩
    split at q1
    · have rv : Rp X.K F1 v _ := rv
      cases rv
      exact ⟨_, rfl, u _ _ _ _ _ q1 s1 r1 (.int _)⟩
    · exact q1.elim
def dNil : DA := fun _ M Q => Q [] M
def dCons (t : DE) (u : DA) : DA := fun τ M Q => t τ M fun x M1 => u τ M1 fun xs M2 => Q (x :: xs) M2
variable {es : List Expr} {tl : DA}
theorem va_nil : VA X [] dNil := PA.imp pa_nil fun σ H Q' ⟨F, τ, M, Q, s, l, q, u⟩ => u [] M [] H F rfl q (Same.refl _) s .nil
theorem va_cons (ha : VE X e ta) (hr : VA X es tl) (hs : starEach (e :: es) X.env = (false, eval e X.env) :: starEach es X.env := by rfl) : VA X (e :: es) (dCons ta tl) :=
  PA.imp (pa_cons ha hr hs) fun σ H Q' ⟨F, τ, M, Q, s, l, q, u⟩ => by
    refine ⟨F, τ, M, _, s, l, q, fun x M1 v H1 F1 q1 s1 r1 rv => ?_⟩
    refine ⟨F1, τ, M1, _, r1, l.mono s1, q1, fun xs M2 vs H2 F2 n q2 s2 r2 rvs => ?_⟩
    exact u (x :: xs) M2 (v :: vs) H2 F2 (by rw [List.length_cons, List.length_cons, n]) q2 (s1.trans s2) r2 (.cons (RV.mono s2 rv) rvs)
theorem VA.mk {t : DA} {T0 : TE} (i : ∀ σ H F τ M Q Q', SR X.K H F M → SL X.K F σ τ → t τ M Q → UpA X.K F es.length Q Q' → upA X.K es.length t σ H Q') : True := trivial
/-- what is made of data alone -/
def oAll (xs : List DV) (k : List PyData → Prop) : Prop := match dAll xs with
  | some ds => k ds
  | none => False
theorem oAll_ok {K : PySem.W.Frag} {F : Hp} {xs : List DV} {vs : List V} {k : List PyData → Prop} (h : oAll xs k) (r : RVs K F vs xs) : ∃ ds, RpAll K F vs ds ∧ xs = ds.map .d ∧ k ds := by
  unfold oAll at h
  split at h
  · rename_i ds e
    have e' := dAll_map e
    subst e'
    exact ⟨ds, rvs_all r, rfl, h⟩
  · exact h.elim
def dTup (t : DA) : DE := fun τ M Q => t τ M fun xs M1 => oAll xs fun ds => Q (.d (.tuple ds)) M1
def dLst (t : DA) : DE := fun τ M Q => t τ M fun xs M1 => oAll xs fun ds => Q (.d (.list ds)) M1
def dLstM (t : DA) : DE := fun τ M Q => t τ M fun xs M1 => wLst M1 xs Q
theorem ve_tup {k : Nat} (h : VA X es tl) (n : es.length ≤ sizeLine := by decide) : VE X (.Tuple es k pos) (dTup tl) :=
  VE.mk (pe_tup h) fun σ H F τ M Q Q' s l q u => by
    refine ⟨F, τ, M, _, s, l, q, fun xs M1 vs H1 F1 hn q1 s1 r1 rv => ?_⟩
    obtain ⟨ds, t, e, q2⟩ := oAll_ok q1 rv
    have hl : vs.length ≤ sizeLine := by rw [rv.length, hn]; exact n
    refine ⟨hl, fun p hp => ?_⟩
    obtain ⟨s2, r2⟩ := r1.newF hp (.tup vs)
    exact u _ _ _ _ _ q2 (s1.trans s2) r2 (.tup (SqT.of upd_same) hl (t.mono s2))
theorem ve_lst (h : VA X es tl) (n : es.length ≤ sizeLine := by decide) : VE X (.List es pos) (dLst tl) :=
  VE.mk (pe_lst h) fun σ H F τ M Q Q' s l q u => by
    refine ⟨F, τ, M, _, s, l, q, fun xs M1 vs H1 F1 hn q1 s1 r1 rv => ?_⟩
    obtain ⟨ds, t, e, q2⟩ := oAll_ok q1 rv
    have hl : vs.length ≤ sizeLine := by rw [rv.length, hn]; exact n
    refine ⟨hl, fun p hp => ?_⟩
    obtain ⟨s2, r2⟩ := r1.newF hp (.lst vs)
    exact u _ _ _ _ _ q2 (s1.trans s2) r2 (.lst upd_same hl (t.mono s2))
theorem ve_lstM (h : VA X es tl) (n : es.length ≤ sizeLine := by decide) : VE X (.List es pos) (dLstM tl) :=
  VE.mk (pe_lst h) fun σ H F τ M Q Q' s l q u => by
    refine ⟨F, τ, M, _, s, l, q, fun xs M1 vs H1 F1 hn q1 s1 r1 rv => ?_⟩
    have hl : vs.length ≤ sizeLine := by rw [rv.length, hn]; exact n
    refine ⟨hl, fun p hp => ?_⟩
    exact u _ _ _ _ _ (q1 p (r1.free hp).2) s1 (r1.newM (u := .lst xs) (o := .lst vs) hp ⟨hl, rv⟩) rfl

/-! ### calls of what is built in -/
abbrev DC := List DV → DH → DQ → Prop
def upC (K : PySem.W.Frag) (r : DC) : List V → Hp → VK → Prop := fun vs H Q' => ∃ F M xs Q, SR K H F M ∧ RVs K F vs xs ∧ r xs M Q ∧ Up K F Q Q'
def VC (X : Cx) (f : Value) (r : DC) : Prop := CallR X f (upC X.K r)
def dCall (r : DC) (t : DA) : DE := fun τ M Q => t τ M fun xs M1 => r xs M1 Q
variable {x : Str} {p : Pos} {id T : String} {r : DC}
theorem up_call {σ : St} {H F : Hp} {τ : Ds} {M : DH} {Q : DQ} {Q' : VK} {n : Nat} (s : SR X.K H F M) (l : SL X.K F σ τ) (q : dCall r tl τ M Q) (u : Up X.K F Q Q') : tCB (upC X.K r) (upA X.K n tl) σ H Q' := by
  refine ⟨F, τ, M, _, s, l, q, fun xs M1 vs H1 F1 hn q1 s1 r1 rv => ?_⟩
  exact ⟨F1, M1, xs, Q, r1, rv, q1, u.later s1⟩
theorem ve_callB (hc : VC X (.builtin id) r) (hg : Gl X x) (hm : X.mg x = none) (hv : bootBuiltins x = some (.builtin id)) (ha : VA X (e :: es) tl) (hn : x ≠ "__name__" := by decide) (hdb : (x == ("__debug__" : Str)) = false := by decide)
    (he : starEach (e :: es) X.env = (false, eval e X.env) :: starEach es X.env := by rfl) (hpl : (backTo pos (starEach es X.env)).any (·.1) = false := by rfl) : VE X (.Call (.Name x p) (e :: es) [] pos) (dCall r tl) :=
  VE.mk (pe_callB hc hg hm hv ha hn hdb he hpl) fun σ H F τ M Q Q' s l q u => up_call s l q u
theorem ve_callTy (hc : VC X (.type T) r) (hg : Gl X x) (hm : X.mg x = none) (hv : bootBuiltins x = some (.type T)) (ha : VA X (e :: es) tl) (hn : x ≠ "__name__" := by decide) (hdb : (x == ("__debug__" : Str)) = false := by decide)
    (he : starEach (e :: es) X.env = (false, eval e X.env) :: starEach es X.env := by rfl) (hpl : (backTo pos (starEach es X.env)).any (·.1) = false := by rfl) : VE X (.Call (.Name x p) (e :: es) [] pos) (dCall r tl) :=
  VE.mk (pe_callTy hc hg hm hv ha hn hdb he hpl) fun σ H F τ M Q Q' s l q u => up_call s l q u
theorem ve_bltn {v : V} {w : Value} (hg : Gl X x) (hm : X.mg x = none) (hv : bootBuiltins x = some w) (r : RelV v w) (hn : x ≠ "__name__" := by decide) (hd : (x == ("__debug__" : Str)) = false := by decide) : VE X (.Name x pos) (dW v) := ve_raw (pe_bltn hg hm hv r hn hd)

theorem rvs1 {K : PySem.W.Frag} {F : Hp} {vs : List V} {x : DV} (h : RVs K F vs [x]) : ∃ v, vs = [v] ∧ RV K F v x := by
  cases h with | cons r t => cases t; exact ⟨_, rfl, r⟩
theorem rvs2 {K : PySem.W.Frag} {F : Hp} {vs : List V} {x y : DV} (h : RVs K F vs [x, y]) : ∃ v w, vs = [v, w] ∧ RV K F v x ∧ RV K F w y := by
  cases h with | cons r t => cases t with | cons r2 t2 => cases t2; exact ⟨_, _, rfl, r, r2⟩
/-- one argument -/
def d1 (g : DV → DH → DQ → Prop) : DC := fun xs M Q => match xs with
  | [x] => g x M Q
  | _ => False
theorem vc_1 {f : Value} {g : DV → DH → DQ → Prop} {r0 : List V → Hp → VK → Prop} (h : CallR X f r0)
    (i : ∀ H F M x v Q Q', SR X.K H F M → RV X.K F v x → g x M Q → Up X.K F Q Q' → r0 [v] H Q') : VC X f (d1 g) := by
  intro pins s σ H vs us Q' I rv ⟨F, M, xs, Q, sr, rvs, q, u⟩
  unfold d1 at q
  split at q
  · obtain ⟨v, rfl, r1⟩ := rvs1 rvs
    exact h pins s σ H _ us Q' I rv (i H F M _ v Q Q' sr r1 q u)
  · exact q.elim
def lenOf (M : DH) : DV → Option Nat
  | .d (.str x) => some x.length
  | .d (.list xs) => some xs.length
  | .d (.tuple xs) => some xs.length
  | .w (.ref a) => match lstAt (M a) with
    | some xs => some xs.length
    | none => none
  | _ => none
def gLen : DV → DH → DQ → Prop := fun x M Q => match lenOf M x with
  | some n => Q (.d (.int n)) M
  | none => False
theorem len_ok {K : PySem.W.Frag} {H F : Hp} {M : DH} {x : DV} {v : V} {k : Nat} (s : SR K H F M) (r : RV K F v x) (e : lenOf M x = some k) : LenV K v H k := by
  cases x with
  | d x =>
    have r : Rp K F v x := r
    cases r with
    | str y h1 h2 => cases e; exact ⟨h2, rfl⟩
    | lst h l t => cases e; exact .inl ⟨_, SqL.of (s.sub _ _ h), t.length.symm⟩
    | tup h l t => cases e; exact .inr ⟨_, SqT.same s.sub h, t.length.symm⟩
    | _ => cases e
  | w u =>
    cases u <;> first | cases e; done | skip
    rename_i a
    have r : v = .ref a := r
    subst r
    have e : (match lstAt (M a) with | some xs => some xs.length | none => none) = some k := e
    split at e
    · rename_i xs e1
      cases e
      obtain ⟨vs, h1, h2, _⟩ := s.raw e1
      exact .inl ⟨vs, h1, h2.length.symm⟩
    · cases e
theorem vc_len : VC X (.builtin "len") (d1 gLen) := vc_1 call_len fun H F M x v Q Q' s r q u => by
  unfold gLen at q
  split at q
  · rename_i n e
    exact ⟨v, n, rfl, len_ok s r e, u.now q s (.int _)⟩
  · exact q.elim
def gAbs : DV → DH → DQ → Prop := fun x M Q => match x with
  | .d (.int i) => Q (.d (.int (if i < 0 then -i else i))) M
  | _ => False
theorem vc_abs : VC X (.builtin "abs") (d1 gAbs) := vc_1 call_abs fun H F M x v Q Q' s r q u => by
  unfold gAbs at q
  split at q
  · have r : Rp X.K F v _ := r
    cases r
    exact ⟨_, rfl, u.now q s (.int _)⟩
  · exact q.elim
def gInt : DV → DH → DQ → Prop := fun x M Q => match x with
  | .d (.int i) => Q (.d (.int i)) M
  | .d (.bool b) => Q (.d (.int (if b then 1 else 0))) M
  | _ => False
theorem vc_int : VC X (.type "int") (d1 gInt) := vc_1 call_int1 fun H F M x v Q Q' s r q u => by
  unfold gInt at q
  split at q
  · have r : Rp X.K F v _ := r
    cases r
    exact .inl ⟨_, rfl, u.now q s (.int _)⟩
  · have r : Rp X.K F v _ := r
    cases r
    exact .inr ⟨_, rfl, u.now q s (.int _)⟩
  · exact q.elim
/-- tuple(xs), list(xs) of data -/
def seqD (M : DH) (x : DV) : Option (List PyData) := match seqOf M x with
  | some xs => dAll xs
  | none => none
theorem SR.seqD {K : PySem.W.Frag} {H F : Hp} {M : DH} {x : DV} {v : V} {ds : List PyData} (s : SR K H F M) (r : RV K F v x) (e : seqD M x = some ds) : ∃ a vs, v = .ref a ∧ (SqL K H a vs ∨ SqT K H a vs) ∧ RpAll K F vs ds ∧ vs.length ≤ sizeLine := by
  unfold VS.seqD at e
  split at e
  · rename_i xs e1
    obtain ⟨a, vs, h1, h2, h3, h4⟩ := s.seq r e1
    rw [dAll_map e] at h3
    exact ⟨a, vs, h1, h2, rvs_all h3, h4⟩
  · cases e
end
end VS

end

section
set_option Elab.async false
set_option linter.all false
set_option maxRecDepth 100000
set_option maxHeartbeats 4000000
/-! VS, part 4: more calls, subscripts, slices, in. -/
namespace VS
open PySem L2

section
variable {X : Cx} {e a b c : Expr} {ta tb tc : DE} {pos : Pos} {es : List Expr} {tl : DA}

/-! ### tuple, list, all, any, isinstance -/
def oSome {α : Type} (o : Option α) (k : α → Prop) : Prop := match o with
  | some x => k x
  | none => False
theorem oSome_ok {α : Type} {o : Option α} {k : α → Prop} (h : oSome o k) : ∃ x, o = some x ∧ k x := by
  cases o with
  | none => exact h.elim
  | some x => exact ⟨x, rfl, h⟩
theorem SR.seqR {K : PySem.W.Frag} {H F : Hp} {M : DH} {x : DV} {v : V} {ds : List PyData} (s : SR K H F M) (r : RV K F v x) (e : VS.seqD M x = some ds) :
    (x = .d (.tuple ds) ∧ ∃ a vs, v = .ref a ∧ SqT K H a vs ∧ RpAll K F vs ds ∧ vs.length ≤ sizeLine) ∨ ∃ a vs, v = .ref a ∧ SqL K H a vs ∧ RpAll K F vs ds ∧ vs.length ≤ sizeLine := by
  cases x with
  | d x =>
    cases x with
    | tuple ds' =>
      have e : dAll (ds'.map .d) = some ds := e
      rw [dAll_of_map] at e
      cases e
      have r : Rp K F _ _ := r
      cases r with | tup h l t => exact .inl ⟨rfl, _, _, rfl, SqT.same s.sub h, t, l⟩
    | list ds' =>
      have e : dAll (ds'.map .d) = some ds := e
      rw [dAll_of_map] at e
      cases e
      have r : Rp K F _ _ := r
      cases r with | lst h l t => exact .inr ⟨_, _, rfl, SqL.of (s.sub _ _ h), t, l⟩
    | _ => cases e
  | w y =>
    unfold VS.seqD at e
    split at e
    · rename_i xs e1
      have e2 := dAll_map e
      subst e2
      cases y <;> first | cases e1; done | skip
      rename_i a
      obtain ⟨vs, h1, h2, h3⟩ := s.raw (a := a) e1
      exact .inr ⟨a, vs, r, h1, rvs_all h2, h3⟩
    · cases e
def gTuple : DV → DH → DQ → Prop := fun x M Q => oSome (seqD M x) fun ds => Q (.d (.tuple ds)) M
theorem vc_tuple : VC X (.type "tuple") (d1 gTuple) := vc_1 call_tuple_of fun H F M x v Q Q' s r q0 u => by
  obtain ⟨ds, e, q⟩ := oSome_ok q0
  clear q0
  rcases s.seqR r e with ⟨rfl, p, vs, rfl, h, t, l⟩ | ⟨p, vs, rfl, h, t, l⟩
  · exact ⟨p, vs, rfl, .inr ⟨h, u _ _ _ _ _ q (Same.refl _) s r⟩⟩
  · refine ⟨p, vs, rfl, .inl ⟨h, fun k hk => ?_⟩⟩
    obtain ⟨s2, r2⟩ := s.newF hk (.tup vs)
    exact u _ _ _ _ _ q s2 r2 (.tup (SqT.of upd_same) l (t.mono s2))
def gList : DV → DH → DQ → Prop := fun x M Q => oSome (seqD M x) fun ds => Q (.d (.list ds)) M
theorem vc_list : VC X (.type "list") (d1 gList) := vc_1 call_list_of fun H F M x v Q Q' s r q u => by
  obtain ⟨ds, e, q⟩ := oSome_ok q
  obtain ⟨p, vs, rfl, h, t, l⟩ := s.seqD r e
  refine ⟨p, vs, rfl, h, fun k hk => ?_⟩
  obtain ⟨s2, r2⟩ := s.newF hk (.lst vs)
  exact u _ _ _ _ _ q s2 r2 (.lst upd_same l (t.mono s2))
def gListM : DV → DH → DQ → Prop := fun x M Q => oSome (seqOf M x) fun xs => wLst M xs Q
theorem vc_listM : VC X (.type "list") (d1 gListM) := vc_1 call_list_of fun H F M x v Q Q' s r q u => by
  obtain ⟨xs, e, q⟩ := oSome_ok q
  obtain ⟨p, vs, rfl, h, t, l⟩ := s.seq r e
  refine ⟨p, vs, rfl, h, fun k hk => ?_⟩
  exact u _ _ _ _ _ (q k (s.free hk).2) (Same.refl _) (s.newM (u := .lst xs) (o := .lst vs) hk ⟨l, t⟩) rfl
def boolsOf : List PyData → Option (List Bool)
  | [] => some []
  | .bool b :: r => match boolsOf r with
    | some bs => some (b :: bs)
    | none => none
  | _ :: _ => none
theorem boolsOf_map {α : Type} (f : α → Bool) : ∀ xs : List α, boolsOf (xs.map fun x => .bool (f x)) = some (xs.map f)
  | [] => rfl
  | x :: xs => by
    show (match boolsOf (xs.map fun x => .bool (f x)) with | some bs => some (f x :: bs) | none => none) = _
    rw [boolsOf_map f xs]; rfl
theorem boolsOf_eq : ∀ {ds : List PyData} {bs : List Bool}, boolsOf ds = some bs → ds = bs.map .bool
  | [], _, h => by cases h; rfl
  | .bool b :: r, bs, h => by
    unfold boolsOf at h
    split at h
    · rename_i es e; cases h; rw [boolsOf_eq e]; rfl
    · cases h
  | .none :: _, _, h => by cases h
  | .int _ :: _, _, h => by cases h
  | .str _ :: _, _, h => by cases h
  | .list _ :: _, _, h => by cases h
  | .tuple _ :: _, _, h => by cases h
  | .dict _ :: _, _, h => by cases h
theorem rp_bools {K : PySem.W.Frag} {F : Hp} : ∀ {vs : List V} {bs : List Bool}, RpAll K F vs (bs.map .bool) → vs = bs.map V.bl
  | _, [], .nil => rfl
  | _, _ :: _, .cons r t => by cases r; rw [rp_bools t]; rfl
def lsD (M : DH) : DV → Option (List PyData)
  | .d (.list ds) => some ds
  | .w (.ref a) => match lstAt (M a) with
    | some xs => dAll xs
    | none => none
  | _ => none
theorem SR.lsD {K : PySem.W.Frag} {H F : Hp} {M : DH} {x : DV} {v : V} {ds : List PyData} (s : SR K H F M) (r : RV K F v x) (e : VS.lsD M x = some ds) : ∃ a vs, v = .ref a ∧ SqL K H a vs ∧ RpAll K F vs ds ∧ vs.length ≤ sizeLine := by
  cases x with
  | d x =>
    cases x <;> first | cases e; done | skip
    cases e
    have r : Rp K F v _ := r
    cases r with | lst h l t => exact ⟨_, _, rfl, SqL.of (s.sub _ _ h), t, l⟩
  | w u =>
    cases u <;> first | cases e; done | skip
    rename_i a
    have r : v = .ref a := r
    have e : (match lstAt (M a) with | some xs => dAll xs | none => none) = some ds := e
    split at e
    · rename_i xs e1
      obtain ⟨vs, h1, h2, h3⟩ := s.raw e1
      rw [dAll_map e] at h2
      exact ⟨a, vs, r, h1, rvs_all h2, h3⟩
    · cases e
def gAll : DV → DH → DQ → Prop := fun x M Q => oSome (lsD M x) fun ds => oSome (boolsOf ds) fun bs => Q (.d (.bool (bs.all id))) M
def gAny : DV → DH → DQ → Prop := fun x M Q => oSome (lsD M x) fun ds => oSome (boolsOf ds) fun bs => Q (.d (.bool (bs.any id))) M
theorem vc_all (hc : X.calm = true) : VC X (.builtin "all") (d1 gAll) := vc_1 (cr_all hc) fun H F M x v Q Q' s r q u => by
  obtain ⟨ds, e, q⟩ := oSome_ok q
  obtain ⟨bs, e2, q⟩ := oSome_ok q
  obtain ⟨p, vs, rfl, h, t, l⟩ := s.lsD r e
  rw [boolsOf_eq e2] at t
  rw [rp_bools t] at h
  exact ⟨p, bs, rfl, h, u.now q s (.bl _)⟩
theorem vc_any (hc : X.calm = true) : VC X (.builtin "any") (d1 gAny) := vc_1 (cr_any hc) fun H F M x v Q Q' s r q u => by
  obtain ⟨ds, e, q⟩ := oSome_ok q
  obtain ⟨bs, e2, q⟩ := oSome_ok q
  obtain ⟨p, vs, rfl, h, t, l⟩ := s.lsD r e
  rw [boolsOf_eq e2] at t
  rw [rp_bools t] at h
  exact ⟨p, bs, rfl, h, u.now q s (.bl _)⟩
def tyOf (M : DH) : DV → Option String
  | .d .none => some "NoneType"
  | .d (.bool _) => some "bool"
  | .d (.int _) => some "int"
  | .d (.str _) => some "str"
  | .d (.list _) => some "list"
  | .d (.tuple _) => some "tuple"
  | .d (.dict _) => some "dict"
  | .w (.ref a) => match lstAt (M a) with
    | some _ => some "list"
    | none => none
  | _ => none
def isB (a b : String) : Bool := a == b || (a == "bool" && b == "int")
def tyNames : List String := ["NoneType", "bool", "int", "str", "list", "tuple", "dict"]
def tyOk (b : String) : Bool := tyNames.all fun a => kitB a b == some (isB a b)
theorem ty_ok {K : PySem.W.Frag} {H F : Hp} {M : DH} {x : DV} {v : V} {T : String} (s : SR K H F M) (r : RV K F v x) (e : tyOf M x = some T) : TyX K H v (.type T) ∧ T ∈ tyNames := by
  cases x with
  | d x =>
    have r : Rp K F v x := r
    cases r with
    | non => cases e; exact ⟨.base .non, by simp [tyNames]⟩
    | bl b => cases e; exact ⟨.base (.bl _), by simp [tyNames]⟩
    | int i => cases e; exact ⟨.base (.int _), by simp [tyNames]⟩
    | str y h1 h2 => cases e; exact ⟨.base (.str _), by simp [tyNames]⟩
    | lst h l t => cases e; exact ⟨.base (.lst (s.sub _ _ h)), by simp [tyNames]⟩
    | tup h l t =>
      cases e
      refine ⟨?_, by simp [tyNames]⟩
      rcases SqT.same s.sub h with (h | ⟨o, h⟩) | ⟨o, its, n, h, hc, _⟩
      · exact .base (.tup h)
      · exact .fTuple h
      · exact .kTuple h hc
    | dct h l t =>
      cases e
      refine ⟨?_, by simp [tyNames]⟩
      rcases Rd.same s.sub h with h | ⟨o, h⟩
      · exact .base (.dK h)
      · exact .fDict h
  | w u =>
    cases u <;> first | cases e; done | skip
    rename_i a
    have r : v = .ref a := r
    subst r
    have e : (match lstAt (M a) with | some _ => some "list" | none => none) = some T := e
    split at e
    · rename_i xs e1
      cases e
      refine ⟨?_, by simp [tyNames]⟩
      obtain ⟨vs, h1, _, _⟩ := s.raw e1
      rcases h1 with (h | ⟨o, h⟩) | ⟨o, its, n, h, hc, _⟩
      · exact .base (.lst h)
      · exact .base (.frz h)
      · exact .kList h hc
    · cases e
def rIsiV : DC := fun xs M Q => match xs with
  | [x, .w (.ty b)] => oSome (tyOf M x) fun a => tyOk b = true ∧ Q (.d (.bool (isB a b))) M
  | _ => False
theorem vc_isi : VC X (.builtin "isinstance") rIsiV := by
  intro pins s σ H vs us Q' I rv ⟨F, M, xs, Q, sr, rvs, q, u⟩
  unfold rIsiV at q
  split at q
  · rename_i x b
    obtain ⟨v, w, rfl, r1, r2⟩ := rvs2 rvs
    cases (show w = .ty b from r2)
    obtain ⟨T, e, ok, q⟩ := oSome_ok q
    obtain ⟨t1, t2⟩ := ty_ok sr r1 e
    refine call_isi pins s σ H _ us Q' I rv ⟨v, .ty b, .type T, .type b, isB T b, rfl, .ty b, t1, kit_ty ?_, u.now q sr (.bl _)⟩
    unfold tyOk at ok
    rw [List.all_eq_true] at ok
    exact eq_of_beq (ok T t2)
  · exact q.elim

/-! ### subscripts -/
theorem strOk_mem {z : Str} {c : Nat} (h : PyData.strOk z = true) (m : c ∈ z.cps.toList) : c < 0x110000 := by
  unfold PyData.strOk at h
  rw [← Array.all_toList, List.all_eq_true] at h
  exact of_decide_eq_true (h c m)
theorem strOk_one {c : Nat} (h : c < 0x110000) : PyData.strOk ⟨#[c]⟩ = true := by
  unfold PyData.strOk
  rw [← Array.all_toList]
  simpa using h
theorem strOk_of {l : List Nat} (h : ∀ c ∈ l, c < 0x110000) : PyData.strOk ⟨l.toArray⟩ = true := by
  unfold PyData.strOk
  rw [← Array.all_toList, List.all_eq_true]
  intro c hc
  exact decide_eq_true (h c (by simpa using hc))
def sg (c : Nat) : Str := ⟨#[c]⟩
def gIx : D2 := fun x y M Q => match y with
  | .d (.int i) => match x with
    | .d (.str z) => oSome (atI z.cps.toList i) fun c => Q (.d (.str (sg c))) M
    | x => oSome (seqOf M x) fun ys => oSome (atI ys i) fun z => Q z M
  | _ => False
theorem atI_get {α β : Type} {xs : List α} {ys : List β} {i : Int} {y : β} (hl : xs.length = ys.length) (h : atI ys i = some y) : ∃ j : Nat, ys[j]? = some y ∧ atI xs i = xs[j]? := by
  unfold atI at h ⊢
  rw [hl]
  cases e : ixN ys.length i with
  | none => rw [e] at h; cases h
  | some j => rw [e] at h; exact ⟨j, h, rfl⟩
theorem atI_mem {α : Type} {xs : List α} {i : Int} {x : α} (h : atI xs i = some x) : x ∈ xs := by
  unfold atI at h
  cases e : ixN xs.length i with
  | none => rw [e] at h; cases h
  | some j => rw [e] at h; exact List.mem_of_getElem? h
theorem vx_ix : IxR X (upR2 X.K gIx) := by
  intro value slice pins s σ H v w u1 u2 Q' I r1 r2 ⟨F, M, x, y, Q, sr, rv, rw', q, up⟩ hs
  unfold gIx at q
  split at q
  · rename_i i
    have rw' : Rp X.K F w _ := rw'
    cases rw'
    refine ix_seq value slice pins s σ H v (.int i) u1 u2 Q' I r1 r2 ?_ hs
    split at q
    · rename_i z
      have rv : Rp X.K F v _ := rv
      cases rv with
      | str _ o1 l1 =>
        obtain ⟨c, e, q⟩ := oSome_ok q
        refine .inr (.inr ⟨z, i, c, rfl, rfl, l1, e, up.now q sr (.str _ (strOk_one (strOk_mem o1 (atI_mem e))) ?_)⟩)
        show 1 ≤ sizeLine; decide
    · obtain ⟨ys, e, q⟩ := oSome_ok q
      obtain ⟨z, e2, q⟩ := oSome_ok q
      obtain ⟨p, vs, rfl, h, t, l⟩ := sr.seq rv e
      obtain ⟨j, g1, g2⟩ := atI_get (xs := vs) t.length e2
      obtain ⟨vz, g3, rz⟩ := t.get g1
      rcases h with h | h
      · exact .inl ⟨p, vs, i, vz, rfl, rfl, h, g2.trans g3, up.now q sr rz⟩
      · exact .inr (.inl ⟨p, vs, i, vz, rfl, rfl, h, g2.trans g3, up.now q sr rz⟩)
  · exact q.elim
theorem ve_ix (ha : VE X a ta) (hb : VE X b tb) (hs : PlainIx b := by intro _ _; rfl) : VE X (.Subscript a b pos) (dOp gIx ta tb) :=
  VE.mk (pe_ix vx_ix ha hb hs) fun σ H F τ M Q Q' s l q u => up_tOp s l q u
/-- d[k] -/
def keyIsD : PyData → PyData → Bool
  | .int i, .int j => i == j
  | .str x, .str y => x == y
  | _, _ => false
def valD : List (PyData × PyData) → PyData → Option PyData
  | [], _ => none
  | (k, v) :: r, y => if keyIsD k y = true then some v else valD r y
def keyD : PyData → Option Key
  | .int i => some (.inl i)
  | .str x => some (.inr x)
  | _ => none
theorem keyIsD_kD (k k' : Key) : keyIsD (kD k) (kD k') = decide (k = k') := by
  cases k <;> cases k' <;> simp [kD, keyIsD, Bool.beq_eq_decide_eq]
theorem keyD_some {y : PyData} {k : Key} (h : keyD y = some k) : y = kD k := by
  cases y <;> first | (cases h; rfl) | cases h
theorem rp_key {K : PySem.W.Frag} {F : Hp} {v : V} {k : Key} (h : Rp K F v (kD k)) : v = kV k := by
  cases k <;> (cases h; rfl)
theorem rpkv_get {K : PySem.W.Frag} {F : Hp} {k : Key} : ∀ {kvs : List (Key × V)} {es : List (PyData × PyData)}, RpKV K F kvs es → match valD es (kD k) with
    | some d => ∃ v, valV kvs k = some v ∧ Rp K F v d
    | none => valV kvs k = none
  | _, _, .nil => rfl
  | _, _, @RpKV.cons _ _ k' v vs d ds r t => by
    have ih := rpkv_get (k := k) t
    unfold valD
    rw [keyIsD_kD]
    by_cases e : k' = k
    · rw [decide_eq_true e, if_pos rfl]
      exact ⟨v, valV_pos (p := (k', v)) e, r⟩
    · rw [decide_eq_false e, if_neg Bool.false_ne_true]
      have e2 : valV ((k', v) :: vs) k = valV vs k := by simp [valV, List.find?_cons, e]
      rw [e2]
      exact ih
/-- the pairs of a dict, as they are read -/
def gDGet : D2 := fun x y M Q => match x, y with
  | .d (.dict es), .d k => oSome (keyD k) fun _ => oSome (valD es k) fun z => Q (.d z) M
  | _, _ => False
theorem rd_get {K : PySem.W.Frag} {H F : Hp} {M : DH} {a : Addr} {kvs : List (Key × V)} (s : SR K H F M) (h : Rd F a (.dK kvs)) (k : Key) : DGet H a (kV k) (valV kvs k) := .inl ⟨kvs, k, Rd.same s.sub h, rfl, rfl⟩
theorem ve_dget (hu : X.A.units + 1 < cLine) (ha : VE X a ta) (hb : VE X b tb) (hs : NoSl b := by intro _ _; rfl) : VE X (.Subscript a b pos) (dOp gDGet ta tb) :=
  VE.mk (pe_dget hu ha hb hs) fun σ H F τ M Q Q' s l q u => by
    refine ⟨F, τ, M, _, s, l, q, fun x M1 v H1 F1 q1 s1 r1 rv => ?_⟩
    refine ⟨F1, τ, M1, _, r1, l.mono s1, q1, fun y M2 w H2 F2 q2 s2 r2 rw' => ?_⟩
    unfold gDGet at q2
    split at q2
    · rename_i es k
      obtain ⟨kk, e1, q3⟩ := oSome_ok q2
      obtain ⟨z, e2, q4⟩ := oSome_ok q3
      clear q2 q3
      have rv : Rp X.K F1 v _ := rv
      have rw' : Rp X.K F2 w k := rw'
      have e3 := keyD_some e1
      subst e3
      have e4 := rp_key rw'
      subst e4
      cases rv with
      | dct h1 l1 t1 =>
        have g := rpkv_get (k := kk) t1
        rw [e2] at g
        obtain ⟨vz, g1, g2⟩ := g
        refine ⟨_, vz, rfl, ?_, u _ _ _ _ _ q4 (s1.trans s2) r2 (Rp.mono s2 g2)⟩
        rw [← g1]
        exact rd_get r2 (Rd.same s2 h1) kk
    · exact q2.elim
end
end VS

end

section
set_option Elab.async false
set_option linter.all false
set_option maxRecDepth 100000
set_option maxHeartbeats 4000000
/-! VS, part 5: statements, targets, loops, comprehensions. -/
namespace VS
open PySem PySem.Spec PyProof.Rows L2

/-! ### what a loop walks -/
section
variable {X : Cx} {tg : Expr}
def iAny (K : PySem.W.Frag) (tl : TE) : TI := fun σ H R => tl σ H fun x H1 => (∃ a, x = .ref a ∧ (∃ xs, SqL K H1 a xs) ∧ R (Itl K a) H1) ∨ (∃ a, x = .ref a ∧ (∃ xs, SqT K H1 a xs) ∧ R (Itt K a) H1) ∨ ∃ z, x = .str z ∧ R (Its z) H1
theorem pi_any {l : Expr} {tl : TE} (hl : PE X l tl) : PI X tg l (iAny X.K tl) := by
  refine ⟨fun pins s σ H R I h => ?_⟩
  refine thn (hl.run pins s σ H _ I h) fun v s1 ⟨x, H1, I1, r1, q1⟩ => ?_
  rcases q1 with ⟨a, e, ⟨xs, hq⟩, q⟩ | ⟨a, e, ⟨xs, hq⟩, q⟩ | ⟨z, e, q⟩
  · subst e
    cases r1
    obtain ⟨its, rv, p, hz⟩ := I1.list hq
    refine wpAny_pyIter_list p.isList ?_
    refine ⟨s1.heap.objs.size, [s1.heap.objs.size], _, _, H1, rfl, I1.kept (t' := s1.toks) fun b o e => Heap.get?_push_of_some _ e, turn_list a _, ⟨_, Heap.get?_push_size _ rfl, rfl, rfl⟩, fun b hb => ?_, q⟩
    have e : b = s1.heap.objs.size := by simpa using hb
    subst e
    exact I1.fpOk (Nat.le_refl _) (I1.hok.fresh (Nat.le_refl _))
  · subst e
    cases r1
    obtain ⟨its, rv, p, hz⟩ := I1.tuple hq
    refine wpAny_pyIter_tuple (show s1.heap.IsTuple a its.toArray from p) ?_
    refine ⟨s1.heap.objs.size, [s1.heap.objs.size], _, _, H1, rfl, I1.kept (t' := s1.toks) fun b o e => Heap.get?_push_of_some _ e, turn_tuple a _, ⟨_, Heap.get?_push_size _ rfl, rfl, rfl⟩, fun b hb => ?_, q⟩
    have e : b = s1.heap.objs.size := by simpa using hb
    subst e
    exact I1.fpOk (Nat.le_refl _) (I1.hok.fresh (Nat.le_refl _))
  · subst e
    obtain ⟨t, rfl⟩ := r1
    cases ha : z.cps.all (· < 128)
    · exact wpAny_pyIter_wide ha (pi_one (tk := s1.toks) I1 _ (turn_str _ z t "str_iterator" (.inr rfl)) ⟨_, Heap.get?_push_size _ rfl, rfl, rfl⟩ q)
    · exact wpAny_pyIter_ascii ha (pi_one (tk := s1.toks) I1 _ (turn_str _ z t "str_ascii_iterator" (.inl rfl)) ⟨_, Heap.get?_push_size _ rfl, rfl, rfl⟩ q)
end

structure Yl (K : PySem.W.Frag) (F0 : Hp) (J : It) (items : List DV) (stay : DH → Prop) : Prop where
  go : ∀ i H F M, i < items.length → Same F0 F → SR K H F M → stay M → J.go i H
  yld : ∀ (i : Nat) H F M x H' d, items[i]? = some d → Same F0 F → SR K H F M → stay M → J.yld i H x H' → ∃ F', Same F F' ∧ SR K H' F' M ∧ RV K F' x d
  stop : ∀ H F M, Same F0 F → SR K H F M → stay M → J.stop items.length H
  new : ∀ M D o, M D = none → stay M → stay (updM M D o)
  len : items.length ≤ sizeLine
abbrev DI := Ds → DH → (List DV → (DH → Prop) → DH → Prop) → Prop
def upI (K : PySem.W.Frag) (t : DI) : TI := fun σ H R => ∃ F τ M Q, SR K H F M ∧ SL K F σ τ ∧ t τ M Q ∧
  ∀ items stay M' J H' F', Q items stay M' → Same F F' → SR K H' F' M' → Yl K F' J items stay → R J H'
def VI (X : Cx) (tg iter : Expr) (t : DI) : Prop := PI X tg iter (upI X.K t)
theorem PI.imp {X : Cx} {tg e : Expr} {t t' : TI} (h : PI X tg e t) (i : ∀ σ H Q, t' σ H Q → t σ H Q) : PI X tg e t' := ⟨fun pins s σ H Q I q => h.run pins s σ H Q I (i σ H Q q)⟩
/-- lists, tuples, texts -/
def itOf (M : DH) (x : DV) (k : List DV → (DH → Prop) → Prop) : Prop := match x with
  | .d (.list ds) => k (ds.map .d) fun _ => True
  | .d (.tuple ds) => k (ds.map .d) fun _ => True
  | .d (.str z) => k (z.cps.toList.map fun c => .d (.str (sg c))) fun _ => True
  | .w (.ref a) => oSome (lstAt (M a)) fun xs => k xs fun M' => lstAt (M' a) = some xs
  | _ => False
def iSeq (t : DE) : DI := fun τ M Q => t τ M fun x M1 => itOf M1 x fun items stay => Q items stay M1
section
variable {X : Cx} {tg e a b : Expr} {te ta tb : DE} {pos : Pos}
theorem yl_list {K : PySem.W.Frag} {F0 : Hp} {a : Addr} {items : List DV} {stay : DH → Prop} (nw : ∀ M D o, M D = none → stay M → stay (updM M D o)) (ln : items.length ≤ sizeLine) (h : ∀ H F M, Same F0 F → SR K H F M → stay M → ∃ vs, SqL K H a vs ∧ RVs K F vs items) : Yl K F0 (Itl K a) items stay where
  go := fun i H F M hi s r st => by
    obtain ⟨vs, h1, h2⟩ := h H F M s r st
    have hl := h2.length
    exact ⟨vs, vs[i]'(by omega), h1, List.getElem?_eq_getElem (by omega)⟩
  yld := fun i H F M x H' d hd s r st ⟨e, y⟩ => by
    subst e
    obtain ⟨vs, h1, h2⟩ := h _ F M s r st
    obtain ⟨v, g1, g2⟩ := h2.get hd
    have := (y vs h1).symm.trans g1
    cases this
    exact ⟨F, Same.refl _, r, g2⟩
  stop := fun H F M s r st => by
    obtain ⟨vs, h1, h2⟩ := h H F M s r st
    exact ⟨vs, h1, Nat.le_of_eq h2.length⟩
  new := nw
  len := ln
theorem yl_tup {K : PySem.W.Frag} {F0 : Hp} {a : Addr} {items : List DV} {stay : DH → Prop} (nw : ∀ M D o, M D = none → stay M → stay (updM M D o)) (ln : items.length ≤ sizeLine) (h : ∀ H F M, Same F0 F → SR K H F M → stay M → ∃ vs, SqT K H a vs ∧ RVs K F vs items) : Yl K F0 (Itt K a) items stay where
  go := fun i H F M hi s r st => by
    obtain ⟨vs, h1, h2⟩ := h H F M s r st
    have hl := h2.length
    exact ⟨vs, vs[i]'(by omega), h1, List.getElem?_eq_getElem (by omega)⟩
  yld := fun i H F M x H' d hd s r st ⟨e, y⟩ => by
    subst e
    obtain ⟨vs, h1, h2⟩ := h _ F M s r st
    obtain ⟨v, g1, g2⟩ := h2.get hd
    have := (y vs h1).symm.trans g1
    cases this
    exact ⟨F, Same.refl _, r, g2⟩
  stop := fun H F M s r st => by
    obtain ⟨vs, h1, h2⟩ := h H F M s r st
    exact ⟨vs, h1, Nat.le_of_eq h2.length⟩
  new := nw
  len := ln
theorem yl_str {K : PySem.W.Frag} {F0 : Hp} {z : Str} (o : PyData.strOk z = true) (hl : z.length ≤ sizeLine) : Yl K F0 (Its z) (z.cps.toList.map fun c => .d (.str (sg c))) (fun _ => True) where
  go := fun i H F M hi s r st => by
    show i < z.cps.size
    simpa using hi
  yld := fun i H F M x H' d hd s r st ⟨e, c, hc, ex⟩ => by
    subst e ex
    rw [List.getElem?_map, Array.getElem?_toList, hc] at hd
    cases hd
    refine ⟨F, Same.refl _, r, Rp.str _ (strOk_one (strOk_mem o ?_)) (by show 1 ≤ sizeLine; decide)⟩
    rw [← Array.getElem?_toList] at hc
    exact List.mem_of_getElem? hc
  stop := fun H F M s r st => by
    show z.cps.size ≤ _
    simp
  new := fun _ _ _ _ _ => trivial
  len := by
    have : z.cps.size ≤ sizeLine := hl
    simpa using this
theorem vi_seq (he : VE X e te) : VI X tg e (iSeq te) := PI.imp (pi_any he) fun σ H R ⟨F, τ, M, Q, s, l, q, u⟩ => by
  refine ⟨F, τ, M, _, s, l, q, fun x M1 v H1 F1 q1 s1 r1 rv => ?_⟩
  unfold itOf at q1
  split at q1
  · have rv : Rp X.K F1 v _ := rv
    cases rv with
    | lst h hl t =>
      refine .inl ⟨_, rfl, ⟨_, SqL.of (r1.sub _ _ h)⟩, u _ _ _ _ _ _ q1 s1 r1 (yl_list (fun _ _ _ _ _ => trivial) (by rw [← t.rvs.length]; exact hl) fun H2 F2 M2 s2 r2 _ => ⟨_, SqL.of (r2.sub _ _ (s2 _ _ h)), t.rvs.mono s2⟩)⟩
  · have rv : Rp X.K F1 v _ := rv
    cases rv with
    | tup h hl t =>
      refine .inr (.inl ⟨_, rfl, ⟨_, SqT.same r1.sub h⟩, u _ _ _ _ _ _ q1 s1 r1 (yl_tup (fun _ _ _ _ _ => trivial) (by rw [← t.rvs.length]; exact hl) fun H2 F2 M2 s2 r2 _ => ⟨_, SqT.same r2.sub (SqT.same s2 h), t.rvs.mono s2⟩)⟩)
  · have rv : Rp X.K F1 v _ := rv
    cases rv with
    | str _ o hl => exact .inr (.inr ⟨_, rfl, u _ _ _ _ _ _ q1 s1 r1 (yl_str o hl)⟩)
  · rename_i a
    have rv : v = .ref a := rv
    subst rv
    obtain ⟨xs, e1, q2⟩ := oSome_ok q1
    obtain ⟨vs, h1, hv, hz⟩ := r1.raw e1
    refine .inl ⟨a, rfl, ⟨vs, h1⟩, u _ _ _ _ _ _ q2 s1 r1 (yl_list (fun M D o hD st => ?_) (by rw [← hv.length]; exact hz) fun H2 F2 M2 s2 r2 st => ?_)⟩
    · have hne : a ≠ D := fun z => by
        subst z
        rw [hD] at st; cases st
      rw [updM_ne hne]; exact st
    obtain ⟨ws, g1, g2, _⟩ := r2.raw st
    exact ⟨ws, g1, g2⟩
  · exact q1.elim
/-- range -/
def rgD (lo : Int) (n : Nat) : List DV := (List.range n).map fun i => .d (.int (lo + (i : Nat)))
def iRg (t : DA) : DI := fun τ M Q => t τ M fun xs M1 => match xs with
  | [.d (.int j)] => (-(2 ^ 62) ≤ j ∧ j ≤ 16777216) ∧ Q (rgD 0 j.toNat) (fun _ => True) M1
  | [.d (.int i), .d (.int j)] => (-(2 ^ 61) ≤ i ∧ i < 2 ^ 61 ∧ -(2 ^ 61) ≤ j ∧ j - i ≤ 16777216) ∧ Q (rgD i (j - i).toNat) (fun _ => True) M1
  | _ => False
theorem yl_rg {K : PySem.W.Frag} {F0 : Hp} {lo : Int} {n : Nat} (hn : n ≤ 16777216) : Yl K F0 (Itr lo n) (rgD lo n) (fun _ => True) where
  go := fun i H F M hi s r st => by
    show i < n
    simpa [rgD] using hi
  yld := fun i H F M x H' d hd s r st ⟨e, ex⟩ => by
    subst e ex
    unfold rgD at hd
    rw [List.getElem?_map] at hd
    cases hi : (List.range n)[i]? with
    | none => rw [hi] at hd; cases hd
    | some j =>
      rw [hi] at hd
      cases hd
      have : j = i := by
        have := List.getElem?_eq_some_iff.mp hi
        obtain ⟨h1, h2⟩ := this
        simpa using h2.symm
      subst this
      exact ⟨F, Same.refl _, r, Rp.int _⟩
  stop := fun H F M s r st => by
    show n ≤ _
    simp [rgD]
  new := fun _ _ _ _ _ => trivial
  len := by
    have : sizeLine = 16777216 := by decide
    rw [this]
    simpa [rgD] using hn
theorem vi_rg1 {t : DA} {p : Pos} (hg : Gl X "range") (hm : X.mg "range" = none) (ha : VA X [a] t) (hs : starEach [a] X.env = [(false, eval a X.env)] := by rfl) : VI X tg (.Call (.Name "range" p) [a] [] pos) (iRg t) :=
  PI.imp (pi_range1 hg hm ha hs) fun σ H R ⟨F, τ, M, Q, s, l, q, u⟩ => by
    refine ⟨F, τ, M, _, s, l, q, fun xs M1 vs H1 F1 hn q1 s1 r1 rv => ?_⟩
    split at q1
    · rename_i j
      obtain ⟨v, rfl, rv2⟩ := rvs1 rv
      have rv2 : Rp X.K F1 v _ := rv2
      cases rv2
      exact ⟨j, rfl, q1.1.1, by have := q1.1.2; omega, u _ _ _ _ _ _ q1.2 s1 r1 (yl_rg (by have := q1.1.2; omega))⟩
    · cases hn
    · exact q1.elim
theorem vi_rg2 {t : DA} {p : Pos} (hg : Gl X "range") (hm : X.mg "range" = none) (ha : VA X [a, b] t) (hs : starEach [a, b] X.env = [(false, eval a X.env), (false, eval b X.env)] := by rfl) (hs2 : starEach [b] X.env = [(false, eval b X.env)] := by rfl) :
    VI X tg (.Call (.Name "range" p) [a, b] [] pos) (iRg t) :=
  PI.imp (pi_range2 hg hm ha hs hs2) fun σ H R ⟨F, τ, M, Q, s, l, q, u⟩ => by
    refine ⟨F, τ, M, _, s, l, q, fun xs M1 vs H1 F1 hn q1 s1 r1 rv => ?_⟩
    split at q1
    · cases hn
    · rename_i i j
      obtain ⟨v, w, rfl, rv2, rw'⟩ := rvs2 rv
      have rv2 : Rp X.K F1 v _ := rv2
      have rw' : Rp X.K F1 w _ := rw'
      cases rv2
      cases rw'
      exact ⟨i, j, rfl, by have := q1.1; omega, u _ _ _ _ _ _ q1.2 s1 r1 (yl_rg (by have := q1.1; omega))⟩
    · exact q1.elim
end

/-! ### targets -/
inductive Pt where
  | n (i : Nat) | t (ps : List Nat)
def bindNs : List Nat → List PyData → Ds → Option Ds
  | [], [], τ => some τ
  | i :: is, d :: ds, τ => bindNs is ds (setS τ i (.d d))
  | _, _, _ => none
def bindP : Pt → DV → Ds → Option Ds
  | .n i, x, τ => some (setS τ i x)
  | .t is, .d (.tuple ds), τ => bindNs is ds τ
  | _, _, _ => none
def Pt.slots : Pt → List Nat
  | .n i => [i]
  | .t is => is
theorem wipe_in {σ : L2.St} {j : Nat} : ∀ {vs : List Nat}, j ∈ vs → (wipe σ vs)[j]? = σ[j]?.map fun _ => none
  | [], h => by cases h
  | v :: vs, h => by
    unfold wipe
    by_cases e : v = j
    · subst e
      rw [List.getElem?_set, wipe_length]
      simp only [if_true]
      by_cases hl : v < σ.length
      · rw [if_pos hl, List.getElem?_eq_getElem hl]; rfl
      · rw [if_neg hl, List.getElem?_eq_none (by omega)]; rfl
    · rw [List.getElem?_set_ne e]
      exact wipe_in (by rcases List.mem_cons.mp h with q | q; exact absurd q.symm e; exact q)
theorem wipe_set {σ : L2.St} {i : Nat} {x : Option V} {vs : List Nat} (h : i ∈ vs) : wipe (σ.set i x) vs = wipe σ vs := by
  apply List.ext_getElem?
  intro j
  by_cases hj : j ∈ vs
  · rw [wipe_in hj, wipe_in hj, List.getElem?_set]
    by_cases e : i = j
    · subst e
      rw [if_pos rfl]
      by_cases hl : i < σ.length
      · rw [if_pos hl, List.getElem?_eq_getElem hl]; rfl
      · rw [if_neg hl, List.getElem?_eq_none (by omega)]
    · rw [if_neg e]
  · rw [wipe_out hj, wipe_out hj, List.getElem?_set_ne (fun e : i = j => hj (by rw [← e]; exact h))]
def upG (K : PySem.W.Frag) (p : Pt) : TG := fun v σ H Q' => ∃ F x τ τ', SL K F σ τ ∧ RV K F v x ∧ Same F H ∧ bindP p x τ = some τ' ∧
  ∀ σ', SL K F σ' τ' → (∀ vs, (∀ i ∈ p.slots, i ∈ vs) → wipe σ' vs = wipe σ vs) → Q' σ' H
def VG (X : Cx) (tg : Expr) (p : Pt) : Prop := PG X tg (upG X.K p)
section
variable {X : Cx} {pos : Pos}
theorem PG.imp {tg : Expr} {t t' : TG} (h : PG X tg t) (i : ∀ v σ H Q, t' v σ H Q → t v σ H Q) : PG X tg t' := ⟨fun pins s σ H v u Q I r q => h.run pins s σ H v u Q I r (i v σ H Q q)⟩
theorem vg_name {i : Nat} {x : Str} (hN : X.N.Nodup) (hi : X.N[i]? = some x) (hx : Loc X.env.scope x) (hf : X.fn x = true ∨ X.env.scope.names.lookup x = some .local := by first | exact .inl rfl | exact .inr rfl | assumption) : VG X (.Name x pos) (.n i) :=
  PG.imp (pg_name hN hi hx hf) fun v σ H Q' ⟨F, x, τ, τ', l, r, _, e, k⟩ => by
    cases e
    exact k _ (l.set r i) fun vs h => wipe_set (h i (by simp [Pt.slots]))
/-- several names -/
inductive VGs (X : Cx) : List Expr → List Nat → Prop
  | nil : VGs X [] []
  | cons {x : Str} {pos : Pos} {es : List Expr} {i : Nat} {is : List Nat} (hN : X.N.Nodup) (hi : X.N[i]? = some x) (hx : Loc X.env.scope x) (hf : X.fn x = true ∨ X.env.scope.names.lookup x = some .local)
      (hs : (assignEach (.Name x pos :: es) X.env).map (·.2) = assign (.Name x pos) X.env :: (assignEach es X.env).map (·.2)) (r : VGs X es is) : VGs X (.Name x pos :: es) (i :: is)
def gNs : List Nat → TGs
  | [] => gNil
  | i :: is => gCons (gName i) (gNs is)
theorem VGs.pgs : ∀ {es : List Expr} {is : List Nat}, VGs X es is → PGs X es (gNs is)
  | _, _, .nil => pgs_nil
  | _, _, .cons hN hi hx hf hs r => pgs_cons (pg_name hN hi hx hf) r.pgs hs
theorem up_gNs {K : PySem.W.Frag} {F : Hp} {H : Hp} {Q' : L2.St → Hp → Prop} : ∀ {is : List Nat} {ds : List PyData} {vs : List V} {σ : L2.St} {τ τ' : Ds}, RpAll K F vs ds → SL K F σ τ → bindNs is ds τ = some τ' →
    (∀ σ', SL K F σ' τ' → (∀ ws, (∀ i ∈ is, i ∈ ws) → wipe σ' ws = wipe σ ws) → Q' σ' H) → gNs is vs σ H Q'
  | [], [], _, σ, τ, τ', .nil, l, e, k => by cases e; exact ⟨rfl, k σ l fun _ _ => rfl⟩
  | i :: is, d :: ds, v :: vs, σ, τ, τ', .cons r t, l, e, k => by
    refine ⟨v, vs, rfl, ?_⟩
    refine up_gNs (is := is) t (l.set (x := .d d) r i) e fun σ' l' h => k σ' l' fun ws hw => ?_
    rw [h ws fun j hj => hw j (List.mem_cons_of_mem _ hj)]
    exact wipe_set (hw i List.mem_cons_self)
  | [], _ :: _, _, _, _, _, _, _, e, _ => by cases e
  | _ :: _, [], _, _, _, _, _, _, e, _ => by cases e
theorem vg_tup {es : List Expr} {k : Nat} {is : List Nat} (hc : X.calm = true) (h : VGs X es is) (hn : (assignEach es X.env).length = is.length := by rfl) (hst : (assignEach es X.env).findIdx? (·.1) = none := by rfl) : VG X (.Tuple es k pos) (.t is) :=
  PG.imp (pg_tup hc h.pgs hn hst) fun v σ H Q' ⟨F, x, τ, τ', l, r, s, e, kk⟩ => by
    cases x with
    | w _ => cases e
    | d x =>
      cases x <;> first | cases e; done | skip
      rename_i ds
      have e : bindNs is ds τ = some τ' := e
      have r : Rp X.K F v _ := r
      cases r with
      | tup h hl t =>
        have hlen : ∀ {is : List Nat} {ds : List PyData} {τ τ' : Ds}, bindNs is ds τ = some τ' → ds.length = is.length := by
          intro is
          induction is with
          | nil => intro ds τ τ' h; cases ds with | nil => rfl | cons _ _ => cases h
          | cons i is ih => intro ds τ τ' h; cases ds with | nil => cases h | cons d ds => rw [List.length_cons, List.length_cons, ih h]
        refine ⟨_, _, rfl, SqT.same s h, by rw [t.length]; exact hlen e, up_gNs t l e kk⟩
end

/-! ### statements -/
structure DEnds where
  nx : Ds → DH → Prop
  rt : DQ
  bk : Ds → DH → Prop := fun _ _ => False
  ct : Ds → DH → Prop := fun _ _ => False
abbrev DS := DEnds → Ds → DH → Prop
def UpN (K : PySem.W.Frag) (F : Hp) (Q : Ds → DH → Prop) (Q' : L2.St → Hp → Prop) : Prop := ∀ τ M σ H' F', Q τ M → Same F F' → SR K H' F' M → SL K F' σ τ → Q' σ H'
structure UpD (K : PySem.W.Frag) (F : Hp) (E : DEnds) (D : Ends) : Prop where
  nx : UpN K F E.nx D.nx
  rt : Up K F E.rt D.rt
  bk : UpN K F E.bk D.bk
  ct : UpN K F E.ct D.ct
theorem UpN.later {K : PySem.W.Frag} {F F' : Hp} {Q : Ds → DH → Prop} {Q' : L2.St → Hp → Prop} (h : UpN K F Q Q') (s : Same F F') : UpN K F' Q Q' := fun τ M σ H1 F1 q s1 => h τ M σ H1 F1 q (s.trans s1)
theorem UpD.later {K : PySem.W.Frag} {F F' : Hp} {E : DEnds} {D : Ends} (h : UpD K F E D) (s : Same F F') : UpD K F' E D := ⟨h.nx.later s, h.rt.later s, h.bk.later s, h.ct.later s⟩
def upS (K : PySem.W.Frag) (t : DS) : TS := fun D σ H => ∃ F τ M E, SR K H F M ∧ SL K F σ τ ∧ t E τ M ∧ UpD K F E D
def VS' (X : Cx) (st : Stmt) (t : DS) : Prop := PS X st (upS X.K t)
def VSs (X : Cx) (st : List Stmt) (t : DS) : Prop := PSs X st (upS X.K t)
section
variable {X : Cx} {st : Stmt} {rest ss as bs : List Stmt} {t u tb : DS} {e c tg it : Expr} {te : DE} {tc : DT} {pos : Pos} {p : Pt}
theorem PS.imp {t t' : TS} (h : PS X st t) (i : ∀ D σ H, t' D σ H → t D σ H) : PS X st t' := ⟨fun pins s σ H D I q => h.run pins s σ H D I (i D σ H q)⟩
theorem PSs.imp {t t' : TS} (h : PSs X ss t) (i : ∀ D σ H, t' D σ H → t D σ H) : PSs X ss t' := ⟨fun pins s σ H D I q => h.run pins s σ H D I (i D σ H q)⟩
def dNext : DS := fun E τ M => E.nx τ M
def dSeq (t u : DS) : DS := fun E τ M => t { E with nx := u E } τ M
theorem vss_nil : VSs X [] dNext := PSs.imp pss_nil fun D σ H ⟨F, τ, M, E, s, l, q, up⟩ => up.nx _ _ _ _ _ q (Same.refl _) s l
theorem vss_cons (h : VS' X st t) (r : VSs X rest u) : VSs X (st :: rest) (dSeq t u) := PSs.imp (pss_cons h r) fun D σ H ⟨F, τ, M, E, s, l, q, up⟩ =>
  ⟨F, τ, M, _, s, l, q, ⟨fun τ1 M1 σ1 H1 F1 q1 s1 r1 l1 => ⟨F1, τ1, M1, E, r1, l1, q1, up.later s1⟩, up.rt, up.bk, up.ct⟩⟩
theorem vss_one (h : VS' X st t) : VSs X [st] t := pss_one h
theorem vs_pass : VS' X (.Pass pos) dNext := PS.imp ps_pass fun D σ H ⟨F, τ, M, E, s, l, q, up⟩ => up.nx _ _ _ _ _ q (Same.refl _) s l
def dBreak : DS := fun E τ M => E.bk τ M
def dCont : DS := fun E τ M => E.ct τ M
theorem vs_break : VS' X (.Break pos) dBreak := PS.imp ps_break fun D σ H ⟨F, τ, M, E, s, l, q, up⟩ => up.bk _ _ _ _ _ q (Same.refl _) s l
theorem vs_cont : VS' X (.Continue pos) dCont := PS.imp ps_continue fun D σ H ⟨F, τ, M, E, s, l, q, up⟩ => up.ct _ _ _ _ _ q (Same.refl _) s l
def dDrop (te : DE) : DS := fun E τ M => te τ M fun _ M1 => E.nx τ M1
theorem vs_expr (he : VE X e te) (hs : swapsWith e none pos.line X.env = pure false := by rfl) : VS' X (.Expr e pos) (dDrop te) := PS.imp (ps_expr he hs) fun D σ H ⟨F, τ, M, E, s, l, q, up⟩ =>
  ⟨F, τ, M, _, s, l, q, fun x M1 v H1 F1 q1 s1 r1 rv => up.nx _ _ _ _ _ q1 s1 r1 (l.mono s1)⟩
def dRet (te : DE) : DS := fun E τ M => te τ M E.rt
theorem vs_ret (he : VE X e te) : VS' X (.Return (some e) pos) (dRet te) := PS.imp (ps_ret he) fun D σ H ⟨F, τ, M, E, s, l, q, up⟩ => ⟨F, τ, M, _, s, l, q, up.rt⟩
def dRetN : DS := fun E τ M => E.rt (.d .none) M
theorem vs_retN : VS' X (.Return none pos) dRetN := PS.imp ps_retN fun D σ H ⟨F, τ, M, E, s, l, q, up⟩ => up.rt _ _ _ _ _ q (Same.refl _) s .non
def dIfS (c : DT) (t u : DS) : DS := fun E τ M => c τ M fun b M1 => if b = true then t E τ M1 else u E τ M1
theorem vs_if (hc : VT X c tc) (ha : VSs X as t) (hb : VSs X bs u) : VS' X (.If c as bs pos) (dIfS tc t u) := PS.imp (ps_if hc ha hb) fun D σ H ⟨F, τ, M, E, s, l, q, up⟩ => by
  refine ⟨F, τ, M, _, s, l, q, fun k M1 H1 F1 q1 s1 r1 => ?_⟩
  cases k with
  | true => exact ⟨F1, τ, M1, E, r1, l.mono s1, q1, up.later s1⟩
  | false => exact ⟨F1, τ, M1, E, r1, l.mono s1, q1, up.later s1⟩
def dNever : DS := fun _ _ _ => False
theorem vs_never : VS' X st dNever := PS.imp ps_never fun D σ H ⟨F, τ, M, E, s, l, q, up⟩ => q.elim
theorem vss_never : VSs X ss dNever := PSs.imp pss_never fun D σ H ⟨F, τ, M, E, s, l, q, up⟩ => q.elim
/-- target = e -/
def dAsg (te : DE) (p : Pt) : DS := fun E τ M => te τ M fun x M1 => oSome (bindP p x τ) fun τ' => E.nx τ' M1
theorem up_asg {σ : L2.St} {H F : Hp} {τ : Ds} {M : DH} {E : DEnds} {D : Ends} (s : SR X.K H F M) (l : SL X.K F σ τ) (q : dAsg te p E τ M) (up : UpD X.K F E D) : upE X.K te σ H fun x H1 => upG X.K p x σ H1 D.nx := by
  refine ⟨F, τ, M, _, s, l, q, fun x M1 v H1 F1 q1 s1 r1 rv => ?_⟩
  obtain ⟨τ', e, q2⟩ := oSome_ok q1
  exact ⟨F1, x, τ, τ', l.mono s1, rv, r1.sub, e, fun σ' l' _ => up.nx _ _ _ _ _ q2 s1 r1 l'⟩
theorem vs_asg (he : VE X e te) (hg : VG X tg p) (hs : swapsWithSole [tg] e pos.line X.env = pure false := by rfl) (hw : swappedStores [tg] e X.env = pure none := by rfl)
    (h1 : (assignEach [tg] X.env).map (·.2) = [assign tg X.env] := by rfl) : VS' X (.Assign [tg] e pos) (dAsg te p) := PS.imp (ps_asg he hg hs hw h1) fun D σ H ⟨F, τ, M, E, s, l, q, up⟩ => up_asg s l q up
/-- x = e -/
def dSet (te : DE) (i : Nat) : DS := fun E τ M => te τ M fun x M1 => E.nx (setS τ i x) M1
theorem vs_set {i : Nat} {x : Str} {pos' : Pos} (hN : X.N.Nodup) (hi : X.N[i]? = some x) (hx : Loc X.env.scope x) (he : VE X e te) (hs : swapsWith e (some (.Name x pos')) pos.line X.env = pure false := by rfl) (hf : X.fn x = true ∨ X.env.scope.names.lookup x = some .local := by first | exact .inl rfl | exact .inr rfl | assumption) :
    VS' X (.Assign [.Name x pos'] e pos) (dSet te i) := PS.imp (ps_set hN hi hx he hs hf) fun D σ H ⟨F, τ, M, E, s, l, q, up⟩ =>
  ⟨F, τ, M, _, s, l, q, fun x M1 v H1 F1 q1 s1 r1 rv => up.nx _ _ _ _ _ q1 s1 r1 ((l.mono s1).set rv i)⟩
/-- x op= e -/
def dAug (i : Nat) (te : DE) (r : D2) : DS := fun E τ M => gotV (slot τ i) M fun x M0 => te τ M0 fun y M1 => r x y M1 fun z M2 => E.nx (setS τ i z) M2
theorem vs_aug {i : Nat} {x : Str} {op : Operator} {r : D2} {pos' : Pos} (hN : X.N.Nodup) (hi : X.N[i]? = some x) (hx : Loc X.env.scope x) (he : VE X e te) (ho : VO X (inplaceOp op) r) (hf : X.fn x = true ∨ X.env.scope.names.lookup x = some .local := by first | exact .inl rfl | exact .inr rfl | assumption) :
    VS' X (.AugAssign (.Name x pos') op e pos) (dAug i te r) := PS.imp (ps_aug hN hi hx he (fun pins s σ H x y v u Q I rx ry h => ho pins s σ H x y v u Q I rx ry h) hf) fun D σ H ⟨F, τ, M, E, s, l, q, up⟩ => by
  unfold dAug gotV at q
  cases e1 : slot τ i with
  | none => rw [e1] at q; exact q.elim
  | some y =>
    rw [e1] at q
    obtain ⟨v, e2, rv⟩ := l.at_ i y (slot_get e1)
    refine ⟨v, e2, F, τ, M, _, s, l, q, fun z M1 w H1 F1 q1 s1 r1 rw' => ?_⟩
    refine ⟨F1, M1, y, z, _, r1, RV.mono s1 rv, rw', q1, fun z M2 u H2 F2 q2 s2 r2 ru => ?_⟩
    exact up.nx _ _ _ _ _ q2 (s1.trans s2) r2 ((l.mono (s1.trans s2)).set ru i)

/-! ### for -/
def loopD (stay : DH → Prop) (p : Pt) (tb : DS) (E : DEnds) : List DV → Ds → DH → Prop
  | [], τ, M => E.nx τ M
  | x :: xs, τ, M => oSome (bindP p x τ) fun τ1 => tb { E with nx := fun τ2 M2 => stay M2 ∧ loopD stay p tb E xs τ2 M2, ct := fun τ2 M2 => stay M2 ∧ loopD stay p tb E xs τ2 M2, bk := E.nx } τ1 M
def dFor (wi : DI) (p : Pt) (tb : DS) : DS := fun E τ M => wi τ M fun items stay M1 => stay M1 ∧ loopD stay p tb E items τ M1
theorem vs_for {ti : DI} (hp : PassesOwn (model X.prog X.w) X.A X.env X.xe) (hc : X.calm = true) (hi : VI X tg it ti) (hg : VG X tg p) (hb : VSs X ss tb)
    (hs : ∀ x, foldedSetIterable it X.env x = pure x := by intro _; rfl) : VS' X (.For tg it ss [] pos) (dFor ti p tb) := PS.imp (ps_for hp hc hi hg hb hs) fun D σ H ⟨F, τ, M, E, s, l, q, up⟩ => by
  refine ⟨F, τ, M, _, s, l, q, fun items stay M1 J H1 F1 q1 s1 r1 y => ?_⟩
  obtain ⟨st, q1⟩ := q1
  refine ⟨fun i m σ H => m = items.length - i ∧ i ≤ items.length ∧ ∃ F' τ M, Same F1 F' ∧ SR X.K H F' M ∧ SL X.K F' σ τ ∧ stay M ∧ loopD stay p tb E (items.drop i) τ M,
    ⟨items.length, by simp, Nat.zero_le _, F1, τ, M1, Same.refl _, r1, l.mono s1, st, q1⟩, ?_⟩
  rintro i m σ H ⟨rfl, hi, F', τ, M, s2, r2, l2, st2, q2⟩
  by_cases hlt : i < items.length
  · refine .inr ⟨y.go i H F' M hlt s2 r2 st2, fun σ H => i + 1 ≤ items.length ∧ ∃ F' τ M, Same F1 F' ∧ SR X.K H F' M ∧ SL X.K F' σ τ ∧ stay M ∧ loopD stay p tb E (items.drop (i + 1)) τ M,
      fun σ' H' p' => ⟨items.length - (i + 1), by omega, rfl, p'⟩, fun x H' hy => ?_⟩
    obtain ⟨F3, s3, r3, rx⟩ := y.yld i H F' M x H' items[i] (List.getElem?_eq_getElem hlt) s2 r2 st2 hy
    rw [List.drop_eq_getElem_cons hlt] at q2
    obtain ⟨τ1, e1, q3⟩ := oSome_ok q2
    refine ⟨F3, items[i], τ, τ1, l2.mono s3, rx, r3.sub, e1, fun σ' l' _ => ?_⟩
    refine ⟨F3, τ1, M, _, r3, l', q3, ⟨?_, ?_, ?_, ?_⟩⟩
    · intro τ4 M4 σ4 H4 F4 q4 s4 r4 l4
      exact ⟨hlt, F4, τ4, M4, (s2.trans s3).trans s4, r4, l4, q4.1, q4.2⟩
    · exact up.rt.later (((s1.trans s2).trans s3))
    · exact up.nx.later (((s1.trans s2).trans s3))
    · intro τ4 M4 σ4 H4 F4 q4 s4 r4 l4
      exact ⟨hlt, F4, τ4, M4, (s2.trans s3).trans s4, r4, l4, q4.1, q4.2⟩
  · have e : i = items.length := by omega
    subst e
    rw [List.drop_length] at q2
    exact .inl ⟨y.stop H F' M s2 r2 st2, up.nx _ _ _ _ _ q2 (s1.trans s2) r2 l2⟩
/-! ### while -/
def dWhile (c : DT) (tb : DS) : DS := fun E τ M => ∃ W : Nat → Ds → DH → Prop, (∃ m, W m τ M) ∧ ∀ m τ M, W m τ M → c τ M fun b M1 => if b = true then
  tb { E with nx := fun τ' M' => ∃ m', m' < m ∧ W m' τ' M', ct := fun τ' M' => ∃ m', m' < m ∧ W m' τ' M', bk := E.nx } τ M1 else E.nx τ M1
theorem vs_while (hp : PassesOwn (model X.prog X.w) X.A X.env X.xe) (hc : VT X c tc) (hb : VSs X ss tb) : VS' X (.While c ss [] pos) (dWhile tc tb) := PS.imp (ps_while hp hc hb) fun D σ H ⟨F, τ, M, E, s, l, q, up⟩ => by
  obtain ⟨W, ⟨m0, w0⟩, step⟩ := q
  refine ⟨fun m σ H => ∃ F' τ M, Same F F' ∧ SR X.K H F' M ∧ SL X.K F' σ τ ∧ W m τ M, ⟨m0, F, τ, M, Same.refl _, s, l, w0⟩, ?_⟩
  rintro m σ H ⟨F1, τ1, M1, s1, r1, l1, w1⟩
  refine ⟨F1, τ1, M1, _, r1, l1, step m τ1 M1 w1, fun b M2 H2 F2 q2 s2 r2 => ?_⟩
  cases b with
  | false =>
    rw [if_neg Bool.false_ne_true] at q2 ⊢
    exact up.nx _ _ _ _ _ q2 (s1.trans s2) r2 (l1.mono s2)
  | true =>
    rw [if_pos rfl] at q2 ⊢
    refine ⟨fun σ' H' => ∃ m', m' < m ∧ ∃ F' τ M, Same F F' ∧ SR X.K H' F' M ∧ SL X.K F' σ' τ ∧ W m' τ M, fun σ' H' h => h, F2, τ1, M2, _, r2, l1.mono s2, q2, ⟨?_, ?_, ?_, ?_⟩⟩
    · intro τ4 M4 σ4 H4 F4 ⟨m', hm, w4⟩ s4 r4 l4
      exact ⟨m', hm, F4, τ4, M4, (s1.trans s2).trans s4, r4, l4, w4⟩
    · exact up.rt.later (s1.trans s2)
    · exact up.nx.later (s1.trans s2)
    · intro τ4 M4 σ4 H4 F4 ⟨m', hm, w4⟩ s4 r4 l4
      exact ⟨m', hm, F4, τ4, M4, (s1.trans s2).trans s4, r4, l4, w4⟩
end
end VS

end

section
set_option Elab.async false
set_option linter.all false
set_option maxRecDepth 100000
set_option maxHeartbeats 4000000
/-! VS, part 6: comprehensions, calls of defs, bodies of defs. -/
namespace VS
open PySem PySem.Spec PyProof.Rows L2

def delM (M : DH) (a : Addr) : DH := fun b => if b = a then none else M b
theorem delM_upd {M : DH} {a : Addr} {o : DO} (h : M a = none) : delM (updM M a o) a = M := by
  funext b
  unfold delM updM
  by_cases e : b = a
  · subst e; simp [h]
  · simp [e]
section
variable {X : Cx}
def UpTs (X : Cx) (ifs : List Expr) (t : DT) : Prop := PTs X ifs (upT X.K t)
def dYes : DT := fun _ M Q => Q true M
theorem PTs.imp {ifs : List Expr} {t t' : TT} (h : PTs X ifs t) (i : ∀ σ H Q, t' σ H Q → t σ H Q) : PTs X ifs t' := ⟨fun pins s σ H Q I q => h.run pins s σ H Q I (i σ H Q q)⟩
theorem vts_nil : UpTs X [] dYes := PTs.imp pts_nil fun σ H Q' ⟨F, τ, M, Q, s, l, q, u⟩ => u true M H F q (Same.refl _) s
theorem vts_one {c : Expr} {t : DT} (h : VT X c t) : UpTs X [c] t := pts_one h

/-- the turns of [e for p in items if t]: D the new list, acc what is made -/
def lcD (D : Addr) (stay : DH → Prop) (p : Pt) (tt : DT) (te : DE) (τ : Ds) : List DV → List PyData → DH → (List PyData → DH → Prop) → Prop
  | [], acc, M, Q => Q acc M
  | x :: xs, acc, M, Q => oSome (bindP p x τ) fun τ1 => tt τ1 (updM M D (.lst (acc.map .d))) fun b M1 =>
    if b = true then te τ1 M1 fun y M2 => ∃ d M3, y = .d d ∧ M2 = updM M3 D (.lst (acc.map .d)) ∧ M3 D = none ∧ stay M3 ∧ lcD D stay p tt te τ xs (acc ++ [d]) M3 Q
    else ∃ M3, M1 = updM M3 D (.lst (acc.map .d)) ∧ M3 D = none ∧ stay M3 ∧ lcD D stay p tt te τ xs acc M3 Q
def dLc (wi : DI) (p : Pt) (tt : DT) (te : DE) (vs : List Nat) : DE := fun τ M Q => wi τ M fun items stay M1 => stay M1 ∧ ∀ D, M1 D = none →
  lcD D stay p tt te (wipeS τ vs) items [] M1 fun acc M2 => Q (.d (.list acc)) M2
/-- .. one that will be written -/
def dLcM (wi : DI) (p : Pt) (tt : DT) (te : DE) (vs : List Nat) : DE := fun τ M Q => wi τ M fun items stay M1 => stay M1 ∧ ∀ D, M1 D = none →
  lcD D stay p tt te (wipeS τ vs) items [] M1 fun acc M2 => Q (.w (.ref D)) (updM M2 D (.lst (acc.map .d)))
theorem SR.frzD {K : PySem.W.Frag} {H F : Hp} {M : DH} {D : Addr} {acc : List PyData} (s : SR K H F (updM M D (.lst (acc.map .d)))) (h : M D = none) :
    ∃ vs, H D = some (.lst vs) ∧ Same F (upd F D (.lst vs)) ∧ SR K H (upd F D (.lst vs)) M ∧ Rp K (upd F D (.lst vs)) (.ref D) (.list acc) := by
  obtain ⟨vs, h1, h2, h3⟩ := s.lst (a := D) updM_same
  obtain ⟨f1, _⟩ := s.own D _ updM_same
  have sf : Same F (upd F D (.lst vs)) := fun b u e => by rw [upd_ne (ne_of_none e f1)]; exact e
  refine ⟨vs, h1, sf, ⟨fun b u e => ?_, fun b o e => ?_⟩, .lst upd_same h3 ((rvs_all h2).mono sf)⟩
  · by_cases hb : b = D
    · subst hb; rw [upd_same] at e; cases e; exact h1
    · rw [upd_ne hb] at e; exact s.sub _ _ e
  · have hb : b ≠ D := fun z => by subst z; rw [h] at e; cases e
    obtain ⟨g1, u, g2, g3⟩ := s.own b o (by rw [updM_ne hb]; exact e)
    exact ⟨by rw [upd_ne hb]; exact g1, u, g2, g3.mono sf⟩
/-- a list that is written no more -/
def dFrz (t : DE) : DE := fun τ M Q => t τ M fun x M1 => match x with
  | .w (.ref a) => oSome (lstO (M1 a)) fun xs => oSome (dAll xs) fun ds => Q (.d (.list ds)) (delM M1 a)
  | _ => False
theorem upd_del {M : DH} {a : Addr} {o : DO} (h : M a = some o) : updM (delM M a) a o = M := by
  funext b
  unfold delM updM
  by_cases e : b = a
  · subst e; simp [h]
  · simp [e]
theorem ve_frz {e : Expr} {t : DE} (h : VE X e t) : VE X e (dFrz t) := VE.mk h fun σ H F τ M Q Q' s l q u => by
  refine ⟨F, τ, M, _, s, l, q, fun x M1 v H1 F1 q1 s1 r1 rv => ?_⟩
  split at q1
  · rename_i a
    have rv : v = .ref a := rv
    subst rv
    obtain ⟨xs, e1, q2⟩ := oSome_ok q1
    obtain ⟨ds, e2, q3⟩ := oSome_ok q2
    have e3 := dAll_map e2
    subst e3
    have e4 := lstO_some e1
    rw [← upd_del e4] at r1
    obtain ⟨vs, h1, h2, h3, h4⟩ := r1.frzD (by unfold delM; rw [if_pos rfl])
    exact u _ _ _ _ _ q3 (s1.trans h2) h3 h4
  · exact q1.elim
/-- the loop of a comprehension -/
theorem up_lc {K : PySem.W.Frag} {wi : DI} {p : Pt} {tt : DT} {te : DE} {vs : List Nat} {σ : L2.St} {H F : Hp} {τ : Ds} {M : DH} {Q' : VK} {Qd : Addr → List PyData → DH → Prop}
    (hv : ∀ i ∈ p.slots, i ∈ vs) (s : SR K H F M) (l : SL K F σ τ)
    (q : wi τ M fun items stay M1 => stay M1 ∧ ∀ D, M1 D = none → lcD D stay p tt te (wipeS τ vs) items [] M1 (Qd D))
    (fin : ∀ D acc M' H' F', Qd D acc M' → M' D = none → Same F F' → SR K H' F' (updM M' D (.lst (acc.map .d))) → Q' (.ref D) H') :
    tLc (upI K wi) (upG K p) (upT K tt) (upE K te) vs σ H Q' := by
  refine ⟨F, τ, M, _, s, l, q, fun items stay M1 J H1 F1 q1 s1 r1 y => ?_⟩
  obtain ⟨st, q1⟩ := q1
  intro D hD
  have q2 := q1 D (r1.free hD).2
  have l1 : SL K F1 (wipe σ vs) (wipeS τ vs) := (l.mono s1).wipe vs
  refine ⟨fun i m H => m = items.length - i ∧ i ≤ items.length ∧ ∃ F' M acc, Same F1 F' ∧ SR K H F' (updM M D (.lst (acc.map .d))) ∧ M D = none ∧ stay M ∧ acc.length ≤ i ∧ lcD D stay p tt te (wipeS τ vs) (items.drop i) acc M (Qd D),
    ⟨items.length, by simp, Nat.zero_le _, F1, M1, [], Same.refl _, r1.newM (u := .lst []) (o := .lst []) hD ⟨Nat.zero_le _, .nil⟩, (r1.free hD).2, st, Nat.le_refl _, q2⟩, ?_⟩
  rintro i m H2 ⟨rfl, hi, F2, M2, acc, s2, r2, d2, st2, la, q3⟩
  have st2' := y.new M2 D (.lst (acc.map .d)) d2 st2
  by_cases hlt : i < items.length
  · refine .inr ⟨y.go i H2 F2 _ hlt s2 r2 st2', fun H => i + 1 ≤ items.length ∧ ∃ F' M acc, Same F1 F' ∧ SR K H F' (updM M D (.lst (acc.map .d))) ∧ M D = none ∧ stay M ∧ acc.length ≤ i + 1 ∧ lcD D stay p tt te (wipeS τ vs) (items.drop (i + 1)) acc M (Qd D),
      fun H' p' => ⟨items.length - (i + 1), by omega, rfl, p'⟩, fun x H' hy => ?_⟩
    obtain ⟨F3, s3, r3, rx⟩ := y.yld i H2 F2 _ x H' items[i] (List.getElem?_eq_getElem hlt) s2 r2 st2' hy
    rw [List.drop_eq_getElem_cons hlt] at q3
    obtain ⟨τ1, e1, q4⟩ := oSome_ok q3
    refine ⟨F3, items[i], wipeS τ vs, τ1, l1.mono (s2.trans s3), rx, r3.sub, e1, fun σ' l' hw => ?_⟩
    refine ⟨?_, ?_⟩
    · have h1 := hw vs hv
      rw [h1]
      -- wiping twice
      apply List.ext_getElem?
      intro j
      by_cases hj : j ∈ vs
      · rw [wipe_in hj, wipe_in hj]
        cases σ[j]? <;> rfl
      · rw [wipe_out hj]
    · refine ⟨F3, τ1, _, _, r3, l', q4, fun b M4 H4 F4 q5 s4 r4 => ?_⟩
      cases b with
      | false =>
        rw [if_neg Bool.false_ne_true] at q5 ⊢
        obtain ⟨M5, rfl, d5, st5, q6⟩ := q5
        exact ⟨hlt, F4, M5, acc, (s2.trans s3).trans s4, r4, d5, st5, by omega, q6⟩
      | true =>
        rw [if_pos rfl] at q5 ⊢
        refine ⟨F4, τ1, M4, _, r4, l'.mono s4, q5, fun z M5 v H5 F5 q6 s5 r5 rz => ?_⟩
        obtain ⟨d, M6, rfl, rfl, d6, st6, q7⟩ := q6
        obtain ⟨ws, g1, g2, g3⟩ := r5.lst (a := D) updM_same
        have hl : ws.length < sizeLine := by
          have e := g2.length
          rw [List.length_map] at e
          have := y.len
          omega
        refine ⟨ws, g1, hl, hlt, F5, M6, acc ++ [d], ((s2.trans s3).trans s4).trans s5, ?_, d6, st6, by rw [List.length_append, List.length_singleton]; omega, q7⟩
        have r6 := r5.put (p := D) (u := .lst ((acc ++ [d]).map .d)) (o := .lst (ws ++ [v])) updM_same ⟨by rw [List.length_append, List.length_singleton]; omega, by
          rw [List.map_append]; exact g2.append (.cons rz .nil)⟩
        rw [updM_updM] at r6
        exact r6
  · have e : i = items.length := by omega
    subst e
    rw [List.drop_length] at q3
    refine .inl ⟨y.stop H2 F2 _ s2 r2 st2', fin D acc M2 H2 F2 q3 d2 (s1.trans s2) r2⟩
theorem up_lcF {K : PySem.W.Frag} {wi : DI} {p : Pt} {tt : DT} {te : DE} {vs : List Nat} {σ : L2.St} {H F : Hp} {τ : Ds} {M : DH} {Q : DQ} {Q' : VK} (hv : ∀ i ∈ p.slots, i ∈ vs) (s : SR K H F M) (l : SL K F σ τ)
    (q : dLc wi p tt te vs τ M Q) (u : Up K F Q Q') : tLc (upI K wi) (upG K p) (upT K tt) (upE K te) vs σ H Q' :=
  up_lc hv s l q fun D acc M' H' F' q' hd s' r' => by
    obtain ⟨vs, h1, h2, h3, h4⟩ := r'.frzD hd
    exact u _ _ _ _ _ q' (s'.trans h2) h3 h4
theorem up_lcM {K : PySem.W.Frag} {wi : DI} {p : Pt} {tt : DT} {te : DE} {vs : List Nat} {σ : L2.St} {H F : Hp} {τ : Ds} {M : DH} {Q : DQ} {Q' : VK} (hv : ∀ i ∈ p.slots, i ∈ vs) (s : SR K H F M) (l : SL K F σ τ)
    (q : dLcM wi p tt te vs τ M Q) (u : Up K F Q Q') : tLc (upI K wi) (upG K p) (upT K tt) (upE K te) vs σ H Q' :=
  up_lc hv s l q fun D acc M' H' F' q' hd s' r' => u _ _ _ _ _ q' s' r' rfl

variable {elt tg iter : Expr} {ifs : List Expr} {scope : Scope} {own : List (Str × Nat)} {pos spos : Pos} {wi : DI} {p : Pt} {tt : DT} {te : DE}
theorem ve_lc (hc : X.calm = true) (hN : X.N.Nodup) (hv : ∀ i ∈ p.slots, i ∈ own.map (·.2)) (hi : VI X tg iter wi) (ok : BlkOk X.N X.env.scope scope own)
    (hg : ∀ (s : Shared) (H : Hp) (C : Addr) (cl : List (Str × Addr)) (fp : List Addr), VG (X.blk s H scope (compEnvC scope cl C X.env) fp) tg p) (ht : ∀ (s : Shared) (H : Hp) (C : Addr) (cl : List (Str × Addr)) (fp : List Addr), UpTs (X.blk s H scope (compEnvC scope cl C X.env) fp) ifs tt)
    (he : ∀ (s : Shared) (H : Hp) (C : Addr) (cl : List (Str × Addr)) (fp : List Addr), VE (X.blk s H scope (compEnvC scope cl C X.env) fp) elt te) (hs : ∀ x, foldedSetIterable iter X.env x = pure x := by intro _; rfl) :
    VE X (.ListComp elt [⟨tg, iter, ifs, 0⟩] scope pos) (dLc wi p tt te (own.map (·.2))) :=
  VE.mk (pe_lc (g := upG X.K p) (tt := upT X.K tt) (te := upE X.K te) hc hN hi ok hg ht he hs) fun σ H F τ M Q Q' s l q u => up_lcF hv s l q u
theorem ve_lcM (hc : X.calm = true) (hN : X.N.Nodup) (hv : ∀ i ∈ p.slots, i ∈ own.map (·.2)) (hi : VI X tg iter wi) (ok : BlkOk X.N X.env.scope scope own)
    (hg : ∀ (s : Shared) (H : Hp) (C : Addr) (cl : List (Str × Addr)) (fp : List Addr), VG (X.blk s H scope (compEnvC scope cl C X.env) fp) tg p) (ht : ∀ (s : Shared) (H : Hp) (C : Addr) (cl : List (Str × Addr)) (fp : List Addr), UpTs (X.blk s H scope (compEnvC scope cl C X.env) fp) ifs tt)
    (he : ∀ (s : Shared) (H : Hp) (C : Addr) (cl : List (Str × Addr)) (fp : List Addr), VE (X.blk s H scope (compEnvC scope cl C X.env) fp) elt te) (hs : ∀ x, foldedSetIterable iter X.env x = pure x := by intro _; rfl) :
    VE X (.ListComp elt [⟨tg, iter, ifs, 0⟩] scope pos) (dLcM wi p tt te (own.map (·.2))) :=
  VE.mk (pe_lc (g := upG X.K p) (tt := upT X.K tt) (te := upE X.K te) hc hN hi ok hg ht he hs) fun σ H F τ M Q Q' s l q u => up_lcM hv s l q u
/-- y = [..] on one line, y a local -/
theorem vs_setLc {i : Nat} {y : Str} {py : Pos} (hc : X.calm = true) (hN : X.N.Nodup) (hy : X.N[i]? = some y) (hyl : X.env.scope.names.lookup y = some .local)
    (hsw : swapsWith (.ListComp elt [⟨tg, iter, ifs, 0⟩] scope pos) (some (.Name y py)) spos.line X.env = pure true) (hv : ∀ i ∈ p.slots, i ∈ own.map (·.2)) (hi : VI X tg iter wi) (ok : BlkOk X.N X.env.scope scope own)
    (hg : ∀ (s : Shared) (H : Hp) (C : Addr) (cl : List (Str × Addr)) (fp : List Addr), VG (X.blk s H scope (compEnvC scope cl C X.env) fp) tg p) (ht : ∀ (s : Shared) (H : Hp) (C : Addr) (cl : List (Str × Addr)) (fp : List Addr), UpTs (X.blk s H scope (compEnvC scope cl C X.env) fp) ifs tt)
    (he : ∀ (s : Shared) (H : Hp) (C : Addr) (cl : List (Str × Addr)) (fp : List Addr), VE (X.blk s H scope (compEnvC scope cl C X.env) fp) elt te) (hs : ∀ x, foldedSetIterable iter X.env x = pure x := by intro _; rfl) :
    VS' X (.Assign [.Name y py] (.ListComp elt [⟨tg, iter, ifs, 0⟩] scope pos) spos) (dSet (dLc wi p tt te (own.map (·.2))) i) :=
  PS.imp (ps_setLc (g := upG X.K p) (tt := upT X.K tt) (te := upE X.K te) hc hN hy hyl hsw hi ok hg ht he hs) fun D σ H ⟨F, τ, M, E, s, l, q, up⟩ =>
    up_lcF hv s l q fun x M1 v H1 F1 q1 s1 r1 rv => up.nx _ _ _ _ _ q1 s1 r1 ((l.mono s1).set rv i)
theorem vs_setLcM {i : Nat} {y : Str} {py : Pos} (hc : X.calm = true) (hN : X.N.Nodup) (hy : X.N[i]? = some y) (hyl : X.env.scope.names.lookup y = some .local)
    (hsw : swapsWith (.ListComp elt [⟨tg, iter, ifs, 0⟩] scope pos) (some (.Name y py)) spos.line X.env = pure true) (hv : ∀ i ∈ p.slots, i ∈ own.map (·.2)) (hi : VI X tg iter wi) (ok : BlkOk X.N X.env.scope scope own)
    (hg : ∀ (s : Shared) (H : Hp) (C : Addr) (cl : List (Str × Addr)) (fp : List Addr), VG (X.blk s H scope (compEnvC scope cl C X.env) fp) tg p) (ht : ∀ (s : Shared) (H : Hp) (C : Addr) (cl : List (Str × Addr)) (fp : List Addr), UpTs (X.blk s H scope (compEnvC scope cl C X.env) fp) ifs tt)
    (he : ∀ (s : Shared) (H : Hp) (C : Addr) (cl : List (Str × Addr)) (fp : List Addr), VE (X.blk s H scope (compEnvC scope cl C X.env) fp) elt te) (hs : ∀ x, foldedSetIterable iter X.env x = pure x := by intro _; rfl) :
    VS' X (.Assign [.Name y py] (.ListComp elt [⟨tg, iter, ifs, 0⟩] scope pos) spos) (dSet (dLcM wi p tt te (own.map (·.2))) i) :=
  PS.imp (ps_setLc (g := upG X.K p) (tt := upT X.K tt) (te := upE X.K te) hc hN hy hyl hsw hi ok hg ht he hs) fun D σ H ⟨F, τ, M, E, s, l, q, up⟩ =>
    up_lcM hv s l q fun x M1 v H1 F1 q1 s1 r1 rv => up.nx _ _ _ _ _ q1 s1 r1 ((l.mono s1).set rv i)
end

/-! ### defs -/
abbrev SpD := List DV → DH → DQ → Prop
def upSp (K : PySem.W.Frag) (S : SpD) : Sp := fun vs H Q' _ => ∃ F M xs Q, SR K H F M ∧ RVs K F vs xs ∧ S xs M Q ∧ Up K F Q Q'
def startD (n : Nat) (xs : List DV) : Ds := xs.map some ++ List.replicate (n - xs.length) none
theorem sl_start {K : PySem.W.Frag} {F : Hp} {vs : List V} {xs : List DV} (N : List Str) (r : RVs K F vs xs) : SL K F (L2.start N vs) (startD N.length xs) := by
  have hl := r.length
  refine ⟨by unfold L2.start startD; simp [hl], fun i x e => ?_⟩
  unfold startD at e
  by_cases hi : i < xs.length
  · rw [List.getElem?_append_left (by simpa using hi), List.getElem?_map] at e
    cases e2 : xs[i]? with
    | none => rw [e2] at e; cases e
    | some y =>
      rw [e2] at e; cases e
      obtain ⟨v, h1, h2⟩ := r.get e2
      refine ⟨v, ?_, h2⟩
      unfold L2.start
      rw [List.getElem?_append_left (by simpa [hl] using hi), List.getElem?_map, h1]; rfl
  · rw [List.getElem?_append_right (by simpa using Nat.le_of_not_lt hi)] at e
    rw [List.getElem?_replicate] at e
    split at e
    · cases e
    · cases e
section
variable {P : Program} {w : World} {K : PySem.W.Frag} {mg : Str → Option Value} {base : Heap}
theorem vfn {x qual : Str} {st : Stmt} {f : Addr} {fd : FuncData} {N ps : List Str} {k : Nat} {S : SpD} {t : DS} (F : Fun K x qual st f fd) (sc : FnScope N ps (defScope st)) (len : ∀ xs M Q, S xs M Q → xs.length = ps.length)
    (hb : ∀ (cdv : Value) (A : Around) (outer : List Env) (s : Shared) (H : Hp) (E : XK), Room k (A.deeper (envOfC qual (defScope st) s.heap.objs.size f cdv)) → VSs (cxOf CX0 P w K mg base N qual (defScope st) f cdv A outer s H E).nox (defBody st) t)
    (hs : ∀ xs M Q, S xs M Q → t { nx := fun _ M' => Q (.d .none) M', rt := Q } (startD N.length xs) M) : FnOk P w K mg base CX0 (k + 1) f fd ps (upSp K S) := by
  refine F.ok sc (fun vs H Q' E ⟨F, M, xs, Q, s, r, q, u⟩ => by rw [RVs.length r]; exact len xs M Q q) fun cdv A outer s H vs Q' E hr ⟨F, M, xs, Q, sr, r, q, u⟩ => ?_
  refine ⟨_, hb cdv A outer s H E hr, F, _, M, _, sr, sl_start N r, hs xs M Q q, ⟨?_, u, fun _ _ _ _ _ z => z.elim, fun _ _ _ _ _ z => z.elim⟩⟩
  intro τ M' σ H' F' q' s' r' _
  exact u _ _ _ _ _ q' s' r' .non
/-- the module's name x holds a def that keeps S, by at most level k -/
structure Df (P : Program) (w : World) (K : PySem.W.Frag) (mg : Str → Option Value) (base : Heap) (k : Nat) (x : Str) (S : SpD) : Prop where
  ex : ∃ (f : Addr) (fd : FuncData) (ps : List Str), mg x = some (.ref f) ∧ FnOk P w K mg base CX0 k f fd ps (upSp K S) ∧ PySem.W.keepIn K (.ref f) = true ∧ Binds K fd ps []
theorem Df.mono {j k : Nat} {x : Str} {S : SpD} (h : Df P w K mg base j x S) (hj : j ≤ k) : Df P w K mg base k x S := by
  obtain ⟨f, fd, ps, h1, h2, h3, h4⟩ := h.ex
  exact ⟨f, fd, ps, h1, h2.mono hj, h3, h4⟩
/-- what the top holds of a def -/
structure Tp (K : PySem.W.Frag) (mg : Str → Option Value) (x : Str) (st : Stmt) (ps : List Str) : Prop where
  ex : ∃ (f : Addr) (fd : FuncData), mg x = some (.ref f) ∧ Fun K x x st f fd ∧ PySem.W.keepIn K (.ref f) = true ∧ Binds K fd ps []
theorem Tp.df {x : Str} {st : Stmt} {N ps : List Str} {k : Nat} {S : SpD} {t : DS} (T : Tp K mg x st ps) (sc : FnScope N ps (defScope st)) (len : ∀ xs M Q, S xs M Q → xs.length = ps.length)
    (hb : ∀ (f : Addr) (cdv : Value) (A : Around) (outer : List Env) (s : Shared) (H : Hp) (E : XK), Room k (A.deeper (envOfC x (defScope st) s.heap.objs.size f cdv)) → VSs (cxOf CX0 P w K mg base N x (defScope st) f cdv A outer s H E).nox (defBody st) t)
    (hs : ∀ xs M Q, S xs M Q → t { nx := fun _ M' => Q (.d .none) M', rt := Q } (startD N.length xs) M) : Df P w K mg base (k + 1) x S := by
  obtain ⟨f, fd, h1, h2, h3, h4⟩ := T.ex
  exact ⟨f, fd, ps, h1, vfn h2 sc len (hb f) hs, h3, h4⟩
end
section
variable {X : Cx} {k : Nat} {x : Str} {S : SpD} {e : Expr} {es : List Expr} {t : DA} {p pos : Pos}
theorem up_sp {K : PySem.W.Frag} {n : Nat} {σ : L2.St} {H F : Hp} {τ : Ds} {M : DH} {Q : DQ} {Q' : VK} {E : XK} (s : SR K H F M) (l : SL K F σ τ) (q : dCall S t τ M Q) (u : Up K F Q Q') : tCall (upSp K S) [] E (upA K n t) σ H Q' := by
  refine ⟨F, τ, M, _, s, l, q, fun xs M1 vs H1 F1 hn q1 s1 r1 rv => ?_⟩
  show upSp K S (vs ++ []) H1 Q' E
  rw [List.append_nil]
  exact ⟨F1, M1, xs, Q, r1, rv, q1, u.later s1⟩
theorem ve_call (D : Df X.prog X.w X.K X.mg X.base k x S) (hr : Room k X.A) (hg : Gl X x) (ha : VA X (e :: es) t) (hdb : (x == ("__debug__" : Str)) = false := by decide) (he : starEach (e :: es) X.env = (false, eval e X.env) :: starEach es X.env := by rfl) (hpl : (backTo pos (starEach es X.env)).any (·.1) = false := by rfl) :
    VE X (.Call (.Name x p) (e :: es) [] pos) (dCall S t) := by
  obtain ⟨f, fd, ps, h1, h2, h3, h4⟩ := D.ex
  exact VE.mk (pe_call (E := E0) h2 hr hg h1 h3 h4 .nil pass0 ha hdb he hpl) fun σ H F τ M Q Q' s l q u => up_sp s l q u
theorem ve_call0 (D : Df X.prog X.w X.K X.mg X.base k x S) (hr : Room k X.A) (hg : Gl X x) (hdb : (x == ("__debug__" : Str)) = false := by decide) : VE X (.Call (.Name x p) [] [] pos) (dCall S dNil) := by
  obtain ⟨f, fd, ps, h1, h2, h3, h4⟩ := D.ex
  refine VE.mk (pe_call0 (E := E0) h2 hr hg h1 h3 h4 .nil pass0 hdb) fun σ H F τ M Q Q' s l q u => ?_
  show upSp X.K S ([] ++ []) H Q' E0
  exact ⟨F, M, [], Q, s, .nil, q, u⟩
end
end VS

end

section
set_option Elab.async false
set_option linter.all false
set_option maxRecDepth 100000
set_option maxHeartbeats 4000000
/-! VS, part 7: chains, in, slices, methods, stores, products. -/
namespace VS
open PySem PySem.Spec PyProof.Rows L2

section
variable {X : Cx} {e a b c o : Expr} {ta tb tc to : DE} {pos : Pos} {es : List Expr} {tl : DA}
/-! ### a < b < c -/
theorem ve_chain {op op' : CmpOp} {r r' : D2} (ho : VO X (compareOp op) r) (ho' : VO X (compareOp op') r') (ha : VE X a ta) (hb : VE X b tb) (hc : VE X c tc)
    (hm : lastMarks [op, op'] [b, c] = false := by with_unfolding_all rfl) : VE X (.Compare a [op, op'] [b, c] pos) (dChain r r' ta tb tc) :=
  VE.mk (pe_chain ho ho' ha hb hc hm) fun σ H F τ M Q Q' s l q u => by
    refine ⟨F, τ, M, _, s, l, q, fun x M1 v H1 F1 q1 s1 r1 rv => ?_⟩
    refine ⟨F1, τ, M1, _, r1, l.mono s1, q1, fun y M2 w H2 F2 q2 s2 r2 rw' => ?_⟩
    refine ⟨F2, M2, x, y, _, r2, RV.mono s2 rv, rw', q2, fun z M3 v3 H3 F3 q3 s3 r3 rv3 => ?_⟩
    split at q3
    · rename_i k
      have rv3 : Rp X.K F3 v3 _ := rv3
      cases rv3
      refine ⟨k, rfl, ?_⟩
      cases k with
      | false => exact u _ _ _ _ _ q3 ((s1.trans s2).trans s3) r3 (.bl _)
      | true =>
        refine ⟨F3, τ, M3, _, r3, l.mono ((s1.trans s2).trans s3), q3, fun y' M4 w' H4 F4 q4 s4 r4 rw4 => ?_⟩
        exact ⟨F4, M4, y, y', Q, r4, RV.mono (s3.trans s4) rw', rw4, q4, u.later (((s1.trans s2).trans s3).trans s4)⟩
    · exact q3.elim
theorem vt_chain {op op' : CmpOp} {r r' : D2} (ho : VO X (compareOp op) r) (ho' : VO X (compareOp op') r') (ha : VE X a ta) (hb : VE X b tb) (hc : VE X c tc)
    (hm : lastMarks [op, op'] [b, c] = false := by with_unfolding_all rfl) : VT X (.Compare a [op, op'] [b, c] pos) (dTest (dChain r r' ta tb tc)) :=
  VT.mk (pt_chain ho ho' ha hb hc hm) fun σ H F τ M Q Q' s l q u => by
    refine ⟨F, τ, M, _, s, l, q, fun x M1 v H1 F1 q1 s1 r1 rv => ?_⟩
    refine ⟨F1, τ, M1, _, r1, l.mono s1, q1, fun y M2 w H2 F2 q2 s2 r2 rw' => ?_⟩
    refine ⟨F2, M2, x, y, _, r2, RV.mono s2 rv, rw', q2, fun z M3 v3 H3 F3 q3 s3 r3 rv3 => ?_⟩
    split at q3
    · rename_i k
      have rv3 : Rp X.K F3 v3 _ := rv3
      cases rv3
      refine ⟨k, rfl, ?_⟩
      cases k with
      | false => exact ⟨_, rfl, u _ _ _ _ q3 ((s1.trans s2).trans s3) r3⟩
      | true =>
        refine ⟨F3, τ, M3, _, r3, l.mono ((s1.trans s2).trans s3), q3, fun y' M4 w' H4 F4 q4 s4 r4 rw4 => ?_⟩
        refine ⟨F4, M4, y, y', _, r4, RV.mono (s3.trans s4) rw', rw4, q4, fun z5 M5 v5 H5 F5 q5 s5 r5 rv5 => ?_⟩
        split at q5
        · have rv5 : Rp X.K F5 v5 _ := rv5
          cases rv5
          exact ⟨_, rfl, u _ _ _ _ q5 ((((s1.trans s2).trans s3).trans s4).trans s5) r5⟩
        · exact q5.elim
    · exact q3.elim

/-! ### in -/
def inStr (x y : Str) : Bool := !(Builtin.Str.occurrences y x 0 y.length 1).isEmpty
def flatD : PyData → Bool
  | .none | .bool _ | .int _ | .str _ => true
  | _ => false
def inD (x : PyData) (ys : List PyData) : Bool := ys.any fun z => PyData.eqv z x
theorem flat_V {K : PySem.W.Frag} {F : Hp} {v : V} {x : PyData} (r : Rp K F v x) (h : flatD x = true) : flatV v = true := by
  cases r <;> first | rfl | cases h
theorem flat_eq {K : PySem.W.Frag} {F : Hp} {v w : V} {x y : PyData} (r : Rp K F v x) (r' : Rp K F w y) (h : flatD x = true) (h' : flatD y = true) : eqV v w = PyData.eqv x y := by
  cases r <;> first | cases h; done | (cases r' <;> first | cases h'; done | rfl | simp [eqV, PyData.eqv])
theorem flat_all {K : PySem.W.Frag} {F : Hp} {v : V} {x : PyData} (rx : Rp K F v x) (hx : flatD x = true) : ∀ {vs : List V} {ds : List PyData}, RpAll K F vs ds → ds.all flatD = true → vs.all flatV = true ∧ inV v vs = inD x ds
  | _, _, .nil, _ => ⟨rfl, rfl⟩
  | _, _, .cons r t, h => by
    rw [List.all_cons, Bool.and_eq_true] at h
    obtain ⟨h1, h2⟩ := flat_all rx hx t h.2
    refine ⟨by rw [List.all_cons, flat_V r h.1, h1]; rfl, ?_⟩
    unfold inV inD at h2 ⊢
    rw [List.any_cons, List.any_cons, flat_eq r rx h.1 hx, h2]
/-- x in y -/
def oIn (M : DH) (x y : DV) (k : Bool → Prop) : Prop := match x, y with
  | .d (.str i), .d (.str j) => k (inStr i j)
  | .d x, y => oSome (seqD M y) fun ds => ((flatD x = true ∧ ds.all flatD = true) ∨ ((∃ es, peek M y = some (.list es)) ∧ eqOk x = true ∧ eqOk (.list ds) = true)) ∧ k (inD x ds)
  | _, _ => False
def rInV : D2 := fun x y M Q => oIn M x y fun b => Q (.d (.bool b)) M
def rNotInV : D2 := fun x y M Q => oIn M x y fun b => Q (.d (.bool (!b))) M
theorem vo_in_core {op : CmpOp} {g : Bool → Bool} (hu : X.A.units + 65 < cLine) (r1 : OpR X (compareOp op) (fun x y H Q => ∃ i j, x = .str i ∧ y = .str j ∧ Q (.bl (g (inStr i j))) H))
    (r2 : OpR X (compareOp op) (fun x y H Q => ∃ p xs, y = .ref p ∧ (SqL X.K H p xs ∨ SqT X.K H p xs) ∧ flatV x = true ∧ xs.all flatV = true ∧ Q (.bl (g (inV x xs))) H))
    (r3 : OpR X (compareOp op) (fun x y H Q => ∃ d ds, Dp X.K H x d ∧ Dp X.K H y (.list ds) ∧ SeqAt.shaped d = true ∧ SeqAt.shaped (.list ds) = true ∧ Q (.bl (g (ds.any fun z => PyData.eqv z d))) H)) :
    VO X (compareOp op) (fun x y M Q => oIn M x y fun b => Q (.d (.bool (g b))) M) := by
  intro pins s σ H v w u1 u2 Q' I rr1 rr2 ⟨F, M, x, y, Q, sr, rv, rw', q, up⟩
  replace q : oIn M x y fun b => Q (.d (.bool (g b))) M := q
  unfold oIn at q
  split at q
  · have rv : Rp X.K F v _ := rv
    have rw' : Rp X.K F w _ := rw'
    cases rv; cases rw'
    exact r1 pins s σ H _ _ u1 u2 Q' I rr1 rr2 ⟨_, _, rfl, rfl, up.now q sr (.bl _)⟩
  · rename_i x' _
    have rv : Rp X.K F v x' := rv
    obtain ⟨ds, e, h, q⟩ := oSome_ok q
    rcases h with ⟨h1, h2⟩ | ⟨⟨es, h0⟩, h1, h2⟩
    · obtain ⟨p, vs, rfl, hs, t, l⟩ := sr.seqD rw' e
      obtain ⟨g1, g2⟩ := flat_all rv h1 t h2
      exact r2 pins s σ H _ _ u1 u2 Q' I rr1 rr2 ⟨p, vs, rfl, hs, flat_V rv h1, g1, by rw [g2]; exact up.now q sr (.bl _)⟩
    · obtain ⟨g1, g2⟩ := sr.peek (x := .d x') rv rfl (eqOk.nd h1)
      have hes : es = ds := by
        cases y with
        | d y =>
          cases h0
          have e : dAll (es.map .d) = some ds := e
          rw [dAll_of_map] at e
          exact Option.some.inj e
        | w y =>
          cases y with
          | ref a =>
            obtain ⟨ds', e1, e2⟩ := peekL_some (show peekL (lstAt (M a)) = some (.list es) from h0)
            cases e2
            have e : (match lstAt (M a) with | some xs => dAll xs | none => none) = some ds := e
            rw [e1] at e
            have e : dAll (es.map .d) = some ds := e
            rw [dAll_of_map] at e
            exact Option.some.inj e
          | _ => cases h0
      subst hes
      obtain ⟨k1, k2⟩ := sr.peek rw' h0 (eqOk.nd h2)
      refine r3 pins s σ H _ _ u1 u2 Q' I rr1 rr2 ⟨x', es, g1, k1, ?_, ?_, up.now q sr (.bl _)⟩
      · unfold eqOk at h1; rw [Bool.and_eq_true] at h1
        show (PyData.canLay0 x' && decide (x'.depth ≤ 64)) = true
        rw [g2, h1.2]; rfl
      · unfold eqOk at h2; rw [Bool.and_eq_true] at h2
        show (PyData.canLay0 (.list es) && decide ((PyData.list es).depth ≤ 64)) = true
        rw [k2, h2.2]; rfl
  · exact q.elim
theorem vo_in (hu : X.A.units + 65 < cLine) : VO X (compareOp .In) rInV := vo_in_core (g := id) hu op_in_str op_in_seq (op_inD hu)
theorem vo_notin (hu : X.A.units + 65 < cLine) : VO X (compareOp .NotIn) rNotInV := vo_in_core (g := not) hu op_notin_str op_notIn_seq (op_notInD hu)
theorem inStr_sign (c : Nat) (z : Str) : inStr (sg c) z = decide (c ∈ z.cps.toList) := (PySem.StrLaws.found_one z c)

/-! ### slices -/
abbrev DO' := Ds → DH → (Option Int → DH → Prop) → Prop
def upP (K : PySem.W.Frag) (t : DO') : TO := fun σ H Q' => ∃ F τ M Q, SR K H F M ∧ SL K F σ τ ∧ t τ M Q ∧ ∀ i M' H' F', Q i M' → Same F F' → SR K H' F' M' → Q' i H'
def VP (X : Cx) (e : Option Expr) (t : DO') : Prop := PO X e (upP X.K t)
theorem PO.imp {e : Option Expr} {t t' : TO} (h : PO X e t) (i : ∀ σ H Q, t' σ H Q → t σ H Q) : PO X e t' := ⟨fun pins s σ H Q I q => h.run pins s σ H Q I (i σ H Q q)⟩
def dNoP : DO' := fun _ M Q => Q none M
def dPart (t : DE) : DO' := fun τ M Q => t τ M fun x M1 => match x with
  | .d (.int i) => Q (some i) M1
  | _ => False
theorem vp_none : VP X none dNoP := PO.imp po_none fun σ H Q' ⟨F, τ, M, Q, s, l, q, u⟩ => u none M H F q (Same.refl _) s
theorem vp_some (h : VE X e ta) : VP X (some e) (dPart ta) := PO.imp (po_some h) fun σ H Q' ⟨F, τ, M, Q, s, l, q, u⟩ => by
  refine ⟨F, τ, M, _, s, l, q, fun x M1 v H1 F1 q1 s1 r1 rv => ?_⟩
  split at q1
  · have rv : Rp X.K F1 v _ := rv
    cases rv
    exact ⟨_, rfl, u _ _ _ _ q1 s1 r1⟩
  · exact q1.elim
def cutL {α : Type} (xs : List α) (lo hi : Option Int) : List α := (xs.drop (HT.sIx xs.length 0 lo)).take (HT.sIx xs.length xs.length hi - HT.sIx xs.length 0 lo)
def gSl (x : DV) (lo hi : Option Int) (M : DH) (Q : DQ) : Prop := match x with
  | .d (.str z) => Q (.d (.str (cutS z lo hi))) M
  | .d (.tuple ds) => Q (.d (.tuple (cutL ds lo hi))) M
  | x => oSome (lsD M x) fun ds => Q (.d (.list (cutL ds lo hi))) M
def dSl (te : DE) (tl th : DO') : DE := fun τ M Q => te τ M fun x M1 => tl τ M1 fun l M2 => th τ M2 fun h M3 => gSl x l h M3 Q
def rSlAll (K : PySem.W.Frag) : V → Option Int → Option Int → Hp → VK → Prop := fun x lo hi H Q => rSlL K x lo hi H Q ∨ rSlA K x lo hi H Q ∨ rSlS x lo hi H Q
theorem sl_all : SlR X (rSlAll X.K) := sl_list.or (sl_tupA.or sl_str)
theorem RpAll.cut {K : PySem.W.Frag} {F : Hp} {vs : List V} {ds : List PyData} (t : RpAll K F vs ds) (lo hi : Option Int) : RpAll K F (cutV vs lo hi) (cutL ds lo hi) := by
  unfold cutV cutL
  rw [t.length]
  exact (t.drop _).take _
theorem cutS_ok {z : Str} (lo hi : Option Int) (h : PyData.strOk z = true) : PyData.strOk (cutS z lo hi) = true := by
  refine strOk_of fun c hc => strOk_mem h ?_
  exact List.mem_of_mem_drop (List.mem_of_mem_take hc)
theorem ve_slice {lo hi : Option Expr} {tlo thi : DO'} {p2 : Pos} (he : VE X e ta) (hl : VP X lo tlo) (hh : VP X hi thi) : VE X (.Subscript e (.Slice lo hi none p2) pos) (dSl ta tlo thi) :=
  VE.mk (pe_slice sl_all he hl hh) fun σ H F τ M Q Q' s l q u => by
    refine ⟨F, τ, M, _, s, l, q, fun x M1 v H1 F1 q1 s1 r1 rv => ?_⟩
    refine ⟨F1, τ, M1, _, r1, l.mono s1, q1, fun lo' M2 H2 F2 q2 s2 r2 => ?_⟩
    refine ⟨F2, τ, M2, _, r2, l.mono (s1.trans s2), q2, fun hi' M3 H3 F3 q3 s3 r3 => ?_⟩
    have rv := RV.mono (s2.trans s3) rv
    have sa := (s1.trans s2).trans s3
    unfold gSl at q3
    split at q3
    · have rv : Rp X.K F3 v _ := rv
      cases rv with
      | str _ o l1 => exact .inr (.inr ⟨_, rfl, l1, u _ _ _ _ _ q3 sa r3 (.str _ (cutS_ok _ _ o) (Nat.le_trans (cutS_length _ _ _) l1))⟩)
    · have rv : Rp X.K F3 v _ := rv
      cases rv with
      | tup h1 l1 t1 =>
        refine .inr (.inl ⟨_, _, rfl, SqT.same r3.sub h1, fun hw => ?_, fun hw p hp => ?_⟩)
        · have e : ∀ {ds : List PyData} {vs : List V}, RpAll X.K F3 vs ds → HT.sIx vs.length 0 lo' = 0 ∧ HT.sIx vs.length vs.length hi' = vs.length → cutL ds lo' hi' = ds := by
            intro ds vs t hw
            unfold cutL
            rw [← t.length, hw.1, hw.2, List.drop_zero, Nat.sub_zero, t.length, List.take_length]
          rw [e t1 hw] at q3
          exact u _ _ _ _ _ q3 sa r3 (.tup h1 l1 t1)
        · obtain ⟨s4, r4⟩ := r3.newF hp (.tup _)
          exact u _ _ _ _ _ q3 (sa.trans s4) r4 (.tup (SqT.of upd_same) (Nat.le_trans (cutV_length _ _ _) l1) ((t1.cut lo' hi').mono s4))
    · obtain ⟨ds, e1, q4⟩ := oSome_ok q3
      obtain ⟨p0, vs, rfl, h1, t1, l1⟩ := r3.lsD rv e1
      refine .inl ⟨p0, vs, rfl, h1, fun p hp => ?_⟩
      obtain ⟨s4, r4⟩ := r3.newF hp (.lst _)
      exact u _ _ _ _ _ q4 (sa.trans s4) r4 (.lst upd_same (Nat.le_trans (cutV_length _ _ _) l1) ((t1.cut lo' hi').mono s4))

/-! ### methods of what is built in -/
abbrev DM := DV → List DV → DH → DQ → Prop
def upM (K : PySem.W.Frag) (r : DM) : V → List V → Hp → VK → Prop := fun v vs H Q' => ∃ F M x xs Q, SR K H F M ∧ RV K F v x ∧ RVs K F vs xs ∧ r x xs M Q ∧ Up K F Q Q'
def VM (X : Cx) (id : String) (r : DM) : Prop := MtR X id (upM X.K r)
def tyM (T : String) (M : DH) (x : DV) : Prop := match x with
  | .d (.str _) => T = "str"
  | .d (.list _) => T = "list"
  | .d (.dict _) => T = "dict"
  | .w (.ref a) => T = "list" ∧ ∃ xs, lstAt (M a) = some xs
  | _ => False
def dMt (T : String) (r : DM) (to : DE) (t : DA) : DE := fun τ M Q => to τ M fun x M1 => tyM T M1 x ∧ t τ M1 fun xs M2 => r x xs M2 Q
def dMt0 (T : String) (r : DM) (to : DE) : DE := fun τ M Q => to τ M fun x M1 => tyM T M1 x ∧ r x [] M1 Q
theorem tyM_ok {K : PySem.W.Frag} {H F : Hp} {M : DH} {x : DV} {v : V} {T : String} (s : SR K H F M) (r : RV K F v x) (h : tyM T M x) (hd : T ≠ "dict") : tyV K T v H := by
  unfold tyM at h
  split at h
  · have r : Rp K F v _ := r
    cases r; exact h
  · have r : Rp K F v _ := r
    cases r with | lst h1 _ _ => exact .inl ⟨h, _, SqL.of (s.sub _ _ h1)⟩
  · exact absurd h hd
  · rename_i a
    have r : v = .ref a := r
    subst r
    obtain ⟨h1, xs, h2⟩ := h
    obtain ⟨vs, g, _, _⟩ := s.raw h2
    exact .inl ⟨h1, vs, g⟩
  · exact h.elim
theorem ve_bm {T id : String} {name : Str} {r : DM} {apos cpos : Pos} (pa : PlainAttrs T) (slot : Slot T name id) (hty : typeOf (.builtin id) = pure (.type "method_descriptor")) (hm : VM X id r) (ho : VE X o to) (ha : VA X (e :: es) tl) (hd : T ≠ "dict" := by decide)
    (hbase : attributeBase o name X.env (eval o X.env) = eval o X.env := by rfl)
    (hfew : ((backTo cpos (starEach (e :: es) X.env)).all (fun x => !x.1) && (backToKw cpos (keywordEach [] X.env)).all (fun x => x.1.isSome)
      && decide ((e :: es).length + ([] : List Keyword).length + (if ([] : List Keyword).isEmpty then 0 else 1) < 30)) = true := by rfl)
    (hline : (apos.endLine == cpos.line) = true := by rfl) (hs : starEach (e :: es) X.env = (false, eval e X.env) :: starEach es X.env := by rfl) (hplain : (backTo cpos (starEach es X.env)).any (·.1) = false := by rfl) :
    VE X (.Call (.Attribute o name apos) (e :: es) [] cpos) (dMt T r to tl) :=
  VE.mk (pe_bm pa slot hty hm ho ha hbase hfew hline hs hplain) fun σ H F τ M Q Q' s l q u => by
    refine ⟨F, τ, M, _, s, l, q, fun x M1 v H1 F1 q1 s1 r1 rv => ?_⟩
    refine ⟨tyM_ok r1 rv q1.1 hd, F1, τ, M1, _, r1, l.mono s1, q1.2, fun xs M2 vs H2 F2 hn q2 s2 r2 rvs => ?_⟩
    exact ⟨F2, M2, x, xs, Q, r2, RV.mono s2 rv, rvs, q2, u.later (s1.trans s2)⟩
theorem ve_bm0 {T id : String} {name : Str} {r : DM} {apos cpos : Pos} (pa : PlainAttrs T) (slot : Slot T name id) (hty : typeOf (.builtin id) = pure (.type "method_descriptor")) (hm : VM X id r) (ho : VE X o to) (hd : T ≠ "dict" := by decide)
    (hbase : attributeBase o name X.env (eval o X.env) = eval o X.env := by rfl) (hline : (apos.endLine == cpos.line) = true := by rfl) : VE X (.Call (.Attribute o name apos) [] [] cpos) (dMt0 T r to) :=
  VE.mk (pe_bm0 pa slot hty hm ho hbase hline) fun σ H F τ M Q Q' s l q u => by
    refine ⟨F, τ, M, _, s, l, q, fun x M1 v H1 F1 q1 s1 r1 rv => ?_⟩
    exact ⟨tyM_ok r1 rv q1.1 hd, F1, M1, x, [], Q, r1, rv, .nil, q1.2, u.later s1⟩
def mAppend : DM := fun x xs M Q => match x, xs with
  | .w (.ref a), [y] => oSome (lstO (M a)) fun ys => ys.length < sizeLine ∧ Q (.d .none) (updM M a (.lst (ys ++ [y])))
  | _, _ => False
theorem vm_append : VM X "list.append" mAppend := by
  intro pins s σ H v vs u us Q' I r rs ⟨F, M, x, xs, Q, sr, rv, rvs, q, up⟩
  unfold mAppend at q
  split at q
  · rename_i a y
    have rv : v = .ref a := rv
    subst rv
    obtain ⟨ys, e, hl, q⟩ := oSome_ok q
    obtain ⟨w, rfl, rw'⟩ := rvs1 rvs
    obtain ⟨ws, h1, h2, h3⟩ := sr.lst (lstO_some e)
    have hlen := h2.length
    refine mt_append pins s σ H _ _ u us Q' I r rs ⟨a, ws, w, rfl, rfl, h1, by omega, ?_⟩
    exact up _ _ _ _ _ q (Same.refl _) (sr.put (o := .lst (ws ++ [w])) (u := .lst (ys ++ [y])) (lstO_some e) ⟨by rw [List.length_append, List.length_singleton]; omega, h2.append (.cons rw' .nil)⟩) .non
  · exact q.elim
/-- the first place of x -/
def idxD (x : PyData) : List PyData → Option Nat
  | [] => none
  | z :: zs => if PyData.eqv z x = true then some 0 else (idxD x zs).map (· + 1)
theorem idxD_some {x : PyData} : ∀ {ds : List PyData} {j : Nat}, idxD x ds = some j → ∃ z, ds[j]? = some z ∧ PyData.eqv z x = true ∧ ∀ (m : Nat) z', m < j → ds[m]? = some z' → PyData.eqv z' x = false
  | [], _, h => by cases h
  | d :: ds, j, h => by
    unfold idxD at h
    by_cases e : PyData.eqv d x = true
    · rw [if_pos e] at h; cases h
      exact ⟨d, rfl, e, fun m z' hm => absurd hm (Nat.not_lt_zero _)⟩
    · rw [if_neg e] at h
      cases e2 : idxD x ds with
      | none => rw [e2] at h; cases h
      | some k =>
        rw [e2] at h; cases h
        obtain ⟨z, h1, h2, h3⟩ := idxD_some e2
        refine ⟨z, by simpa using h1, h2, fun m z' hm hz => ?_⟩
        cases m with
        | zero => simp at hz; subst hz; exact Bool.eq_false_iff.mpr e
        | succ m => exact h3 m z' (Nat.lt_of_succ_lt_succ hm) (by simpa using hz)
def mIndex : DM := fun x xs M Q => match xs with
  | [.d y] => oSome (lsD M x) fun ds => eqOk (.list ds) = true ∧ eqOk y = true ∧ oSome (idxD y ds) fun j => Q (.d (.int j)) M
  | _ => False
theorem lsD_peek {M : DH} {x : DV} {ds : List PyData} (h : lsD M x = some ds) : peek M x = some (.list ds) := by
  cases x with
  | d x => cases x <;> first | (cases h; done) | (cases h; rfl)
  | w u =>
    cases u <;> first | cases h; done | skip
    rename_i a
    have h : (match lstAt (M a) with | some xs => dAll xs | none => none) = some ds := h
    show peekL (lstAt (M a)) = _
    split at h
    · rename_i xs e
      rw [e]
      show (match dAll xs with | some ds => some (PyData.list ds) | none => none) = _
      rw [h]
    · cases h
theorem vm_index (hu : X.A.units + 65 < cLine) : VM X "list.index" mIndex := by
  intro pins s σ H v vs u us Q' I r rs ⟨F, M, x, xs, Q, sr, rv, rvs, q, up⟩
  unfold mIndex at q
  split at q
  · rename_i y
    obtain ⟨ds, e, h1, h2, q⟩ := oSome_ok q
    obtain ⟨j, e2, q⟩ := oSome_ok q
    obtain ⟨w, rfl, rw'⟩ := rvs1 rvs
    obtain ⟨z, g1, g2, g3⟩ := idxD_some e2
    obtain ⟨k1, k2⟩ := sr.peek rv (lsD_peek e) (eqOk.nd h1)
    obtain ⟨k3, k4⟩ := sr.peek (x := .d y) rw' rfl (eqOk.nd h2)
    obtain ⟨p0, ws, rfl, _⟩ := sr.lsD rv e
    refine mt_indexD hu pins s σ H _ _ u us Q' I r rs ⟨p0, w, y, ds, j, z, rfl, rfl, k1, k3, ?_, ?_, g1, g2, g3, up.now q sr (.int _)⟩
    · unfold eqOk at h1; rw [Bool.and_eq_true] at h1
      show (PyData.canLay0 (.list ds) && decide ((PyData.list ds).depth ≤ 64)) = true
      rw [k2, h1.2]; rfl
    · unfold eqOk at h2; rw [Bool.and_eq_true] at h2
      show (PyData.canLay0 y && decide (y.depth ≤ 64)) = true
      rw [k4, h2.2]; rfl
  · exact q.elim

/-! ### stores: xs[i] = e -/
def dSub (te to ti : DE) : DS := fun E τ M => te τ M fun x M1 => to τ M1 fun o M2 => ti τ M2 fun i M3 => match o, i with
  | .w (.ref a), .d (.int k) => oSome (lstO (M3 a)) fun ys => oSome (ixN ys.length k) fun j => E.nx τ (updM M3 a (.lst (ys.set j x)))
  | _, _ => False
theorem vs_sub {i : Expr} {te ti : DE} {spos : Pos} (he : VE X e te) (ho : VE X o to) (hi : VE X i ti)
    (ha : ∀ v, assign (.Subscript o i pos) X.env v = (do
      let ov ← holding [v] (eval o X.env)
      let iv ← holding [v, ov] (eval i X.env)
      standAt pos
      holding [v, ov, iv] (setItem ov iv v)
      release [v, ov, iv] []) := by intro _; rfl)
    (hs : swapsWithSole [.Subscript o i pos] e spos.line X.env = pure false := by rfl) (hw : swappedStores [.Subscript o i pos] e X.env = pure none := by rfl)
    (h1 : (assignEach [.Subscript o i pos] X.env).map (·.2) = [assign (.Subscript o i pos) X.env] := by rfl) : VS' X (.Assign [.Subscript o i pos] e spos) (dSub te to ti) :=
  PS.imp (ps_asg he (pg_sub ho hi set_list ha) hs hw h1) fun D σ H ⟨F, τ, M, E, s, l, q, up⟩ => by
    refine ⟨F, τ, M, _, s, l, q, fun x M1 v H1 F1 q1 s1 r1 rv => ?_⟩
    refine ⟨F1, τ, M1, _, r1, l.mono s1, q1, fun ov M2 w H2 F2 q2 s2 r2 ro => ?_⟩
    refine ⟨F2, τ, M2, _, r2, l.mono (s1.trans s2), q2, fun iv M3 z H3 F3 q3 s3 r3 ri => ?_⟩
    have sa := (s1.trans s2).trans s3
    split at q3
    · rename_i a k
      obtain ⟨ys, e1, q3⟩ := oSome_ok q3
      obtain ⟨j, e2, q3⟩ := oSome_ok q3
      have ro : w = .ref a := ro
      subst ro
      have ri : Rp X.K F3 z _ := ri
      cases ri
      obtain ⟨ws, h1, h2, h3⟩ := r3.lst (lstO_some e1)
      refine ⟨a, ws, k, j, rfl, rfl, h1, by rw [h2.length]; exact e2, ?_⟩
      exact up.nx _ _ _ _ _ q3 sa (r3.put (o := .lst (ws.set j v)) (u := .lst (ys.set j x)) (lstO_some e1) ⟨by rw [List.length_set]; exact h3, h2.set (RV.mono (s2.trans s3) rv) j⟩) (l.mono sa)
    · exact q3.elim
end
end VS

end

section
set_option Elab.async false
set_option linter.all false
set_option maxRecDepth 100000
set_option maxHeartbeats 4000000
/-! VS, part 8: dict displays, products, defs held by names, constants of the module. -/
namespace VS
open PySem PySem.Spec PyProof.Rows L2

section
variable {X : Cx} {e a b c o : Expr} {ta tb tc to : DE} {pos : Pos} {es : List Expr} {tl : DA}
/-! ### products -/
def rMulV : D2 := fun x y M Q => match x, y with
  | .d (.int i), .d (.int j) => CMul i j ∧ Q (.d (.int (i * j))) M
  | .d (.tuple ds), .d (.int k) => (ds ≠ [] ∧ 2 ≤ k ∧ k ≤ 1000 ∧ ds.length ≤ 1000) ∧ Q (.d (.tuple (repL k.toNat ds))) M
  | .d (.list ds), .d (.int k) => (-(2 ^ 63) ≤ k ∧ k < 2 ^ 63 ∧ ds.length * k.toNat ≤ sizeLine) ∧ Q (.d (.list (repL k.toNat ds))) M
  | _, _ => False
theorem vo_mul : VO X (binaryOp .Mult) rMulV := by
  intro pins s σ H v w u1 u2 Q' I r1 r2 ⟨F, M, x, y, Q, sr, rv, rw', q, up⟩
  unfold rMulV at q
  split at q
  · have rv : Rp X.K F v _ := rv
    have rw' : Rp X.K F w _ := rw'
    cases rv; cases rw'
    exact op_mul pins s σ H _ _ u1 u2 Q' I r1 r2 ⟨_, _, rfl, rfl, q.1, up.now q.2 sr (.int _)⟩
  · rename_i ds k
    have rv : Rp X.K F v _ := rv
    have rw' : Rp X.K F w _ := rw'
    obtain ⟨⟨h1, h2, h3, h4⟩, q⟩ := q
    cases rw'
    cases rv with
    | tup a1 l1 t1 =>
      have e1 := t1.length
      refine op_repT pins s σ H _ _ u1 u2 Q' I r1 r2 ⟨_, k, _, rfl, rfl, SqT.same sr.sub a1, fun z => ?_, h2, h3, by omega, fun p hp => ?_⟩
      · subst z; cases t1; exact h1 rfl
      · obtain ⟨s1, s2⟩ := sr.newF hp (.tup (repL k.toNat _))
        refine up _ _ _ _ _ q s1 s2 (.tup (SqT.of upd_same) ?_ ((t1.rep k.toNat).mono s1))
        rw [repL_length, e1]
        have hk : k.toNat ≤ 1000 := by omega
        have hm : k.toNat * ds.length ≤ 1000 * 1000 := Nat.mul_le_mul hk h4
        exact Nat.le_trans hm (by decide)
  · rename_i ds k
    have rv : Rp X.K F v _ := rv
    have rw' : Rp X.K F w _ := rw'
    obtain ⟨⟨h1, h2, h3⟩, q⟩ := q
    cases rw'
    cases rv with
    | lst a1 l1 t1 =>
      have e1 := t1.length
      refine op_rep pins s σ H _ _ u1 u2 Q' I r1 r2 ⟨_, k, _, rfl, rfl, sr.sub _ _ a1, h1, h2, by rw [e1]; exact h3, fun p hp => ?_⟩
      obtain ⟨s1, s2⟩ := sr.newF hp (.lst (repL k.toNat _))
      refine up _ _ _ _ _ q s1 s2 (.lst upd_same ?_ ((t1.rep k.toNat).mono s1))
      rw [repL_length, e1, Nat.mul_comm]; exact h3
  · exact q.elim
def repS (z : Str) (k : Int) : Str := ⟨(repL k.toNat z.cps.toList).toArray⟩
def rMulS : D2 := fun x y M Q => match x, y with
  | .d (.str z), .d (.int k) => (0 ≤ k ∧ k ≤ 1000000 ∧ z.length * k.toNat ≤ sizeLine) ∧ Q (.d (.str (repS z k))) M
  | _, _ => False

/-! ### dict displays -/
def pairsD : List (DE × DE) → Ds → DH → (List (DV × DV) → DH → Prop) → Prop
  | [], _, M, Q => Q [] M
  | (k, v) :: r, τ, M, Q => k τ M fun x M1 => v τ M1 fun y M2 => pairsD r τ M2 fun ps M3 => Q ((x, y) :: ps) M3
/-- the pairs of a dict: keys that are ints and texts, no two alike; data -/
def esOf : List (DV × DV) → Option (List (PyData × PyData))
  | [] => some []
  | (.d k, .d v) :: r => match keyD k, esOf r with
    | some _, some es => if valD es k = none then some ((k, v) :: es) else none
    | _, _ => none
  | _ :: _ => none
def upPairs (K : PySem.W.Frag) : List (DE × DE) → List (TE × TE) := List.map fun p => (upE K p.1, upE K p.2)
theorem up_pairs {K : PySem.W.Frag} {Q' : List (V × V) → Hp → Prop} : ∀ {trs : List (DE × DE)} {σ : L2.St} {H F : Hp} {τ : Ds} {M : DH} {Q : List (DV × DV) → DH → Prop}, SR K H F M → SL K F σ τ → pairsD trs τ M Q →
    (∀ ps M' vs H' F', Q ps M' → Same F F' → SR K H' F' M' → Paired (fun (p : V × V) (q : DV × DV) => RV K F' p.1 q.1 ∧ RV K F' p.2 q.2) vs ps → Q' vs H') → tPairs (upPairs K trs) σ H Q'
  | [], σ, H, F, τ, M, Q, s, l, q, u => u [] M [] H F q (Same.refl _) s .nil
  | (k, v) :: r, σ, H, F, τ, M, Q, s, l, q, u => by
    refine ⟨F, τ, M, _, s, l, q, fun x M1 w1 H1 F1 q1 s1 r1 rx => ?_⟩
    refine ⟨F1, τ, M1, _, r1, l.mono s1, q1, fun y M2 w2 H2 F2 q2 s2 r2 ry => ?_⟩
    refine up_pairs r2 (l.mono (s1.trans s2)) q2 fun ps M3 vs H3 F3 q3 s3 r3 rel => ?_
    exact u _ _ _ _ _ q3 ((s1.trans s2).trans s3) r3 (.cons ⟨RV.mono (s2.trans s3) rx, RV.mono s3 ry⟩ rel)
theorem esOf_ok {K : PySem.W.Frag} {F : Hp} : ∀ {ps : List (DV × DV)} {es : List (PyData × PyData)} {vs : List (V × V)}, esOf ps = some es → Paired (fun (p : V × V) (q : DV × DV) => RV K F p.1 q.1 ∧ RV K F p.2 q.2) vs ps →
    ∃ kvs : List (Key × V), vs = kvs.map (fun kv => (kV kv.1, kv.2)) ∧ RpKV K F kvs es ∧ kvs.length = ps.length ∧ (kvs.map (·.1)).Nodup
  | [], es, vs, h, r => by cases h; cases r; exact ⟨[], rfl, .nil, rfl, List.nodup_nil⟩
  | (.d k, .d v) :: r, es, _, h, .cons (a := w) rr t => by
    unfold esOf at h
    split at h
    · rename_i kk es' e1 e2
      split at h
      · rename_i e3
        cases h
        obtain ⟨kvs, h1, h2, h3, h4⟩ := esOf_ok e2 t
        have e4 := keyD_some e1
        subst e4
        obtain ⟨w1, w2⟩ := w
        have rk : Rp K F w1 (kD kk) := rr.1
        have e5 : w1 = kV kk := rp_key rk
        subst e5
        refine ⟨(kk, w2) :: kvs, by rw [h1]; rfl, .cons rr.2 h2, by simp [h3], List.nodup_cons.mpr ⟨fun hm => ?_, h4⟩⟩
        have g := rpkv_get (k := kk) h2
        rw [e3] at g
        have : valV kvs kk = none := g
        obtain ⟨p, hp1, hp2⟩ := List.mem_map.mp hm
        unfold valV at this
        rw [Option.map_eq_none_iff, List.find?_eq_none] at this
        exact this p hp1 (by simp [hp2])
      · cases h
    · cases h
  | (.d _, .w _) :: _, _, _, h, _ => by cases h
  | (.w _, _) :: _, _, _, h, _ => by cases h
theorem mergeK_nodup : ∀ (kvs acc : List (Key × V)), ((acc ++ kvs).map (·.1)).Nodup → mergeK acc kvs = acc ++ kvs
  | [], acc, _ => by simp [mergeK]
  | kv :: r, acc, h => by
    have hn : ∀ p ∈ acc, ¬ p.1 = kv.1 := fun p hp e => by
      rw [List.map_append, List.nodup_append] at h
      exact h.2.2 p.1 (List.mem_map_of_mem hp) kv.1 (by simp) e
    have e1 : putK acc kv.1 kv.2 = acc ++ [kv] := by
      unfold putK
      rw [if_neg]
      simp only [List.any_eq_true, decide_eq_true_eq, not_exists, not_and]
      exact hn
    show mergeK (putK acc kv.1 kv.2) r = _
    rw [e1, mergeK_nodup r (acc ++ [kv]) (by simpa using h)]
    simp
def dDisp (trs : List (DE × DE)) : DE := fun τ M Q => ∀ D, M D = none → pairsD trs τ (updM M D (.dK [])) fun ps M2 => ∃ M3, M2 = updM M3 D (.dK []) ∧ M3 D = none ∧ ps.length ≤ 15 ∧ oSome (esOf ps) fun es => Q (.d (.dict es)) M3
theorem ve_disp {keys : List (Option Expr)} {values : List Expr} {trs : List (DE × DE)} (h : PPs X pos keys values (upPairs X.K trs)) (hall : keys.all (·.isSome) = true) (hl : keys.length = values.length) (h0 : keys ≠ [])
    (h15 : keys.length ≤ 15) : VE X (.Dict keys values pos) (dDisp trs) :=
  VE.mk (pe_disp h hall hl h0 h15) fun σ H F τ M Q Q' s l q u => by
    intro p hp
    obtain ⟨f1, f2⟩ := s.free hp
    refine up_pairs (s.newM (u := .dK []) (o := .dK []) hp ⟨Nat.zero_le _, .nil⟩) l (q p f2) fun ps M2 vs H2 F2 q2 s2 r2 rel => ?_
    obtain ⟨M3, rfl, d3, h15', q3⟩ := q2
    obtain ⟨es, e1, q4⟩ := oSome_ok q3
    obtain ⟨g1, u1, g2, g3⟩ := r2.own p _ updM_same
    have g4 : u1 = .dK [] := by
      cases u1 with
      | dK kvs => obtain ⟨_, t⟩ := g3; cases t; rfl
      | frz ob u1 => cases u1 <;> exact g3.elim
      | _ => exact g3.elim
    subst g4
    obtain ⟨kvs, k1, k2, k3, k4⟩ := esOf_ok e1 rel
    refine ⟨g2, kvs, k1, ?_, ?_⟩
    · omega
    · rw [mergeK_nodup kvs [] (by simpa using k4), List.nil_append]
      have sf : Same F2 (upd F2 p (.dK kvs)) := fun b x e => by rw [upd_ne (ne_of_none e g1)]; exact e
      refine u _ _ _ _ _ q4 (s2.trans sf) ⟨fun b x e => ?_, fun b x e => ?_⟩ (.dct (.inl upd_same) ?_ (k2.mono sf))
      · by_cases hb : b = p
        · subst hb; rw [upd_same] at e ⊢; exact e
        · rw [upd_ne hb] at e ⊢; exact r2.sub _ _ e
      · have hb : b ≠ p := fun z => by subst z; rw [d3] at e; cases e
        obtain ⟨h1, y, h2, h3⟩ := r2.own b x (by rw [updM_ne hb]; exact e)
        exact ⟨by rw [upd_ne hb]; exact h1, y, by rw [upd_ne hb]; exact h2, h3.mono sf⟩
      · have : sizeLine = 16777216 := by decide
        omega
end
end VS

end

section
set_option Elab.async false
set_option linter.all false
set_option maxRecDepth 100000
set_option maxHeartbeats 4000000
/-! VS, part 9: text times int, defs held by names, constants of the module. -/
namespace VS
open PySem PySem.Spec PyProof.Rows L2
theorem foldl_cps (a : Array Nat) : ∀ (n : Nat) (acc : Array Nat), ((List.replicate n a).foldl (· ++ ·) acc).toList = acc.toList ++ repL n a.toList
  | 0, acc => by simp [repL]
  | n + 1, acc => by
    rw [List.replicate_succ, List.foldl_cons, foldl_cps a n, Array.toList_append, List.append_assoc]
    unfold repL
    rw [List.replicate_succ, List.flatten_cons]
theorem mul_rep {z : Str} {k : Int} (h : 0 ≤ k) : PySem.Txt.mul z k = repS z k := by
  unfold PySem.Txt.mul repS
  by_cases h1 : k < 1
  · rw [if_pos h1]
    have : k = 0 := by omega
    subst this
    rfl
  · rw [if_neg h1]
    by_cases h2 : (k == 1 || z.length == 0) = true
    · rw [if_pos h2]
      rw [Bool.or_eq_true] at h2
      rcases h2 with h2 | h2
      · have : k = 1 := eq_of_beq h2
        subst this
        show z = ⟨(repL 1 z.cps.toList).toArray⟩
        unfold repL
        simp
      · have h3 : z.cps.size = 0 := eq_of_beq h2
        have h4 : z.cps.toList = [] := by
          rw [← Array.length_toList] at h3
          exact List.length_eq_zero_iff.mp h3
        rw [h4]
        have : repL k.toNat ([] : List Nat) = [] := List.length_eq_zero_iff.mp (by rw [repL_length]; simp)
        rw [this]
        obtain ⟨a⟩ := z
        simp at h4
        rw [h4]
    · rw [if_neg h2]
      congr 1
      have := foldl_cps z.cps k.toNat #[]
      rw [List.nil_append] at this
      rw [← this]
section
variable {X : Cx} {e a b c o : Expr} {ta tb tc to : DE} {pos : Pos} {es : List Expr} {tl : DA}
theorem op_mulS : OpR X (binaryOp .Mult) (fun x y H Q => ∃ z k, x = .str z ∧ y = .int k ∧ (0 ≤ k ∧ k ≤ 1000000) ∧ z.length * k.toNat ≤ sizeLine ∧ Q (.str (repS z k)) H) := by
  intro pins s σ H x y v u Q I rx ry h
  obtain ⟨z, k, rfl, rfl, ⟨h1, h2⟩, hz, q⟩ := h
  obtain ⟨t, rfl⟩ := rx
  obtain ⟨t', rfl⟩ := ry
  have e : sizeLine = 16777216 := by decide
  refine SB.mul ⟨?_, fun g1 g2 => ?_, fun g1 g2 => ?_⟩ fun tk k' => ?_
  · rw [decide_eq_false (by omega), decide_eq_false (by omega)]; rfl
  · have hk : 1 ≤ k := by omega
    have h5 : ((z.length * k.toNat : Nat) : Int) ≤ 16777216 := by omega
    have h6 : (z.length : Int) * k ≤ 16777216 := by
      have : ((z.length * k.toNat : Nat) : Int) = (z.length : Int) * k := by
        rw [Int.natCast_mul, Int.toNat_of_nonneg h1]
      omega
    have h7 : (16777216 : Int) / k ≤ (2 ^ 63 - 1) / k := Int.ediv_le_ediv (by omega) (by decide)
    have h8 : (z.length : Int) ≤ 16777216 / k := (Int.le_ediv_iff_mul_le (by omega)).mpr h6
    omega
  · unfold Builtin.Str.tooLong
    exact decide_eq_false (by omega)
  · have I' := I.kept (h' := s.heap) (t' := k') fun b o e => e
    exact ⟨.str (repS z k), H, I', ⟨tk, by rw [mul_rep h1]⟩, q⟩
theorem repL_mem {α : Type} {xs : List α} {x : α} : ∀ {n : Nat}, x ∈ repL n xs → x ∈ xs
  | 0, h => by simp [repL] at h
  | n + 1, h => by
    unfold repL at h
    rw [List.replicate_succ, List.flatten_cons, List.mem_append] at h
    rcases h with h | h
    · exact h
    · exact repL_mem (n := n) h
theorem vo_mulS : VO X (binaryOp .Mult) rMulS := by
  intro pins s σ H v w u1 u2 Q' I r1 r2 ⟨F, M, x, y, Q, sr, rv, rw', q, up⟩
  unfold rMulS at q
  split at q
  · rename_i z k
    have rv : Rp X.K F v _ := rv
    have rw' : Rp X.K F w _ := rw'
    obtain ⟨⟨h1, h2, h3⟩, q⟩ := q
    cases rw'
    cases rv with
    | str _ o1 l1 =>
      refine op_mulS pins s σ H _ _ u1 u2 Q' I r1 r2 ⟨z, k, rfl, rfl, ⟨h1, h2⟩, h3, up.now q sr (.str _ (strOk_of fun c hc => strOk_mem o1 (repL_mem hc)) ?_)⟩
      show ((repL k.toNat z.cps.toList).toArray).size ≤ sizeLine
      rw [List.size_toArray, repL_length, Array.length_toList, Nat.mul_comm]
      exact h3
  · exact q.elim

/-! ### a local name that holds one of several defs -/
/-- the def at f keeps S -/
structure Hd (P : Program) (w : World) (K : PySem.W.Frag) (mg : Str → Option Value) (base : Heap) (k : Nat) (f : Addr) (S : SpD) : Prop where
  ex : ∃ (fd : FuncData) (ps : List Str), FnOk P w K mg base CX0 k f fd ps (upSp K S) ∧ PySem.W.keepIn K (.ref f) = true ∧ Binds K fd ps []
/-- the call of what the i-th slot holds: T tells the promise of each address -/
def dCallA (i : Nat) (T : Addr → Option SpD) (t : DA) : DE := fun τ M Q => gotV (slot τ i) M fun x M0 => match x with
  | .w (.ref f) => oSome (T f) fun S => t τ M0 fun xs M1 => S xs M1 Q
  | _ => False
theorem ve_callA {T : Addr → Option SpD} {k i : Nat} {x : Str} {p : Pos} (A : ∀ f S, T f = some S → Hd X.prog X.w X.K X.mg X.base k f S) (hr : Room k X.A) (hN : X.N[i]? = some x) (hv : Vis X.env.scope x) (ha : VA X (e :: es) tl)
    (hdb : (x == ("__debug__" : Str)) = false := by decide) (hcd : (x == ("__classdict__" : Str)) = false := by decide)
    (he : starEach (e :: es) X.env = (false, eval e X.env) :: starEach es X.env := by rfl) (hpl : (backTo pos (starEach es X.env)).any (·.1) = false := by rfl) : VE X (.Call (.Name x p) (e :: es) [] pos) (dCallA i T tl) :=
  VE.mk (pe_callA (S := fun f => (T f).map fun S => upSp X.K S) (fun f sp hS => by
      cases e : T f with
      | none => rw [e] at hS; cases hS
      | some S =>
        rw [e] at hS; cases hS
        obtain ⟨fd, ps, h1, h2, h3⟩ := (A f S e).ex
        exact ⟨fd, ps, h1, h2, h3⟩) hr hN hv ha hdb hcd he hpl) fun σ H F τ M Q Q' s l q u => by
    unfold dCallA gotV at q
    cases e1 : slot τ i with
    | none => rw [e1] at q; exact q.elim
    | some y =>
      rw [e1] at q
      obtain ⟨v, e2, rv⟩ := l.at_ i y (slot_get e1)
      simp only at q
      split at q
      · rename_i f
        obtain ⟨S, e3, q⟩ := oSome_ok q
        have rv : v = .ref f := rv
        subst rv
        refine ⟨f, upSp X.K S, e2, by simp [e3], F, τ, M, _, s, l, q, fun xs M1 vs H1 F1 hn q1 s1 r1 rvs => ?_⟩
        exact ⟨F1, M1, xs, Q, r1, rvs, q1, u.later s1⟩
      · exact q.elim

/-! ### constants of the module -/
/-- the module's name x holds the datum d -/
structure Kc (K : PySem.W.Frag) (mg : Str → Option Value) (x : Str) (d : PyData) : Prop where
  ex : ∃ (v : V) (u : Value), mg x = some u ∧ RelV v u ∧ ∀ F, Rp K F v d
theorem ve_kc {x : Str} {d : PyData} (h : Kc X.K X.mg x d) (hg : Gl X x) (hd : (x == ("__debug__" : Str)) = false := by decide) : VE X (.Name x pos) (dC d) := by
  obtain ⟨v, u, h1, h2, h3⟩ := h.ex
  exact ve_const (pe_glob hg h1 h2 hd) h3
/-- a def as a value -/
theorem ve_df {x : Str} {f : Addr} (h : X.mg x = some (.ref f)) (hg : Gl X x) (hd : (x == ("__debug__" : Str)) = false := by decide) : VE X (.Name x pos) (dW (.ref f)) := ve_raw (pe_glob hg h rfl hd)
/-- W.index(e), W a tuple of texts of the module -/
def dCIdx (ws : List Str) (t : DE) : DE := fun τ M Q => t τ M fun x M1 => match x with
  | .d (.str z) => oSome (idxD (.str z) (ws.map .str)) fun j => Q (.d (.int j)) M1
  | _ => False
theorem idxS_some {z : Str} : ∀ {ws : List Str} {j : Nat}, idxD (.str z) (ws.map .str) = some j → ws[j]? = some z ∧ ∀ m, m < j → ws[m]? ≠ some z := fun {ws j} h => by
  obtain ⟨d, h1, h2, h3⟩ := idxD_some h
  rw [List.getElem?_map] at h1
  cases e : ws[j]? with
  | none => rw [e] at h1; cases h1
  | some y =>
    rw [e] at h1; cases h1
    have : y = z := eq_of_beq h2
    subst this
    refine ⟨rfl, fun m hm e2 => ?_⟩
    have := h3 m (.str y) hm (by rw [List.getElem?_map, e2]; rfl)
    simp [PyData.eqv] at this
theorem ve_cidx {x : Str} {ws : List Str} {apos p : Pos} {A : Addr} {ob : Obj} (hg : Gl X x) (hm : X.mg x = some (.ref A)) (hK : X.K.lookup A = some ob) (hc : ob.cls = .type "tuple") (hd : ob.dict = none) (hs : ∀ F, SqT X.K F A (ws.map V.str)) (ha : VE X a ta)
    (hdb : (x == ("__debug__" : Str)) = false := by decide)
    (hbase : attributeBase (.Name x p) "index" X.env (eval (.Name x p) X.env) = eval (.Name x p) X.env := by rfl)
    (hfew : ((backTo pos (starEach [a] X.env)).all (fun x => !x.1) && (backToKw pos (keywordEach [] X.env)).all (fun x => x.1.isSome)
      && decide ([a].length + ([] : List Keyword).length + (if ([] : List Keyword).isEmpty then 0 else 1) < 30)) = true := by rfl)
    (hline : (apos.endLine == pos.line) = true := by rfl) (hs1 : starEach [a] X.env = (false, eval a X.env) :: starEach [] X.env := by rfl) (hplain : (backTo pos (starEach [] X.env)).any (·.1) = false := by rfl) :
    VE X (.Call (.Attribute (.Name x p) "index" apos) [a] [] pos) (dCIdx ws ta) :=
  VE.mk (pe_bm PySem.F.plainAttrs_tuple PySem.F.slot_tuple_index PySem.F.type_tuple_index mt_tup_index (pe_glob hg hm (v := .ref A) rfl hdb) (pa_cons ha pa_nil hs1) hbase hfew hline hs1 hplain) fun σ H F τ M Q Q' s l q u => by
    refine ⟨.inr (.inl ⟨rfl, ob, hK, hc, hd⟩), ?_⟩
    refine ⟨F, τ, M, _, s, l, q, fun y M1 v H1 F1 q1 s1 r1 rv => ?_⟩
    split at q1
    · rename_i z
      obtain ⟨j, e1, q2⟩ := oSome_ok q1
      have rv : Rp X.K F1 v _ := rv
      cases rv
      obtain ⟨g1, g2⟩ := idxS_some e1
      exact ⟨A, ws, z, j, rfl, rfl, hs H1, g1, g2, u _ _ _ _ _ q2 s1 r1 (.int _)⟩
    · exact q1.elim
end
end VS

end

section
set_option Elab.async false
set_option linter.all false
set_option maxRecDepth 100000
set_option maxHeartbeats 4000000
/-! VS, sets: len(set(t)), t a tuple of texts, of any number (turned from the library's own proof for one text). -/
namespace VS
open PySem PySem.Spec PyProof.Rows L2
/-- how many different ones -/
def dcr : List Str → Nat
  | [] => 0
  | x :: r => if x ∈ r then dcr r else dcr r + 1
def dct (xs : List Str) : Nat := dcr xs.reverse
theorem dcr_le : ∀ xs : List Str, dcr xs ≤ xs.length
  | [] => Nat.le_refl _
  | x :: r => by
    unfold dcr
    have := dcr_le r
    split <;> simp <;> omega
theorem dcr_nd : ∀ xs : List Str, dcr xs = xs.length ↔ xs.Nodup
  | [] => by simp [dcr]
  | x :: r => by
    have h := dcr_le r
    have ih := dcr_nd r
    unfold dcr
    rw [List.nodup_cons, List.length_cons]
    split
    · rename_i hm
      constructor
      · intro e; omega
      · intro e; exact absurd hm e.1
    · rename_i hm
      constructor
      · intro e; exact ⟨hm, ih.mp (by omega)⟩
      · intro e; rw [ih.mpr e.2]
theorem dct_le (xs : List Str) : dct xs ≤ xs.length := by have := dcr_le xs.reverse; rwa [List.length_reverse] at this
theorem dct_nd (xs : List Str) : dct xs = xs.length ↔ xs.Nodup := by
  have := dcr_nd xs.reverse
  rw [List.length_reverse] at this
  exact this.trans (List.reverse_perm xs).nodup_iff
theorem dct_snoc (xs : List Str) (x : Str) : dct (xs ++ [x]) = if x ∈ xs then dct xs else dct xs + 1 := by
  unfold dct
  rw [List.reverse_append]
  show dcr (x :: xs.reverse) = _
  rw [dcr]
  simp only [List.mem_reverse]
section
variable {prog : Program} {w : World} {A : Around} {R : Result → Shared → Prop} {I : Addr} {fp wr : List Addr} {G : Array GenState → Array GenState → Prop} {n : Nat} {P : Nat → Value → Prop} {St : Nat → Shared → Prop}
theorem set_texts (W : WalksS prog w A.in1 I fp wr G n P St) (S : Addr) (hSf : S ∉ fp) (xs : List Str) (hsz : xs.length = n) (hb : n + 1 < scanBound)
    (hval : ∀ i v, P i v → ∃ x t, xs[i]? = some x ∧ v = .str x t) :
    ∀ (k i : Nat) (s : Shared), n - i = k → i ≤ n → St i s →
      s.heap.SetOf (PySem.strKind prog w) S (fun k' => decide (k' ∈ xs.take i)) (dct (xs.take i)) →
      (∀ s', Moved (S :: wr) G s s' → s'.heap.SetOf (PySem.strKind prog w) S (fun k' => decide (k' ∈ xs)) (dct xs) → R (.ok (.ret .none)) s') →
      codeAny (model prog w) A (.builtin "set.update.loop" ⟨[.ref S, .ref I], []⟩) R s := by
  have hSw : S ∉ wr := fun h => hSf (W.sub _ h)
  have hsub : ∀ b ∈ wr, b ∈ S :: wr := fun b hb => List.mem_cons_of_mem _ hb
  intro k
  induction k with
  | zero =>
    intro i s hk hi hst hS hR
    obtain rfl : i = n := by omega
    refine codeAny_builtin PyProof.Rows.F.entry_set_update_loop ?_
    rw [Around.under_plainId PyProof.Rows.F.plain_set_update_loop _]
    show wpAny _ A.in1 (pyNext (.ref I) >>= _) _ _ s
    refine wpAny_bind (W.done s _ _ hst fun s' hm => ?_)
    refine wpAny_pure (hR s' (hm.mono hsub) ?_)
    rw [List.take_of_length_le (by omega)] at hS
    obtain ⟨o, es, ep, t, ho, rest⟩ := hS
    exact ⟨o, es, ep, t, hm.heap S _ hSw ho, rest⟩
  | succ k ih =>
    intro i s hk hi hst hS hR
    have hlt : i < n := by omega
    refine codeAny_builtin PyProof.Rows.F.entry_set_update_loop ?_
    rw [Around.under_plainId PyProof.Rows.F.plain_set_update_loop _]
    show wpAny _ A.in1 (pyNext (.ref I) >>= _) _ _ s
    refine wpAny_bind (W.item i s _ _ hlt hst fun v s' hP hst' hm => ?_)
    obtain ⟨x, t, hx, rfl⟩ := hval i v hP
    have hS' : s'.heap.SetOf (PySem.strKind prog w) S (fun k' => decide (k' ∈ xs.take i)) (dct (xs.take i)) := by
      obtain ⟨o, es, ep, tb, ho, rest⟩ := hS
      exact ⟨o, es, ep, tb, hm.heap S _ hSw ho, rest⟩
    show wpAny _ A.in1 (holding [Value.str x t] (setAdd S (.str x t)) >>= _) _ _ s'
    refine wpAny_bind (wpAny_holding ?_)
    unfold setAdd
    refine wpAny_holding (wpAny_bind ((PySem.strKind prog w).pyHash (k := x) (strKind_is _ _ _ _) ?_))
    have hd := dct_le (xs.take i)
    rw [List.length_take] at hd
    refine wpAny_setAddHashed_of (knd := PySem.strKind prog w) (s := { s' with toks := s'.toks + 1 }) (strKind_is _ _ _ _) rfl hS' (by omega) fun h' hsb hS2 => ?_
    have hSi : h'.SetOf (PySem.strKind prog w) S (fun k' => decide (k' ∈ xs.take (i + 1))) (dct (xs.take (i + 1))) := by
      rw [List.take_add_one, hx]
      refine SetOf_congr hS2 (fun k' => ?_) ?_
      · simp [List.mem_append]
      · rw [show (some x).toList = [x] from rfl, dct_snoc]
        simp only [decide_eq_true_eq]
    refine wpAny_pure ⟨plainId_quiet PyProof.Rows.F.plain_set_update_loop _, ih (i + 1) _ (by omega) hlt (W.frame _ s' _ _ hst' (Nat.le_succ _) fun b hb o e => ?_) hSi fun s'' hm'' hS'' => ?_⟩
    · rw [hsb.2 b (fun h : b = S => hSf (by rw [← h]; exact hb))]; exact e
    · refine hR s'' (Moved.trans W.gtrans ((hm.mono hsub).then_heap (Nat.le_succ _) fun b o hb e => ?_) hm'') hS''
      rw [hsb.2 b (fun h : b = S => hb (by rw [h]; exact List.mem_cons_self))]; exact e
end
section
variable {prog : Program} {w : World} {A : Around} {E : Value → Shared → Prop} {s : Shared}
theorem texts_at : ∀ {us : List Value} {xs : List Str}, StrsAre us xs → ∀ (i : Nat) (v : Value), us[i]? = some v → ∃ x t, xs[i]? = some x ∧ v = .str x t
  | _, _, .nil, i, v, h => by simp at h
  | _, _, .cons n t hr, 0, v, h => by simp at h; exact ⟨n, t, rfl, h.symm⟩
  | _, _, .cons n t hr, i + 1, v, h => by
    obtain ⟨x, t', h1, h2⟩ := texts_at hr i v (by simpa using h)
    exact ⟨x, t', by simpa using h1, h2⟩
set_option maxHeartbeats 3200000 in
theorem call_set_texts {l : Addr} {items : Array Value} {xs : List Str} {Q : Value → Shared → Prop}
    (hh : A.handled = none) (hl : s.heap.IsTuple l items) (hi : PyProof.Rows.StrsAre items.toList xs) (hn1 : xs.length + 1 < scanBound)
    (h : ∀ (h' : Heap) (tk : Nat), h'.SetOf (PySem.strKind prog w) s.heap.objs.size (fun k' => decide (k' ∈ xs)) (dct xs) →
      (∀ b o, b < s.heap.objs.size → s.heap.get? b = some o → h'.get? b = some o) → Q (.ref s.heap.objs.size) { s with heap := h', toks := tk }) :
    wpAny (model prog w) A (call (.type "set") [.ref l]) Q E s := by
  obtain ⟨c, tl, hmro⟩ := PySem.F.called_set.mro
  have hmade := PySem.F.called_set.made
  have hsub := PySem.F.called_set.sub
  refine wpAny_call (codeAny_of_tree ?_)
  show wpAny _ _ (callAny (.type "set") _) _ _ _
  refine wpAny_pure ⟨Code.quiet_builtin _ (by decide +kernel), codeAny_builtin PySem.F.entry_type_call ?_⟩
  rw [Around.under_plain (weight_type_call_type "set" [.ref l] []) rfl]
  have h1 := PySem.F.called_set.notType
  have h2 := PySem.F.called_set.canCreate
  have hct := PySem.F.typeCall_set_1 (.ref l)
  repeat (any_goals (first | assumption | wp_step))

  refine codeAny_mono (code_set_new_1 (.ref l) (E := E) (Q₁ := fun obj s₁ => ∃ led : Bool, obj = .ref s.heap.objs.size ∧ s₁ = { s with heap := s.heap.push { cls := .type "set", dict := none, data := .set #[] 0 (.fresh 0 0 led) } }) fun led => ⟨led, rfl, rfl⟩) fun r s₁ hr => ?_
  cases r with
  | error e => exact hr
  | ok fl =>
    cases fl with
    | ret obj =>
      obtain ⟨led, rfl, rfl⟩ := hr
      have hS : (s.heap.push { cls := .type "set", dict := none, data := .set #[] 0 (.fresh 0 0 led) }).get? s.heap.objs.size = some { cls := .type "set", dict := none, data := .set #[] 0 (.fresh 0 0 led) } := Heap.get?_push_size _ rfl
      have hT : Shared.TypeIs { s with heap := s.heap.push { cls := .type "set", dict := none, data := .set #[] 0 (.fresh 0 0 led) } } (.ref s.heap.objs.size) "set" := ⟨_, hS, rfl⟩
      have hli := PySem.F.called_set.init.lookup
      have hbi := PySem.F.called_set.init.bind (.ref s.heap.objs.size)
      repeat (any_goals (first | assumption | wp_step))

      refine codeAny_mono (codeAny_call_builtin (R := wants (fun r s₂ => r = .none ∧ ∃ h' tk, s₂ = { s with heap := h', toks := tk } ∧
          h'.SetOf (PySem.strKind prog w) s.heap.objs.size (fun k' => decide (k' ∈ xs)) (dct xs) ∧
          (∀ b o, b < s.heap.objs.size → s.heap.get? b = some o → h'.get? b = some o)) E) PySem.F.called_set.init.plain PySem.F.entry_set_init (check_set_init_1 hT ?_)) fun r₂ s₂ hr₂ => ?_
      · obtain ⟨ol, hol, hcl, nl, hdl⟩ := hl
        obtain ⟨ocls, odict, odata, oslots⟩ := ol
        simp only at hcl hdl
        subst hcl; subst hdl
        have hol' : (s.heap.push { cls := .type "set", dict := none, data := .set #[] 0 (.fresh 0 0 led) }).get? l = some { cls := .type "tuple", dict := odict, data := .seq items nl, slots := oslots } := Heap.get?_push_of_some _ hol
        have hsls := PySem.F.sub_tuple_set
        have hslf := PySem.F.sub_tuple_frozenset
        have hne : (Value.type "tuple" == Value.type "dict") = false := by decide
        have hl1 : (s.heap.push { cls := .type "set", dict := none, data := .set #[] 0 (.fresh 0 0 led) }).IsTuple l items := ⟨_, hol', rfl, nl, rfl⟩
        unfold Builtin.«set.__init__» noKeywords Builtin.Frozenset.updateFrom
        generalize hPI : pyIter = PI
        wp_walk
        subst hPI

        refine wpAny_pyIter_tuple hl1 ?_
        refine wpAny_bind (wpAny_runValue ?_)
        have hlS : l < s.heap.objs.size := Heap.lt_size hol
        have hh3 : A.in1.in1.in1.handled = none := by simp [hh]
        have hneI : l ≠ (s.heap.push { cls := .type "set", dict := none, data := .set #[] 0 (.fresh 0 0 led) }).objs.size := by
          rw [Heap.size_push]; exact Nat.ne_of_lt (Nat.lt_succ_of_lt hlS)
        have hSf : s.heap.objs.size ∉ [(s.heap.push { cls := .type "set", dict := none, data := .set #[] 0 (.fresh 0 0 led) }).objs.size, l] := by
          rw [Heap.size_push]; simp only [List.mem_cons, List.mem_singleton, List.not_mem_nil, or_false, not_or]
          exact ⟨Nat.ne_of_lt (Nat.lt_succ_self _), Nat.ne_of_gt hlS⟩
        have hsz : xs.length = items.size := by rw [← StrsAre.len_eq hi, Array.length_toList]
        have hval : ∀ (i : Nat) (v : Value), items[i]? = some v → ∃ x t, xs[i]? = some x ∧ v = .str x t := fun i v hv => texts_at hi i v (by rw [Array.getElem?_toList]; exact hv)
        refine set_texts ((Walks.tuple hh3 _ l hneI items).toS) s.heap.objs.size
          hSf xs hsz (by rw [← hsz]; exact hn1) hval (items.size - 0) 0 _ (by omega) (Nat.zero_le _)
          ⟨⟨_, Heap.get?_push_size _ rfl, rfl, rfl⟩, (hl1.push _)⟩ ?hS0 ?hR
        case hS0 =>
          have hget : ((s.heap.push { cls := .type "set", dict := none, data := .set #[] 0 (.fresh 0 0 led) }).push { cls := .type "tuple_iterator", data := .fields #[.ref l, .int 0 0] }).get? s.heap.objs.size
              = some { cls := .type "set", dict := none, data := .set #[] 0 (.fresh 0 0 led) } := Heap.get?_push_of_some _ hS
          exact PyProof.Rows.SetOf_congr ((PyProof.Rows.setObjOf_fresh (knd := PySem.strKind prog w) led).setOf hget (by unfold scanBound; omega)) (fun _ => rfl) rfl
        case hR =>
          intro s' hm hS'
          obtain ⟨h', g', d', tk', os'⟩ := s'
          have eg : g' = s.gens := hm.gens
          have ed : d' = s.drawn := hm.drawn
          have eo : os' = s.os := hm.os
          subst eg; subst ed; subst eo
          show wpAny _ _ _ _ _ _
          refine wpAny_pure ?_
          show wpAny _ _ (ret Value.none) _ _ _
          refine wpAny_pure ⟨rfl, h', tk', rfl, hS', fun b o hb e => ?_⟩
          have hb1 : b ≠ s.heap.objs.size := Nat.ne_of_lt hb
          have hb2 : b ≠ (s.heap.push { cls := .type "set", dict := none, data := .set #[] 0 (.fresh 0 0 led) }).objs.size := by
            rw [Heap.size_push]; exact Nat.ne_of_lt (Nat.lt_succ_of_lt hb)
          exact hm.heap b o (by simp only [List.mem_cons, List.mem_singleton, List.not_mem_nil, or_false, not_or]; exact ⟨hb1, hb2⟩) (Heap.get?_push_of_some _ (Heap.get?_push_of_some _ e))

      · cases r₂ with
        | error e => exact hr₂
        | ok fl₂ =>
          cases fl₂ with
          | ret r =>
            obtain ⟨rfl, h', tk, rfl, hS', hk'⟩ := hr₂
            repeat (any_goals (first | assumption | wp_step))
            exact h _ _ hS' hk'
          | _ => exact hr₂.elim
    | _ => exact hr.elim

end
/-- len(set(t)) -/
def dLenSet (ta : DE) : DE := fun τ M Q => ta τ M fun x M1 => match x with
  | .d (.tuple ds) => ∃ xs : List Str, ds = xs.map .str ∧ xs.length ≤ 4000 ∧ Q (.d (.int (dct xs))) M1
  | _ => False
theorem rp_strs {K : PySem.W.Frag} {F : Hp} : ∀ {vs : List V} {xs : List Str}, RpAll K F vs (xs.map .str) → vs = xs.map V.str
  | _, [], .nil => rfl
  | _, _ :: _, .cons r t => by cases r; rw [rp_strs t]; rfl
theorem ve_lenSet {X : Cx} {a : Expr} {ta : DE} {p p2 q pos : Pos} (hc : X.calm = true) (hg : Gl X "len") (hm : X.mg "len" = none) (hg2 : Gl X "set") (hm2 : X.mg "set" = none) (ha : VE X a ta)
    (na : starEach [a] X.env = (false, eval a X.env) :: starEach [] X.env := by rfl) : VE X (.Call (.Name "len" p) [.Call (.Name "set" p2) [a] [] q] [] pos) (dLenSet ta) := by
  refine ⟨fun pins s σ H Q' I ⟨F, τ, M, Q, sr, l, qq, u⟩ => ?_⟩
  refine Call_ (ld_blt I hg hm boot_len (PyProof.Rows.callWith_builtin1 (PyProof.Rows.args_cons ?_ rfl) rfl rfl))
  have go : upE X.K ta σ H fun v H1 => ∃ F1 M1 x, Same F F1 ∧ SR X.K H1 F1 M1 ∧ RV X.K F1 v x ∧ (match x with
      | .d (.tuple ds) => ∃ xs : List Str, ds = xs.map .str ∧ xs.length ≤ 4000 ∧ Q (.d (.int (dct xs))) M1
      | _ => False) := ⟨F, τ, M, _, sr, l, qq, fun x M1 v H1 F1 q1 s1 r1 rv => ⟨F1, M1, x, s1, r1, rv, q1⟩⟩
  refine Call_ (ld_blt I hg2 hm2 boot_set (PyProof.Rows.callWith_type1 (PyProof.Rows.args_cons (thn (ha.run pins s σ H _ I go) fun v s1 hv => PyProof.Rows.args_nil ?_) na) na rfl))
  obtain ⟨v', H1, I1, rr, F1, M1, x, s2, r2, rv, q1⟩ := hv
  · split at q1
    · obtain ⟨xs, rfl, hx, q2⟩ := q1
      have rv : Rp X.K F1 v' _ := rv
      cases rv with
      | tup h1 l1 t1 =>
        cases rr
        have e := rp_strs t1
        subst e
        obtain ⟨its, rvs, pl, hz⟩ := I1.tuple (SqT.same r2.sub h1)
        have hsb : (scanBound : Nat) = 4096 := rfl
        refine call_set_texts (I1.ok.hd hc) pl (by simpa using strsAre_of rvs) (by omega) fun h' tk hS hk => ?_
        refine PyProof.Rows.args_nil ?_
        obtain ⟨o, es, ep, t, ho, hex, hd, _, _, _, hf, hn⟩ := hS
        have I2 : L2.Inv X pins σ H1 { s1 with heap := h', toks := tk } := I1.kept fun b o e => hk b o (Heap.lt_size e) e
        have hle := dct_le xs
        refine call_len_set ho hex hd hf (by rw [hn]; omega) ⟨.int (dct xs), H1, I2.tok _, ⟨_, by rw [hn]⟩, u _ _ _ _ _ q2 s2 r2 (.int _)⟩
    · exact q1.elim
end VS

end

section
set_option Elab.async false
set_option linter.all false
set_option maxRecDepth 100000
set_option maxHeartbeats 4000000
/-! VS, part 10: small things. -/
namespace VS
open PySem PySem.Spec PyProof.Rows L2
theorem hu65 {k : Nat} {A : Around} (h : Room k A) : A.units + 65 < cLine := by have := h.un; omega
theorem hu1 {k : Nat} {A : Around} (h : Room k A) : A.units + 1 < cLine := by have := h.un; omega
section
variable {X : Cx}
theorem vo_iadd : VO X (inplaceOp .Add) (rI2 fun i j => .int (i + j)) := vo_I2 iop_add fun _ _ _ => .int _
theorem vo_isub : VO X (inplaceOp .Sub) (rI2 fun i j => .int (i - j)) := vo_I2 iop_sub fun _ _ _ => .int _
end
/-- a tuple of texts of the module, for its method index -/
structure Xc (K : PySem.W.Frag) (mg : Str → Option Value) (x : Str) (ws : List Str) : Prop where
  ex : ∃ (A : Addr) (ob : Obj), mg x = some (.ref A) ∧ K.lookup A = some ob ∧ ob.cls = .type "tuple" ∧ ob.dict = none ∧ ∀ F, SqT K F A (ws.map V.str)
theorem ve_xidx {X : Cx} {a : Expr} {ta : DE} {pos : Pos} {x : Str} {ws : List Str} {apos p : Pos} (h : Xc X.K X.mg x ws) (hg : Gl X x) (ha : VE X a ta)
    (hdb : (x == ("__debug__" : Str)) = false := by decide)
    (hbase : attributeBase (.Name x p) "index" X.env (eval (.Name x p) X.env) = eval (.Name x p) X.env := by rfl)
    (hfew : ((backTo pos (starEach [a] X.env)).all (fun x => !x.1) && (backToKw pos (keywordEach [] X.env)).all (fun x => x.1.isSome)
      && decide ([a].length + ([] : List Keyword).length + (if ([] : List Keyword).isEmpty then 0 else 1) < 30)) = true := by rfl)
    (hline : (apos.endLine == pos.line) = true := by rfl) (hs1 : starEach [a] X.env = (false, eval a X.env) :: starEach [] X.env := by rfl) (hplain : (backTo pos (starEach [] X.env)).any (·.1) = false := by rfl) :
    VE X (.Call (.Attribute (.Name x p) "index" apos) [a] [] pos) (dCIdx ws ta) := by
  obtain ⟨A, ob, h1, h2, h3, h4, h5⟩ := h.ex
  exact ve_cidx hg h1 h2 h3 h4 h5 ha hdb hbase hfew hline hs1 hplain
end VS

end

section
set_option Elab.async false
set_option linter.all false
set_option maxRecDepth 100000
set_option maxHeartbeats 4000000
/-! VS, part 11: a list of which only a fact is kept. -/
namespace VS
open PySem PySem.Spec PyProof.Rows L2
def dShut (φ : List DV → Prop) (t : DE) : DE := fun τ M Q => t τ M fun x M1 => match x with
  | .w (.ref a) => ∃ ys, M1 a = some (.lst ys) ∧ φ ys ∧ Q (.w (.ref a)) (updM M1 a (.ok φ))
  | _ => False
theorem ve_shut {X : Cx} {e : Expr} {t : DE} {φ : List DV → Prop} (h : VE X e t) : VE X e (dShut φ t) := VE.mk h fun σ H F τ M Q Q' s l q u => by
  refine ⟨F, τ, M, _, s, l, q, fun x M1 v H1 F1 q1 s1 r1 rv => ?_⟩
  split at q1
  · rename_i a
    obtain ⟨ys, h1, h2, h3⟩ := q1
    exact u _ _ _ _ _ h3 s1 (r1.shut h1 h2) rv
  · exact q1.elim
/-- a list of ints that the top holds -/
def Zs (K : PySem.W.Frag) (a : Addr) (ns : List Int) : Prop := ns.length ≤ sizeLine ∧ ∀ H, SqL K H a (ns.map V.int)
/-- list(script) -/
def gScr (Z : Addr → List Int → Prop) : DV → DH → DQ → Prop := fun x M Q => match x with
  | .w (.ref a) => ∃ ns : List Int, (M a = some (.scr ns) ∨ Z a ns) ∧ Q (.d (.list (ns.map .int))) M
  | _ => False
theorem rp_ints {K : PySem.W.Frag} {F : Hp} : ∀ ns : List Int, RpAll K F (ns.map V.int) (ns.map .int)
  | [] => .nil
  | n :: ns => .cons (.int n) (rp_ints ns)
theorem vc_scr {X : Cx} : VC X (.type "list") (d1 (gScr (Zs X.K))) := vc_1 call_list_of fun H F M x v Q Q' s r q u => by
  unfold gScr at q
  split at q
  · rename_i a
    obtain ⟨ns, h, q⟩ := q
    have rv : v = .ref a := r
    subst rv
    have hS : SqL X.K H a (ns.map V.int) ∧ ns.length ≤ sizeLine := by
      rcases h with h | h
      · obtain ⟨_, w, hw, ro⟩ := s.own a _ h
        cases w with
        | frz o w =>
          cases w <;> first | exact ro.elim | skip
          rename_i vs
          obtain ⟨l, rfl⟩ := ro
          exact ⟨.inl (.inr ⟨o, hw⟩), by simpa using l⟩
        | _ => exact ro.elim
      · exact ⟨h.2 H, h.1⟩
    refine ⟨a, ns.map V.int, rfl, .inl hS.1, fun k hk => ?_⟩
    obtain ⟨s2, r2⟩ := s.newF hk (.lst (ns.map V.int))
    exact u _ _ _ _ _ q s2 r2 (.lst upd_same (by simpa using hS.2) (rp_ints ns))
  · exact q.elim
end VS

end

section
set_option Elab.async false
set_option linter.all false
set_option maxRecDepth 100000
set_option maxHeartbeats 4000000
/-! The laws' own tape: what _law_draw and _law_pick promise, whatever they draw. -/
namespace VS
open PySem L2

theorem updM_eta {M : DH} {a : Addr} {o : DO} (h : M a = some o) : updM M a o = M := by
  funext b; unfold updM
  by_cases e : b = a
  · subst e; simp [h]
  · simp [e]
section
variable {P : Program} {w : World} {K : PySem.W.Frag} {mg : Str → Option Value} {base : Heap}
/-- a weaker promise -/
theorem Df.imp {k : Nat} {x : Str} {S S' : SpD} (D : Df P w K mg base k x S) (h : ∀ xs M Q, S' xs M Q → S xs M Q) : Df P w K mg base k x S' := by
  obtain ⟨f, fd, ps, h1, h2, h3, h4⟩ := D.ex
  exact ⟨f, fd, ps, h1, h2.imp fun vs H Q' E ⟨F, M, xs, Q, s, r, q, u⟩ => ⟨F, M, xs, Q, s, r, h xs M Q q, u⟩, h3, h4⟩
/-- a list of which something is known is opened for the callee, and shut behind it -/
theorem Df.opened {k : Nat} {x : Str} {S S' : SpD} (D : Df P w K mg base k x S) (h : ∀ xs M Q, S' xs M Q → ∃ a φ, M a = some (.ok φ) ∧ ∀ ys, φ ys →
    S xs (updM M a (.lst ys)) fun x M1 => ∃ zs, M1 a = some (.lst zs) ∧ φ zs ∧ Q x (updM M1 a (.ok φ))) : Df P w K mg base k x S' := by
  obtain ⟨f, fd, ps, h1, h2, h3, h4⟩ := D.ex
  refine ⟨f, fd, ps, h1, h2.imp fun vs H Q' E ⟨F, M, xs, Q, s, r, q, u⟩ => ?_, h3, h4⟩
  obtain ⟨a, φ, e, g⟩ := h xs M Q q
  obtain ⟨ys, p, s2⟩ := s.opened e
  refine ⟨F, _, xs, _, s2, r, g ys p, fun x M1 v H1 F1 ⟨zs, e1, p1, q1⟩ s1 r1 rv => ?_⟩
  exact u _ _ _ _ _ q1 s1 (r1.shut e1 p1) rv
end

def TapeP (ys : List DV) : Prop := ∃ (r : Int) (ns : List Int) (k : Int), ys = [.d (.int r), .d (.list (ns.map .int)), .d (.int k)] ∧ 0 ≤ k
/-- a tape stands at a -/
def Tape (M : DH) (a : Addr) : Prop := M a = some (.ok TapeP)
theorem Tape.upd {M : DH} {a D : Addr} {o : DO} (h : Tape M a) (hD : M D = none) : Tape (updM M D o) a := by
  unfold Tape at *
  rw [updM_ne (ne_ofM h hD)]; exact h
def S_draw : SpD := fun xs M Q => ∃ (a : Addr) (many : Int), xs = [.w (.ref a), .d (.int many)] ∧ Tape M a ∧ 0 < many ∧ many < 1073741824 ∧ ∀ r : Int, 0 ≤ r → r < many → Q (.d (.int r)) M
def S_drawL : SpD := fun xs M Q => ∃ (a : Addr) (many : Int) (ys : List DV), xs = [.w (.ref a), .d (.int many)] ∧ M a = some (.lst ys) ∧ TapeP ys ∧ 0 < many ∧ many < 1073741824 ∧
  ∀ (r : Int) (zs : List DV), 0 ≤ r → r < many → TapeP zs → Q (.d (.int r)) (updM M a (.lst zs))
def t_draw : DS := dSeq (dIfS (dTest (dOp (rEqV) (dOp gIx (dVar 0) (dC (.int 0))) (dC (.int 0)))) (dSeq (dSet (dC (.int 0)) 2)
  (dSeq (dIfS (dTest (dOp (rI2 fun i j => .bool (decide (i < j))) (dOp gIx (dVar 0) (dC (.int 2))) (dCall (d1 gLen) (dCons (dOp gIx (dVar 0) (dC (.int 1))) (dNil))))) (dSet (dCall (d1 gAbs) (dCons (dCall (d1 gInt) (dCons (dOp gIx (dOp gIx (dVar 0) (dC (.int 1))) (dOp gIx (dVar 0) (dC (.int 2)))) (dNil))) (dNil))) 2) (dNext))
  (dSeq (dSub (dOp (rAddV) (dOp gIx (dVar 0) (dC (.int 2))) (dC (.int 1))) (dVar 0) (dC (.int 2)))
  (dSeq (dSub (dVar 2) (dVar 0) (dC (.int 0)))
  (dIfS (dTest (dOp (rI2 fun i j => .bool (decide (i < j))) (dVar 2) (dOp (rII CPow fun i j => .int (i ^ j.toNat)) (dC (.int 10)) (dC (.int 18))))) (dSeq (dSet (dOp (rII (fun _ j => 0 < j) fun i j => .int (i % j)) (dCall (d1 gInt) (dCons (dOp (rAddV) (dOp (rAddV) (dOp (rMulV) (dVar 2) (dC (.int 48271))) (dOp (rMulV) (dOp gIx (dVar 0) (dC (.int 2))) (dC (.int 69621)))) (dC (.int 12345))) (dNil))) (dC (.int 2147483647))) 3)
  (dSub (dOp (rAddV) (dOp (rMulV) (dVar 3) (dC (.int 2147483629))) (dOp (rII (fun _ j => 0 < j) fun i j => .int (i % j)) (dCall (d1 gInt) (dCons (dOp (rAddV) (dOp (rMulV) (dVar 3) (dC (.int 16807))) (dC (.int 11))) (dNil))) (dC (.int 2147483629)))) (dVar 0) (dC (.int 0)))) (dNext)))))) (dNext))
  (dSeq (dSet (dOp gIx (dVar 0) (dC (.int 0))) 4)
  (dSeq (dSub (dOp (rII CDiv fun i j => .int (i / j)) (dVar 4) (dVar 1)) (dVar 0) (dC (.int 0)))
  (dRet (dOp (rII (fun _ j => 0 < j) fun i j => .int (i % j)) (dCall (d1 gInt) (dCons (dVar 4) (dNil))) (dVar 1)))))
theorem at0 {α : Type} (x y z : α) : atI [x, y, z] 0 = some x := rfl
theorem at1 {α : Type} (x y z : α) : atI [x, y, z] 1 = some y := rfl
theorem at2 {α : Type} (x y z : α) : atI [x, y, z] 2 = some z := rfl
theorem ix0 : ixN 3 0 = some 0 := rfl
theorem ix2 : ixN 3 2 = some 2 := rfl
/-- an item of a list of ints -/
theorem at_ints {ns : List Int} {k : Int} (h0 : 0 ≤ k) (h : k < (ns.length : Int)) : ∃ n, atI ((ns.map PyData.int).map DV.d) k = some (.d (.int n)) := by
  refine ⟨ns[k.toNat]'(by omega), ?_⟩
  unfold atI ixN
  rw [if_pos h0, if_pos (by simpa using h)]
  simp
theorem mul_ok {i j : Int} (h : -(2 ^ 64) < j ∧ j < 2 ^ 64) : CMul i j := .inr h

/-! ### running a transformer: what follows is kept shut -/
theorem seq_k {t u : DS} {E : DEnds} {τ : Ds} {M : DH} (h : ∀ k, k = u E → t { E with nx := k } τ M) : dSeq t u E τ M := h _ rfl
theorem ifS_k {c : DT} {t u : DS} {E : DEnds} {τ : Ds} {M : DH} (h : ∀ k l, k = t E τ → l = u E τ → c τ M fun b M1 => if b = true then k M1 else l M1) : dIfS c t u E τ M := h _ _ rfl rfl
local macro_rules | `(tactic| walk_at "ev") => `(tactic| simp only [dSet, dOp, gIx, dVar, dC, gotV, slot, seqOf, updM_same, lstAt, oSome, at0, at1, at2, setS, dSub, rII, lstO, List.length_cons, List.length_nil, Nat.reduceAdd, ix0, ix2, List.set, dRet, dCall, dCons, dNil, d1, gInt, gAbs, gLen, lenOf, updM_updM, dTest, rEqV, oEq, peek, eqOk, noDict, PyData.depth, PyData.eqv, rI2, rAddV, rMulV, dNext, decide_eq_true_eq, beq_iff_eq, List.length_map])
theorem draw_ok : ∀ xs M Q, S_drawL xs M Q → t_draw { nx := fun _ M' => Q (.d .none) M', rt := Q } (startD 5 xs) M := by
  rintro xs M Q ⟨a, many, ys, rfl, hM, ⟨r, ns, k, rfl, hk⟩, h0, h1, hQ⟩
  rw [← updM_eta hM]
  clear hM
  have fin : ∀ (c d : Option DV) (r k : Int), 0 ≤ k → (dSeq (dSet (dOp gIx (dVar 0) (dC (.int 0))) 4)
    (dSeq (dSub (dOp (rII CDiv fun i j => .int (i / j)) (dVar 4) (dVar 1)) (dVar 0) (dC (.int 0)))
    (dRet (dOp (rII (fun _ j => 0 < j) fun i j => .int (i % j)) (dCall (d1 gInt) (dCons (dVar 4) (dNil))) (dVar 1))))) { nx := fun _ M' => Q (.d .none) M', rt := Q } [some (.w (.ref a)), some (.d (.int many)), c, d, none]
      (updM M a (.lst [.d (.int r), .d (.list (ns.map .int)), .d (.int k)])) := by
    intro c d r k hk
    refine seq_k fun K1 h1 => ?_
    walk_at "ev"
    subst h1
    refine seq_k fun K1 h1 => ?_
    walk_at "ev"
    refine ⟨⟨h0, by assumption⟩, ?_⟩
    subst h1
    walk_at "ev"
    exact ⟨h0, hQ _ _ (Int.emod_nonneg _ (by omega)) (Int.emod_lt_of_pos _ h0) ⟨_, ns, k, rfl, hk⟩⟩
  simp only [startD, List.map_cons, List.map_nil, List.length_cons, List.length_nil, List.replicate, List.cons_append, List.nil_append, Nat.reduceAdd, Nat.reduceSub]
  refine seq_k fun K1 e1 => ?_
  refine ifS_k fun K2 K3 e2 e3 => ?_
  walk_at "ev"
  refine ⟨rfl, rfl, ?_⟩
  split
  · subst e2
    refine seq_k fun K4 e4 => ?_
    walk_at "ev"
    subst e4
    refine seq_k fun K5 e5 => ?_
    have more : ∀ cell : Int, K5 [some (.w (.ref a)), some (.d (.int many)), some (.d (.int cell)), none, none] (updM M a (.lst [.d (.int r), .d (.list (ns.map .int)), .d (.int k)])) := by
      intro cell
      subst e5
      refine seq_k fun K6 e6 => ?_
      walk_at "ev"
      subst e6
      refine seq_k fun K7 e7 => ?_
      walk_at "ev"
      subst e7
      refine ifS_k fun K8 K9 e8 e9 => ?_
      walk_at "ev"
      refine ⟨⟨by decide, by decide, by decide⟩, ?_⟩
      split
      · subst e8
        refine seq_k fun K10 e10 => ?_
        walk_at "ev"
        refine ⟨.inr ⟨by decide, by decide⟩, .inr ⟨by decide, by decide⟩, by decide, ?_⟩
        subst e10
        walk_at "ev"
        refine ⟨.inr ⟨by decide, by decide⟩, .inr ⟨by decide, by decide⟩, by decide, ?_⟩
        subst e1
        exact fin _ _ _ _ (by omega)
      · subst e9
        walk_at "ev"
        subst e1
        exact fin _ _ _ _ (by omega)
    refine ifS_k fun K8 K9 e8 e9 => ?_
    walk_at "ev"
    split
    · rename_i hl
      obtain ⟨n, hn⟩ := at_ints (ns := ns) hk hl
      subst e8
      walk_at "ev"
      simp only [hn]
      exact more _
    · subst e9
      walk_at "ev"
      exact more _
  · subst e3
    walk_at "ev"
    subst e1
    exact fin _ _ _ _ hk
/-- _law_draw, of whichever program -/
theorem Df.draw {P : Program} {w : World} {K : PySem.W.Frag} {mg : Str → Option Value} {base : Heap} {k : Nat} {x : Str} (D : Df P w K mg base k x S_drawL) : Df P w K mg base k x S_draw :=
  D.opened fun xs M Q ⟨a, many, e, ht, h0, h1, q⟩ => ⟨a, TapeP, ht, fun ys p => ⟨a, many, ys, e, updM_same, p, h0, h1, fun r zs r0 r1 pz => ⟨zs, by rw [updM_updM, updM_same], pz, by
    rw [updM_updM, updM_updM, updM_eta ht]; exact q r r0 r1⟩⟩⟩
theorem draw_len : ∀ xs M Q, S_drawL xs M Q → xs.length = 2 := fun _ _ _ ⟨_, _, _, e, _⟩ => by rw [e]; rfl
/-- _law_pick: some item of the row -/
def S_pick : SpD := fun xs M Q => ∃ (a : Addr) (x : DV) (ys : List DV), xs = [.w (.ref a), x] ∧ Tape M a ∧ itemsOf x = some ys ∧ ys ≠ [] ∧ ys.length ≤ 1000000 ∧ ∀ y ∈ ys, Q y M
where itemsOf : DV → Option (List DV)
  | .d (.list ds) => some (ds.map .d)
  | .d (.tuple ds) => some (ds.map .d)
  | .d (.str z) => some (z.cps.toList.map fun c => .d (.str (sg c)))
  | _ => none
def t_pick (S : SpD) : DS := dRet (dOp gIx (dVar 1) (dCall S (dCons (dVar 0) (dCons (dCall (d1 gLen) (dCons (dVar 1) (dNil))) (dNil)))))
theorem at_nat {α : Type} {xs : List α} {i : Int} (h0 : 0 ≤ i) (h : i < (xs.length : Int)) : ∃ (hi : i.toNat < xs.length), atI xs i = some xs[i.toNat] := by
  refine ⟨by omega, ?_⟩
  unfold atI ixN
  rw [if_pos h0, if_pos h]
  simp
theorem pick_ok : ∀ xs M Q, S_pick xs M Q → t_pick S_draw { nx := fun _ M' => Q (.d .none) M', rt := Q } (startD 2 xs) M := by
  rintro xs M Q ⟨a, x, ys, rfl, ht, hi, hn, hl, hQ⟩
  have hp : 0 < ys.length := List.length_pos_iff.mpr hn
  have key : ∀ n : Int, 0 ≤ n → n < (ys.length : Int) → gIx x (.d (.int n)) M Q := by
    intro n h0 h1
    obtain ⟨h2, h3⟩ := at_nat (xs := ys) h0 h1
    cases x with
    | w => cases hi
    | d x =>
      cases x <;> first | cases hi; done | skip
      · rename_i z
        cases hi
        rw [List.length_map] at h1
        obtain ⟨h4, h5⟩ := at_nat (xs := z.cps.toList) h0 h1
        show oSome (atI z.cps.toList n) _
        rw [h5]
        exact hQ _ (List.mem_map_of_mem (List.getElem_mem h4))
      · cases hi
        simp only [gIx, seqOf, oSome, h3]
        exact hQ _ (List.getElem_mem h2)
      · cases hi
        simp only [gIx, seqOf, oSome, h3]
        exact hQ _ (List.getElem_mem h2)
  have hlen : lenOf M x = some ys.length := by
    cases x with
    | w => cases hi
    | d x =>
      cases x <;> first | cases hi; done | skip
      · rename_i z; cases hi; simp [lenOf, Str.length]
      · cases hi; simp [lenOf]
      · cases hi; simp [lenOf]
  simp only [t_pick, startD, List.map_cons, List.map_nil, List.length_cons, List.length_nil, List.replicate, List.cons_append, List.nil_append, Nat.reduceAdd, Nat.reduceSub, dRet, dOp, dVar, gotV, slot, dCall, dCons, dNil, d1, gLen, hlen]
  exact ⟨a, (ys.length : Int), rfl, ht, by omega, by omega, fun r h0 h1 => key r h0 h1⟩
theorem pick_len : ∀ xs M Q, S_pick xs M Q → xs.length = 2 := fun _ _ _ ⟨_, _, _, e, _⟩ => by rw [e]; rfl
end VS

end

section
set_option Elab.async false
set_option linter.all false
set_option maxRecDepth 100000
set_option maxHeartbeats 4000000
/-! Lemmas for running transformers. -/
namespace VS
open PySem L2
theorem isB_int_int : isB "int" "int" = true := by decide +kernel
theorem isB_bool_int : isB "bool" "int" = true := by decide +kernel
theorem isB_str_int : isB "str" "int" = false := by decide +kernel
theorem isB_none_int : isB "NoneType" "int" = false := by decide +kernel
theorem isB_list_int : isB "list" "int" = false := by decide +kernel
theorem isB_tuple_int : isB "tuple" "int" = false := by decide +kernel
theorem isB_dict_int : isB "dict" "int" = false := by decide +kernel
theorem tyOk_int : tyOk "int" = true := by decide +kernel
theorem isB_int_bool : isB "int" "bool" = false := by decide +kernel
theorem isB_bool_bool : isB "bool" "bool" = true := by decide +kernel
theorem isB_str_bool : isB "str" "bool" = false := by decide +kernel
theorem isB_none_bool : isB "NoneType" "bool" = false := by decide +kernel
theorem isB_list_bool : isB "list" "bool" = false := by decide +kernel
theorem isB_tuple_bool : isB "tuple" "bool" = false := by decide +kernel
theorem isB_dict_bool : isB "dict" "bool" = false := by decide +kernel
theorem tyOk_bool : tyOk "bool" = true := by decide +kernel
theorem isB_int_str : isB "int" "str" = false := by decide +kernel
theorem isB_bool_str : isB "bool" "str" = false := by decide +kernel
theorem isB_str_str : isB "str" "str" = true := by decide +kernel
theorem isB_none_str : isB "NoneType" "str" = false := by decide +kernel
theorem isB_list_str : isB "list" "str" = false := by decide +kernel
theorem isB_tuple_str : isB "tuple" "str" = false := by decide +kernel
theorem isB_dict_str : isB "dict" "str" = false := by decide +kernel
theorem tyOk_str : tyOk "str" = true := by decide +kernel
theorem isB_int_tuple : isB "int" "tuple" = false := by decide +kernel
theorem isB_bool_tuple : isB "bool" "tuple" = false := by decide +kernel
theorem isB_str_tuple : isB "str" "tuple" = false := by decide +kernel
theorem isB_none_tuple : isB "NoneType" "tuple" = false := by decide +kernel
theorem isB_list_tuple : isB "list" "tuple" = false := by decide +kernel
theorem isB_tuple_tuple : isB "tuple" "tuple" = true := by decide +kernel
theorem isB_dict_tuple : isB "dict" "tuple" = false := by decide +kernel
theorem tyOk_tuple : tyOk "tuple" = true := by decide +kernel
theorem isB_int_list : isB "int" "list" = false := by decide +kernel
theorem isB_bool_list : isB "bool" "list" = false := by decide +kernel
theorem isB_str_list : isB "str" "list" = false := by decide +kernel
theorem isB_none_list : isB "NoneType" "list" = false := by decide +kernel
theorem isB_list_list : isB "list" "list" = true := by decide +kernel
theorem isB_tuple_list : isB "tuple" "list" = false := by decide +kernel
theorem isB_dict_list : isB "dict" "list" = false := by decide +kernel
theorem tyOk_list : tyOk "list" = true := by decide +kernel
theorem isB_int_dict : isB "int" "dict" = false := by decide +kernel
theorem isB_bool_dict : isB "bool" "dict" = false := by decide +kernel
theorem isB_str_dict : isB "str" "dict" = false := by decide +kernel
theorem isB_none_dict : isB "NoneType" "dict" = false := by decide +kernel
theorem isB_list_dict : isB "list" "dict" = false := by decide +kernel
theorem isB_tuple_dict : isB "tuple" "dict" = false := by decide +kernel
theorem isB_dict_dict : isB "dict" "dict" = true := by decide +kernel
theorem tyOk_dict : tyOk "dict" = true := by decide +kernel
theorem start_1 {n : Nat} {x : DV} : startD (n + 1) [x] = some x :: List.replicate n none := rfl
theorem start_2 {n : Nat} {x y : DV} : startD (n + 2) [x, y] = some x :: some y :: List.replicate n none := by unfold startD; simp
theorem start_3 {n : Nat} {x y z : DV} : startD (n + 3) [x, y, z] = some x :: some y :: some z :: List.replicate n none := by unfold startD; simp
theorem start_4 {n : Nat} {x y z u : DV} : startD (n + 4) [x, y, z, u] = some x :: some y :: some z :: some u :: List.replicate n none := by unfold startD; simp
theorem start_5 {n : Nat} {x y z u v : DV} : startD (n + 5) [x, y, z, u, v] = some x :: some y :: some z :: some u :: some v :: List.replicate n none := by unfold startD; simp

/-! ### promises of pure defs -/
def Pu1 (f : PyData → PyData) : SpD := fun xs M Q => ∃ x, xs = [.d x] ∧ Q (.d (f x)) M
def Pu2 (f : PyData → PyData → PyData) : SpD := fun xs M Q => ∃ x y, xs = [.d x, .d y] ∧ Q (.d (f x y)) M
theorem pu1_len {f : PyData → PyData} : ∀ xs M Q, Pu1 f xs M Q → xs.length = 1 := fun _ _ _ ⟨_, e, _⟩ => by rw [e]; rfl
theorem pu2_len {f : PyData → PyData → PyData} : ∀ xs M Q, Pu2 f xs M Q → xs.length = 2 := fun _ _ _ ⟨_, _, e, _⟩ => by rw [e]; rfl

theorem pu1_iff {f : PyData → PyData} {x : PyData} {M : DH} {Q : DQ} : Pu1 f [.d x] M Q ↔ Q (.d (f x)) M :=
  ⟨fun ⟨_, e, q⟩ => by cases e; exact q, fun q => ⟨x, rfl, q⟩⟩
theorem pu2_iff {f : PyData → PyData → PyData} {x y : PyData} {M : DH} {Q : DQ} : Pu2 f [.d x, .d y] M Q ↔ Q (.d (f x y)) M :=
  ⟨fun ⟨_, _, e, q⟩ => by cases e; exact q, fun q => ⟨x, y, rfl, q⟩⟩
def Pr1 (P : PyData → Prop) (f : PyData → PyData) : SpD := fun xs M Q => ∃ x, xs = [.d x] ∧ P x ∧ Q (.d (f x)) M
def Pr2 (P : PyData → PyData → Prop) (f : PyData → PyData → PyData) : SpD := fun xs M Q => ∃ x y, xs = [.d x, .d y] ∧ P x y ∧ Q (.d (f x y)) M
def Pr3 (P : PyData → PyData → PyData → Prop) (f : PyData → PyData → PyData → PyData) : SpD := fun xs M Q => ∃ x y z, xs = [.d x, .d y, .d z] ∧ P x y z ∧ Q (.d (f x y z)) M
def Pr4 (P : PyData → PyData → PyData → PyData → Prop) (f : PyData → PyData → PyData → PyData → PyData) : SpD := fun xs M Q => ∃ x y z u, xs = [.d x, .d y, .d z, .d u] ∧ P x y z u ∧ Q (.d (f x y z u)) M
theorem pr1_iff {P : PyData → Prop} {f : PyData → PyData} {x : PyData} {M : DH} {Q : DQ} : Pr1 P f [.d x] M Q ↔ P x ∧ Q (.d (f x)) M :=
  ⟨fun ⟨_, e, q⟩ => by cases e; exact q, fun q => ⟨x, rfl, q⟩⟩
theorem pr2_iff {P : PyData → PyData → Prop} {f : PyData → PyData → PyData} {x y : PyData} {M : DH} {Q : DQ} : Pr2 P f [.d x, .d y] M Q ↔ P x y ∧ Q (.d (f x y)) M :=
  ⟨fun ⟨_, _, e, q⟩ => by cases e; exact q, fun q => ⟨x, y, rfl, q⟩⟩
theorem pr3_iff {P : PyData → PyData → PyData → Prop} {f : PyData → PyData → PyData → PyData} {x y z : PyData} {M : DH} {Q : DQ} : Pr3 P f [.d x, .d y, .d z] M Q ↔ P x y z ∧ Q (.d (f x y z)) M :=
  ⟨fun ⟨_, _, _, e, q⟩ => by cases e; exact q, fun q => ⟨x, y, z, rfl, q⟩⟩
theorem pr4_iff {P : PyData → PyData → PyData → PyData → Prop} {f : PyData → PyData → PyData → PyData → PyData} {x y z u : PyData} {M : DH} {Q : DQ} : Pr4 P f [.d x, .d y, .d z, .d u] M Q ↔ P x y z u ∧ Q (.d (f x y z u)) M :=
  ⟨fun ⟨_, _, _, _, e, q⟩ => by cases e; exact q, fun q => ⟨x, y, z, u, rfl, q⟩⟩
theorem pr1_len {P : PyData → Prop} {f : PyData → PyData} : ∀ xs M Q, Pr1 P f xs M Q → xs.length = 1 := fun _ _ _ ⟨_, e, _⟩ => by rw [e]; rfl
theorem pr2_len {P : PyData → PyData → Prop} {f : PyData → PyData → PyData} : ∀ xs M Q, Pr2 P f xs M Q → xs.length = 2 := fun _ _ _ ⟨_, _, e, _⟩ => by rw [e]; rfl
theorem pr3_len {P : PyData → PyData → PyData → Prop} {f : PyData → PyData → PyData → PyData} : ∀ xs M Q, Pr3 P f xs M Q → xs.length = 3 := fun _ _ _ ⟨_, _, _, e, _⟩ => by rw [e]; rfl
theorem pr4_len {P : PyData → PyData → PyData → PyData → Prop} {f : PyData → PyData → PyData → PyData → PyData} : ∀ xs M Q, Pr4 P f xs M Q → xs.length = 4 := fun _ _ _ ⟨_, _, _, _, e, _⟩ => by rw [e]; rfl
/-! ### in, of texts -/
theorem any_eqv (z : Str) : ∀ ws : List Str, inD (.str z) (ws.map .str) = decide (z ∈ ws)
  | [] => rfl
  | w :: ws => by
    unfold inD
    rw [List.map_cons, List.any_cons]
    have ih := any_eqv z ws
    unfold inD at ih
    rw [ih]
    show (w == z || decide (z ∈ ws)) = decide (z ∈ w :: ws)
    by_cases e : w = z
    · subst e; simp
    · have e2 : (w == z) = false := beq_eq_false_iff_ne.mpr e
      have e3 : z ≠ w := fun q => e q.symm
      simp [e2, e3]
theorem flat_strs (ws : List Str) : (ws.map PyData.str).all flatD = true := by
  rw [List.all_map]
  simp [flatD]
theorem in_strL {M : DH} {z : Str} {ws : List Str} {k : Bool → Prop} : oIn M (.d (.str z)) (.d (.list (ws.map .str))) k ↔ k (decide (z ∈ ws)) := by
  show oSome (dAll ((ws.map PyData.str).map .d)) _ ↔ _
  rw [dAll_of_map]
  show (_ ∧ k (inD (.str z) (ws.map .str))) ↔ _
  rw [any_eqv]
  exact ⟨fun h => h.2, fun h => ⟨.inl ⟨rfl, flat_strs ws⟩, h⟩⟩
theorem in_strT {M : DH} {z : Str} {ws : List Str} {k : Bool → Prop} : oIn M (.d (.str z)) (.d (.tuple (ws.map .str))) k ↔ k (decide (z ∈ ws)) := by
  show oSome (dAll ((ws.map PyData.str).map .d)) _ ↔ _
  rw [dAll_of_map]
  show (_ ∧ k (inD (.str z) (ws.map .str))) ↔ _
  rw [any_eqv]
  exact ⟨fun h => h.2, fun h => ⟨.inl ⟨rfl, flat_strs ws⟩, h⟩⟩
theorem in_str2 {M : DH} {z a b : Str} {k : Bool → Prop} : oIn M (.d (.str z)) (.d (.tuple [.str a, .str b])) k ↔ k (decide (z = a ∨ z = b)) := by
  have := in_strT (M := M) (z := z) (ws := [a, b]) (k := k)
  simpa using this
theorem in_str0 {M : DH} {x z : Str} {k : Bool → Prop} : oIn M (.d (.str x)) (.d (.str z)) k ↔ k (inStr x z) := Iff.rfl
/-! ### comprehensions -/
/-- a pure element, no test -/
theorem lc_pure {D : Addr} {stay : DH → Prop} {p : Pt} {te : DE} {τ : Ds} (f : PyData → PyData) : ∀ (ds acc : List PyData) (M : DH) (Q : List PyData → DH → Prop), M D = none → stay M →
    (∀ x ∈ ds, ∃ τ1, bindP p (.d x) τ = some τ1 ∧ ∀ M K, K (.d (f x)) M → te τ1 M K) → Q (acc ++ ds.map f) M → lcD D stay p dYes te τ (ds.map .d) acc M Q
  | [], acc, M, Q, _, _, _, q => by
    show Q acc M
    simpa using q
  | x :: xs, acc, M, Q, hD, hs, hb, q => by
    obtain ⟨τ1, e, h⟩ := hb x List.mem_cons_self
    show oSome (bindP p (.d x) τ) _
    rw [e]
    show te τ1 (updM M D (.lst (acc.map .d))) _
    refine h _ _ ⟨f x, M, rfl, rfl, hD, hs, ?_⟩
    exact lc_pure f xs (acc ++ [f x]) M Q hD hs (fun y hy => hb y (List.mem_cons_of_mem _ hy)) (by simpa using q)
/-- a pure element and a pure test -/
theorem lc_filter {D : Addr} {stay : DH → Prop} {p : Pt} {tt : DT} {te : DE} {τ : Ds} (g : PyData → Bool) (f : PyData → PyData) : ∀ (ds acc : List PyData) (M : DH) (Q : List PyData → DH → Prop), M D = none → stay M →
    (∀ x ∈ ds, ∃ τ1, bindP p (.d x) τ = some τ1 ∧ (∀ M K, K (g x) M → tt τ1 M K) ∧ (g x = true → ∀ M K, K (.d (f x)) M → te τ1 M K)) → Q (acc ++ (ds.filter g).map f) M → lcD D stay p tt te τ (ds.map .d) acc M Q
  | [], acc, M, Q, _, _, _, q => by
    show Q acc M
    simpa using q
  | x :: xs, acc, M, Q, hD, hs, hb, q => by
    obtain ⟨τ1, e, h1, h2⟩ := hb x List.mem_cons_self
    show oSome (bindP p (.d x) τ) _
    rw [e]
    refine h1 _ _ ?_
    cases hg : g x with
    | true =>
      rw [if_pos rfl]
      refine h2 hg _ _ ⟨f x, M, rfl, rfl, hD, hs, ?_⟩
      exact lc_filter g f xs (acc ++ [f x]) M Q hD hs (fun y hy => hb y (List.mem_cons_of_mem _ hy)) (by simpa [List.filter_cons, hg] using q)
    | false =>
      rw [if_neg Bool.false_ne_true]
      exact ⟨M, rfl, hD, hs, lc_filter g f xs acc M Q hD hs (fun y hy => hb y (List.mem_cons_of_mem _ hy)) (by simpa [List.filter_cons, hg] using q)⟩
/-- an element that may be one of several; I: what holds of the heap -/
theorem lc_any {D : Addr} {stay : DH → Prop} {p : Pt} {te : DE} {τ : Ds} (I : DH → Prop) (R : DV → PyData → Prop) (hI : ∀ M o, I M → M D = none → I (updM M D o)) :
    ∀ (ds : List DV) (acc : List PyData) (M : DH) (Q : List PyData → DH → Prop), M D = none → stay M → I M →
    (∀ x ∈ ds, ∃ τ1, bindP p x τ = some τ1 ∧ ∀ M K, I M → (∀ y, R x y → K (.d y) M) → te τ1 M K) → (∀ ys, Paired R ds ys → Q (acc ++ ys) M) → lcD D stay p dYes te τ ds acc M Q
  | [], acc, M, Q, _, _, _, _, q => by
    show Q acc M
    simpa using q [] .nil
  | x :: xs, acc, M, Q, hD, hs, i, hb, q => by
    obtain ⟨τ1, e, h⟩ := hb x List.mem_cons_self
    show oSome (bindP p x τ) _
    rw [e]
    show te τ1 (updM M D (.lst (acc.map .d))) _
    refine h _ _ (hI _ _ i hD) fun y hy => ⟨y, M, rfl, rfl, hD, hs, ?_⟩
    refine lc_any I R hI xs (acc ++ [y]) M Q hD hs i (fun z hz => hb z (List.mem_cons_of_mem _ hz)) fun ys r => ?_
    rw [List.append_assoc]
    exact q (y :: ys) (.cons hy r)
/-- a test that may come out either way -/
theorem lc_some {D : Addr} {stay : DH → Prop} {p : Pt} {tt : DT} {te : DE} {τ : Ds} (I : DH → Prop) (f : PyData → PyData) (hI : ∀ M o, I M → M D = none → I (updM M D o)) :
    ∀ (ds : List PyData) (acc : List PyData) (M : DH) (Q : List PyData → DH → Prop), M D = none → stay M → I M →
    (∀ x ∈ ds, ∃ τ1, bindP p (.d x) τ = some τ1 ∧ (∀ M K, I M → (∀ b, K b M) → tt τ1 M K) ∧ ∀ M K, I M → K (.d (f x)) M → te τ1 M K) → (∀ ys : List PyData, ys.Sublist ds → Q (acc ++ ys.map f) M) → lcD D stay p tt te τ (ds.map .d) acc M Q
  | [], acc, M, Q, _, _, _, _, q => by
    show Q acc M
    simpa using q [] (List.Sublist.refl _)
  | x :: xs, acc, M, Q, hD, hs, i, hb, q => by
    obtain ⟨τ1, e, h1, h2⟩ := hb x List.mem_cons_self
    show oSome (bindP p (.d x) τ) _
    rw [e]
    refine h1 _ _ (hI _ _ i hD) fun b => ?_
    cases b with
    | true =>
      rw [if_pos rfl]
      refine h2 _ _ (hI _ _ i hD) ⟨f x, M, rfl, rfl, hD, hs, ?_⟩
      refine lc_some I f hI xs (acc ++ [f x]) M Q hD hs i (fun y hy => hb y (List.mem_cons_of_mem _ hy)) fun ys r => ?_
      have := q (x :: ys) (r.cons₂ x)
      simpa using this
    | false =>
      rw [if_neg Bool.false_ne_true]
      exact ⟨M, rfl, hD, hs, lc_some I f hI xs acc M Q hD hs i (fun y hy => hb y (List.mem_cons_of_mem _ hy)) fun ys r => q ys (r.cons x)⟩
section
variable {ti : DI} {p : Pt} {tt : DT} {te : DE} {vs : List Nat} {τ : Ds} {M : DH} {Q : DQ} {stay : DH → Prop}
theorem lc_ok (ds : List PyData) (f : PyData → PyData) (hi : ∀ k, k (ds.map .d) stay M → ti τ M k) (hs : stay M)
    (hb : ∀ x ∈ ds, ∃ τ1, bindP p (.d x) (wipeS τ vs) = some τ1 ∧ ∀ M K, K (.d (f x)) M → te τ1 M K) (q : Q (.d (.list (ds.map f))) M) : dLc ti p dYes te vs τ M Q :=
  hi _ ⟨hs, fun D hD => lc_pure f ds [] M _ hD hs hb (by simpa using q)⟩
theorem lcf_ok (ds : List PyData) (g : PyData → Bool) (f : PyData → PyData) (hi : ∀ k, k (ds.map .d) stay M → ti τ M k) (hs : stay M)
    (hb : ∀ x ∈ ds, ∃ τ1, bindP p (.d x) (wipeS τ vs) = some τ1 ∧ (∀ M K, K (g x) M → tt τ1 M K) ∧ (g x = true → ∀ M K, K (.d (f x)) M → te τ1 M K)) (q : Q (.d (.list ((ds.filter g).map f))) M) : dLc ti p tt te vs τ M Q :=
  hi _ ⟨hs, fun D hD => lc_filter g f ds [] M _ hD hs hb (by simpa using q)⟩
theorem all_ok (ds : List PyData) (g : PyData → Bool) (hi : ∀ k, k (ds.map .d) stay M → ti τ M k) (hs : stay M)
    (hb : ∀ x ∈ ds, ∃ τ1, bindP p (.d x) (wipeS τ vs) = some τ1 ∧ ∀ M K, K (.d (.bool (g x))) M → te τ1 M K) (q : Q (.d (.bool (ds.all g))) M) : dLc ti p dYes te vs τ M (fun x M1 => gAll x M1 Q) := by
  refine lc_ok ds (fun x => .bool (g x)) hi hs hb ?_
  show oSome (some (ds.map fun x => PyData.bool (g x))) _
  show oSome (boolsOf (ds.map fun x => PyData.bool (g x))) _
  rw [boolsOf_map]
  show Q (.d (.bool ((ds.map g).all id))) M
  rw [List.all_map]
  exact q
theorem any_ok (ds : List PyData) (g : PyData → Bool) (hi : ∀ k, k (ds.map .d) stay M → ti τ M k) (hs : stay M)
    (hb : ∀ x ∈ ds, ∃ τ1, bindP p (.d x) (wipeS τ vs) = some τ1 ∧ ∀ M K, K (.d (.bool (g x))) M → te τ1 M K) (q : Q (.d (.bool (ds.any g))) M) : dLc ti p dYes te vs τ M (fun x M1 => gAny x M1 Q) := by
  refine lc_ok ds (fun x => .bool (g x)) hi hs hb ?_
  show oSome (some (ds.map fun x => PyData.bool (g x))) _
  show oSome (boolsOf (ds.map fun x => PyData.bool (g x))) _
  rw [boolsOf_map]
  show Q (.d (.bool ((ds.map g).any id))) M
  rw [List.any_map]
  exact q
end
/-! ### tests and values that are pure -/
section
variable {t u : DT} {ta tb : DE} {τ : Ds} {M : DH} {b c : Bool}
theorem or_p (h1 : ∀ K : Bool → DH → Prop, K b M → t τ M K) (h2 : ∀ K : Bool → DH → Prop, K c M → u τ M K) : ∀ K : Bool → DH → Prop, K (b || c) M → dOr t u τ M K := fun K q => by
  refine h1 _ ?_
  cases b with
  | true => exact q
  | false => exact h2 _ q
theorem and_p (h1 : ∀ K : Bool → DH → Prop, K b M → t τ M K) (h2 : ∀ K : Bool → DH → Prop, K c M → u τ M K) : ∀ K : Bool → DH → Prop, K (b && c) M → dAnd t u τ M K := fun K q => by
  refine h1 _ ?_
  cases b with
  | true => exact h2 _ q
  | false => exact q
theorem and_pd (h1 : ∀ K : Bool → DH → Prop, K b M → t τ M K) (h2 : b = true → ∀ K : Bool → DH → Prop, K c M → u τ M K) : ∀ K : Bool → DH → Prop, K (b && c) M → dAnd t u τ M K := fun K q => by
  refine h1 _ ?_
  cases b with
  | true => exact h2 rfl _ q
  | false => exact q
theorem or_pd (h1 : ∀ K : Bool → DH → Prop, K b M → t τ M K) (h2 : b = false → ∀ K : Bool → DH → Prop, K c M → u τ M K) : ∀ K : Bool → DH → Prop, K (b || c) M → dOr t u τ M K := fun K q => by
  refine h1 _ ?_
  cases b with
  | true => exact q
  | false => exact h2 rfl _ q
theorem not_p (h1 : ∀ K : Bool → DH → Prop, K b M → t τ M K) : ∀ K : Bool → DH → Prop, K (!b) M → dNot t τ M K := fun K q => h1 _ q
theorem tru_p (h1 : ∀ K : DQ, K (.d (.bool b)) M → ta τ M K) : ∀ K : Bool → DH → Prop, K b M → dTru ta τ M K := fun K q => h1 _ q
theorem test_p (h1 : ∀ K : DQ, K (.d (.bool b)) M → ta τ M K) : ∀ K : Bool → DH → Prop, K b M → dTest ta τ M K := fun K q => h1 _ q
theorem andV_p (h1 : ∀ K : DQ, K (.d (.bool b)) M → ta τ M K) (h2 : b = true → ∀ K : DQ, K (.d (.bool c)) M → tb τ M K) : ∀ K : DQ, K (.d (.bool (b && c))) M → dAndV ta tb τ M K := fun K q => by
  refine h1 _ ?_
  cases b with
  | true => exact h2 rfl _ q
  | false => exact q
theorem orV_p (h1 : ∀ K : DQ, K (.d (.bool b)) M → ta τ M K) (h2 : b = false → ∀ K : DQ, K (.d (.bool c)) M → tb τ M K) : ∀ K : DQ, K (.d (.bool (b || c))) M → dOrV ta tb τ M K := fun K q => by
  refine h1 _ ?_
  cases b with
  | true => exact q
  | false => exact h2 rfl _ q
theorem notV_p (h1 : ∀ K : DQ, K (.d (.bool b)) M → ta τ M K) : ∀ K : DQ, K (.d (.bool (!b))) M → dNotV ta τ M K := fun K q => h1 _ q
theorem ifS_p {c : DT} {t u : DS} {E : DEnds} {b : Bool} (h : ∀ K : Bool → DH → Prop, K b M → c τ M K) (h1 : b = true → t E τ M) (h2 : b = false → u E τ M) : dIfS c t u E τ M := by
  refine h _ ?_
  cases b with
  | true => exact h1 rfl
  | false => exact h2 rfl
theorem if_p {c : DT} {b : Bool} {Q : DQ} (h : ∀ K : Bool → DH → Prop, K b M → c τ M K) (h1 : b = true → ta τ M Q) (h2 : b = false → tb τ M Q) : dIf c ta tb τ M Q := by
  refine h _ ?_
  cases b with
  | true => exact h1 rfl
  | false => exact h2 rfl
theorem set_p {te : DE} {i : Nat} {E : DEnds} {x : DV} (h : ∀ K : DQ, K x M → te τ M K) (h1 : E.nx (setS τ i x) M) : dSet te i E τ M := h _ h1
theorem ret_p {te : DE} {E : DEnds} {x : DV} (h : ∀ K : DQ, K x M → te τ M K) (h1 : E.rt x M) : dRet te E τ M := h _ h1
theorem op_p {r : D2} {x y z : DV} (h1 : ∀ K : DQ, K x M → ta τ M K) (h2 : ∀ K : DQ, K y M → tb τ M K) (h3 : ∀ K : DQ, K z M → r x y M K) : ∀ K : DQ, K z M → dOp r ta tb τ M K := fun K q => h1 _ (h2 _ (h3 _ q))
theorem all_p {ti : DI} {p : Pt} {te : DE} {vs : List Nat} {stay : DH → Prop} (ds : List PyData) (g : PyData → Bool) (hi : ∀ k, k (ds.map .d) stay M → ti τ M k) (hs : stay M)
    (hb : ∀ x ∈ ds, ∃ τ1, bindP p (.d x) (wipeS τ vs) = some τ1 ∧ ∀ M K, K (.d (.bool (g x))) M → te τ1 M K) : ∀ K : DQ, K (.d (.bool (ds.all g))) M → dCall (d1 gAll) (dCons (dLc ti p dYes te vs) dNil) τ M K :=
  fun K q => all_ok ds g hi hs hb q
theorem any_p {ti : DI} {p : Pt} {te : DE} {vs : List Nat} {stay : DH → Prop} (ds : List PyData) (g : PyData → Bool) (hi : ∀ k, k (ds.map .d) stay M → ti τ M k) (hs : stay M)
    (hb : ∀ x ∈ ds, ∃ τ1, bindP p (.d x) (wipeS τ vs) = some τ1 ∧ ∀ M K, K (.d (.bool (g x))) M → te τ1 M K) : ∀ K : DQ, K (.d (.bool (ds.any g))) M → dCall (d1 gAny) (dCons (dLc ti p dYes te vs) dNil) τ M K :=
  fun K q => any_ok ds g hi hs hb q
end
theorem eqOk_int {i : Int} : eqOk (.int i) = true := rfl
theorem eqOk_str {i : Str} : eqOk (.str i) = true := rfl
theorem eqOk_bool {i : Bool} : eqOk (.bool i) = true := rfl
theorem eqOk_none : eqOk .none = true := rfl
theorem eqv_ii {i j : Int} : PyData.eqv (.int i) (.int j) = (i == j) := by simp only [PyData.eqv]
theorem eqv_ss {i j : Str} : PyData.eqv (.str i) (.str j) = (i == j) := by simp only [PyData.eqv]
theorem eqv_bb {i j : Bool} : PyData.eqv (.bool i) (.bool j) = (i == j) := by simp only [PyData.eqv]
theorem str_beq {i j : Str} : (i == j) = decide (i = j) := by
  by_cases h : i = j
  · subst h; simp
  · rw [decide_eq_false h]; exact beq_eq_false_iff_ne.mpr h
theorem int_beq {i j : Int} : (i == j) = decide (i = j) := by
  by_cases h : i = j
  · subst h; simp
  · rw [decide_eq_false h]; exact beq_eq_false_iff_ne.mpr h
/-- the signs of a text, as data -/
def chs (z : Str) : List PyData := z.cps.toList.map fun c => .str (sg c)
theorem it_str {M : DH} {z : Str} {k : List DV → (DH → Prop) → Prop} (h : k ((chs z).map .d) fun _ => True) : itOf M (.d (.str z)) k := by
  show k (z.cps.toList.map fun c => .d (.str (sg c))) _
  unfold chs at h
  rw [List.map_map] at h
  exact h
def inS (ws : Str) : PyData → Bool
  | .str y => inStr y ws
  | _ => false
theorem chs_all (z : Str) (ws : Str) : (chs z).all (inS ws) = z.cps.toList.all fun c => decide (c ∈ ws.cps.toList) := by
  unfold chs
  rw [List.all_map]
  congr 1
  funext c
  exact inStr_sign c ws
/-- all([sign in WS for sign in z]) -/
theorem all_signs {p : Pt} {te : DE} {vs : List Nat} {τ : Ds} {M : DH} {Q : DQ} {t : DE} (z ws : Str) (ht : ∀ K, K (.d (.str z)) M → t τ M K)
    (hb : ∀ c, ∃ τ1, bindP p (.d (.str (sg c))) (wipeS τ vs) = some τ1 ∧ ∀ M K, K (.d (.bool (inStr (sg c) ws))) M → te τ1 M K) (q : Q (.d (.bool (z.cps.toList.all fun c => decide (c ∈ ws.cps.toList)))) M) :
    dLc (iSeq t) p dYes te vs τ M (fun x M1 => gAll x M1 Q) := by
  refine all_ok (stay := fun _ => True) (chs z) (inS ws) (fun k h => ht _ (it_str (k := fun i s => k i s M) h)) trivial (fun x hx => ?_) (by rw [chs_all]; exact q)
  obtain ⟨c, _, rfl⟩ := List.mem_map.mp hx
  exact hb c
end VS

end

section
set_option Elab.async false
set_option linter.all false
set_option maxRecDepth 100000
set_option maxHeartbeats 4000000
/-! Defs that only read: what they answer, as a plain function; and that the transformers follow it. -/
namespace VS
open PySem L2
def emp : DH := fun _ => none
abbrev EE := Ds → Option DV
abbrev ET := Ds → Option Bool
abbrev EA := Ds → Option (List DV)
abbrev EI := Ds → Option (List DV)
abbrev EP := Ds → Option (Option Int)
abbrev E2 := DV → DV → Option DV
abbrev EC := List DV → Option DV
inductive EO where
  | nx (τ : Ds) | rt (x : DV) | bk (τ : Ds) | ct (τ : Ds)
abbrev ES := Ds → Option EO
class SE (t : DE) (e : outParam EE) : Prop where
  ok : ∀ τ v M (K : DQ), e τ = some v → K v M → t τ M K
class ST (t : DT) (e : outParam ET) : Prop where
  ok : ∀ τ v M (K : Bool → DH → Prop), e τ = some v → K v M → t τ M K
class SA (t : DA) (e : outParam EA) : Prop where
  ok : ∀ τ v M (K : List DV → DH → Prop), e τ = some v → K v M → t τ M K
class SI (t : DI) (e : outParam EI) : Prop where
  ok : ∀ τ v M (K : List DV → (DH → Prop) → DH → Prop), e τ = some v → K v (fun _ => True) M → t τ M K
class SPt (t : DO') (e : outParam EP) : Prop where
  ok : ∀ τ v M (K : Option Int → DH → Prop), e τ = some v → K v M → t τ M K
class S2 (r : D2) (e : outParam E2) : Prop where
  ok : ∀ x y v M (K : DQ), e x y = some v → K v M → r x y M K
class SC (r : DC) (e : outParam EC) : Prop where
  ok : ∀ xs v M (K : DQ), e xs = some v → K v M → r xs M K
class SM (r : DM) (e : outParam (DV → EC)) : Prop where
  ok : ∀ x xs v M (K : DQ), e x xs = some v → K v M → r x xs M K
def endE (E : DEnds) (M : DH) : EO → Prop
  | .nx τ => E.nx τ M
  | .rt x => E.rt x M
  | .bk τ => E.bk τ M
  | .ct τ => E.ct τ M
class SS (t : DS) (e : outParam ES) : Prop where
  ok : ∀ τ o M (E : DEnds), e τ = some o → endE E M o → t E τ M
theorem bnd {α β : Type} {o : Option α} {f : α → Option β} {b : β} (h : o.bind f = some b) : ∃ a, o = some a ∧ f a = some b := by
  cases o with
  | none => cases h
  | some a => exact ⟨a, rfl, h⟩
theorem mpd {α β : Type} {o : Option α} {f : α → β} {b : β} (h : o.map f = some b) : ∃ a, o = some a ∧ f a = b := by
  cases o with
  | none => cases h
  | some a => exact ⟨a, rfl, by cases h; rfl⟩
def asB : DV → Option Bool
  | .d (.bool b) => some b
  | _ => none
theorem asB_some {x : DV} {b : Bool} (h : asB x = some b) : x = .d (.bool b) := by
  unfold asB at h; split at h <;> cases h; rfl
def asI : DV → Option Int
  | .d (.int b) => some b
  | _ => none
theorem asI_some {x : DV} {b : Int} (h : asI x = some b) : x = .d (.int b) := by
  unfold asI at h; split at h <;> cases h; rfl
/-! ### expressions -/
def qVar (i : Nat) : EE := fun τ => slot τ i
instance (i : Nat) : SE (dVar i) (qVar i) := ⟨fun τ v M K h k => by
  have h : slot τ i = some v := h
  show gotV (slot τ i) M K
  rw [h]; exact k⟩
def qC (x : PyData) : EE := fun _ => some (.d x)
instance (x : PyData) : SE (dC x) (qC x) := ⟨fun τ v M K h k => by cases h; exact k⟩
def qW (x : V) : EE := fun _ => some (.w x)
instance (x : V) : SE (dW x) (qW x) := ⟨fun τ v M K h k => by cases h; exact k⟩
def qOp (r : E2) (a b : EE) : EE := fun τ => (a τ).bind fun x => (b τ).bind fun y => r x y
instance (r : D2) (r' : E2) (a b : DE) (a' b' : EE) [hr : S2 r r'] [ha : SE a a'] [hb : SE b b'] : SE (dOp r a b) (qOp r' a' b') := ⟨fun τ v M K h k => by
  obtain ⟨x, h1, h⟩ := bnd h
  obtain ⟨y, h2, h⟩ := bnd h
  exact ha.ok _ _ _ _ h1 (hb.ok _ _ _ _ h2 (hr.ok _ _ _ _ _ h k))⟩
def qTest (a : EE) : ET := fun τ => (a τ).bind asB
instance (a : DE) (a' : EE) [ha : SE a a'] : ST (dTest a) (qTest a') := ⟨fun τ v M K h k => by
  obtain ⟨x, h1, h⟩ := bnd h
  refine ha.ok _ _ _ _ h1 ?_
  have := asB_some h; subst this; exact k⟩
theorem lstAt_emp {a : Addr} : lstAt (emp a) = none := rfl
theorem tru_emp {M : DH} {x : DV} {b : Bool} (h : truOf emp x = some b) : truOf M x = some b := by
  cases x with
  | d x => cases x <;> first | exact h | cases h
  | w v => cases v <;> cases h
def qTru (a : EE) : ET := fun τ => (a τ).bind (truOf emp)
instance (a : DE) (a' : EE) [ha : SE a a'] : ST (dTru a) (qTru a') := ⟨fun τ v M K h k => by
  obtain ⟨x, h1, h⟩ := bnd h
  refine ha.ok _ _ _ _ h1 ?_
  rw [tru_emp h]; exact k⟩
def qAnd (a b : ET) : ET := fun τ => (a τ).bind fun k => if k then b τ else some false
def qOr (a b : ET) : ET := fun τ => (a τ).bind fun k => if k then some true else b τ
def qNot (a : ET) : ET := fun τ => (a τ).map fun k => !k
instance (a b : DT) (a' b' : ET) [ha : ST a a'] [hb : ST b b'] : ST (dAnd a b) (qAnd a' b') := ⟨fun τ v M K h k => by
  obtain ⟨c, h1, h⟩ := bnd h
  refine ha.ok _ _ _ _ h1 ?_
  cases c
  · cases h; exact k
  · exact hb.ok _ _ _ _ h k⟩
instance (a b : DT) (a' b' : ET) [ha : ST a a'] [hb : ST b b'] : ST (dOr a b) (qOr a' b') := ⟨fun τ v M K h k => by
  obtain ⟨c, h1, h⟩ := bnd h
  refine ha.ok _ _ _ _ h1 ?_
  cases c
  · exact hb.ok _ _ _ _ h k
  · cases h; exact k⟩
instance (a : DT) (a' : ET) [ha : ST a a'] : ST (dNot a) (qNot a') := ⟨fun τ v M K h k => by
  obtain ⟨c, h1, h⟩ := mpd h
  subst h
  exact ha.ok _ _ _ _ h1 k⟩
def qAndV (a b : EE) : EE := fun τ => ((a τ).bind asB).bind fun k => if k then b τ else some (.d (.bool false))
def qOrV (a b : EE) : EE := fun τ => ((a τ).bind asB).bind fun k => if k then some (.d (.bool true)) else b τ
def qNotV (a : EE) : EE := fun τ => ((a τ).bind asB).map fun k => .d (.bool (!k))
instance (a b : DE) (a' b' : EE) [ha : SE a a'] [hb : SE b b'] : SE (dAndV a b) (qAndV a' b') := ⟨fun τ v M K h k => by
  obtain ⟨c, h1, h⟩ := bnd h
  obtain ⟨x, h2, h3⟩ := bnd h1
  have := asB_some h3; subst this
  refine ha.ok _ _ _ _ h2 ?_
  cases c
  · cases h; exact k
  · exact hb.ok _ _ _ _ h k⟩
instance (a b : DE) (a' b' : EE) [ha : SE a a'] [hb : SE b b'] : SE (dOrV a b) (qOrV a' b') := ⟨fun τ v M K h k => by
  obtain ⟨c, h1, h⟩ := bnd h
  obtain ⟨x, h2, h3⟩ := bnd h1
  have := asB_some h3; subst this
  refine ha.ok _ _ _ _ h2 ?_
  cases c
  · exact hb.ok _ _ _ _ h k
  · cases h; exact k⟩
instance (a : DE) (a' : EE) [ha : SE a a'] : SE (dNotV a) (qNotV a') := ⟨fun τ v M K h k => by
  obtain ⟨c, h1, h⟩ := mpd h
  subst h
  obtain ⟨x, h2, h3⟩ := bnd h1
  have := asB_some h3; subst this
  exact ha.ok _ _ _ _ h2 k⟩
def qIf (c : ET) (a b : EE) : EE := fun τ => (c τ).bind fun k => if k then a τ else b τ
instance (c : DT) (a b : DE) (c' : ET) (a' b' : EE) [hc : ST c c'] [ha : SE a a'] [hb : SE b b'] : SE (dIf c a b) (qIf c' a' b') := ⟨fun τ v M K h k => by
  obtain ⟨b, h1, h⟩ := bnd h
  refine hc.ok _ _ _ _ h1 ?_
  cases b
  · exact hb.ok _ _ _ _ h k
  · exact ha.ok _ _ _ _ h k⟩
def qChain (r r' : E2) (a b c : EE) : EE := fun τ => (a τ).bind fun x => (b τ).bind fun y => ((r x y).bind asB).bind fun k => if k then (c τ).bind fun z => r' y z else some (.d (.bool false))
instance (r s : D2) (r' s' : E2) (a b c : DE) (a' b' c' : EE) [hr : S2 r r'] [hs : S2 s s'] [ha : SE a a'] [hb : SE b b'] [hc : SE c c'] : SE (dChain r s a b c) (qChain r' s' a' b' c') := ⟨fun τ v M K h k => by
  obtain ⟨x, h1, h⟩ := bnd h
  obtain ⟨y, h2, h⟩ := bnd h
  obtain ⟨b, h3, h⟩ := bnd h
  obtain ⟨z, h4, h5⟩ := bnd h3
  have := asB_some h5; subst this
  refine ha.ok _ _ _ _ h1 (hb.ok _ _ _ _ h2 (hr.ok _ _ _ _ _ h4 ?_))
  cases b
  · cases h; exact k
  · obtain ⟨w, h6, h⟩ := bnd h
    exact hc.ok _ _ _ _ h6 (hs.ok _ _ _ _ _ h k)⟩
def qNeg (a : EE) : EE := fun τ => ((a τ).bind asI).map fun i => .d (.int (-i))
instance (a : DE) (a' : EE) [ha : SE a a'] : SE (dNeg a) (qNeg a') := ⟨fun τ v M K h k => by
  obtain ⟨i, h1, h⟩ := mpd h
  subst h
  obtain ⟨x, h2, h3⟩ := bnd h1
  have := asI_some h3; subst this
  exact ha.ok _ _ _ _ h2 k⟩
/-! ### arguments, displays, calls -/
def qNil : EA := fun _ => some []
def qCons (a : EE) (b : EA) : EA := fun τ => (a τ).bind fun x => (b τ).bind fun xs => some (x :: xs)
instance : SA dNil qNil := ⟨fun τ v M K h k => by cases h; exact k⟩
instance (a : DE) (a' : EE) (b : DA) (b' : EA) [ha : SE a a'] [hb : SA b b'] : SA (dCons a b) (qCons a' b') := ⟨fun τ v M K h k => by
  obtain ⟨x, h1, h⟩ := bnd h
  obtain ⟨y, h2, h⟩ := bnd h
  cases h
  exact ha.ok _ _ _ _ h1 (hb.ok _ _ _ _ h2 k)⟩
def qTup (a : EA) : EE := fun τ => (a τ).bind fun xs => (dAll xs).map fun ds => .d (.tuple ds)
def qLst (a : EA) : EE := fun τ => (a τ).bind fun xs => (dAll xs).map fun ds => .d (.list ds)
instance (a : DA) (a' : EA) [ha : SA a a'] : SE (dTup a) (qTup a') := ⟨fun τ v M K h k => by
  obtain ⟨x, h1, h⟩ := bnd h
  obtain ⟨y, h2, h⟩ := mpd h
  cases h
  refine ha.ok _ _ _ _ h1 ?_
  unfold oAll; rw [h2]; exact k⟩
instance (a : DA) (a' : EA) [ha : SA a a'] : SE (dLst a) (qLst a') := ⟨fun τ v M K h k => by
  obtain ⟨x, h1, h⟩ := bnd h
  obtain ⟨y, h2, h⟩ := mpd h
  cases h
  refine ha.ok _ _ _ _ h1 ?_
  unfold oAll; rw [h2]; exact k⟩
def pairsE : List (EE × EE) → Ds → Option (List (DV × DV))
  | [], _ => some []
  | (k, v) :: r, τ => (k τ).bind fun x => (v τ).bind fun y => (pairsE r τ).bind fun ps => some ((x, y) :: ps)
class SPs (t : List (DE × DE)) (e : outParam (List (EE × EE))) : Prop where
  ok : ∀ τ v M (K : List (DV × DV) → DH → Prop), pairsE e τ = some v → K v M → pairsD t τ M K
instance : SPs [] [] := ⟨fun τ v M K h k => by cases h; exact k⟩
instance (a b : DE) (a' b' : EE) (r : List (DE × DE)) (r' : List (EE × EE)) [ha : SE a a'] [hb : SE b b'] [hr : SPs r r'] : SPs ((a, b) :: r) ((a', b') :: r') := ⟨fun τ v M K h k => by
  obtain ⟨x, h1, h⟩ := bnd h
  obtain ⟨y, h2, h⟩ := bnd h
  obtain ⟨z, h3, h⟩ := bnd h
  cases h
  exact ha.ok _ _ _ _ h1 (hb.ok _ _ _ _ h2 (hr.ok _ _ _ _ h3 k))⟩
def qDisp (ps : List (EE × EE)) : EE := fun τ => (pairsE ps τ).bind fun ps => if ps.length ≤ 15 then (esOf ps).map fun es => .d (.dict es) else none
instance (a : List (DE × DE)) (a' : List (EE × EE)) [ha : SPs a a'] : SE (dDisp a) (qDisp a') := ⟨fun τ v M K h k => by
  obtain ⟨ps, h1, h⟩ := bnd h
  split at h
  · rename_i hl
    obtain ⟨es, h2, h⟩ := mpd h
    cases h
    intro D hD
    refine ha.ok _ _ _ _ h1 ⟨M, rfl, hD, hl, ?_⟩
    rw [h2]; exact k
  · cases h⟩
def qCall (r : EC) (a : EA) : EE := fun τ => (a τ).bind r
instance (r : DC) (r' : EC) (a : DA) (a' : EA) [hr : SC r r'] [ha : SA a a'] : SE (dCall r a) (qCall r' a') := ⟨fun τ v M K h k => by
  obtain ⟨x, h1, h⟩ := bnd h
  exact ha.ok _ _ _ _ h1 (hr.ok _ _ _ _ h k)⟩
def SpE (e : EC) : SpD := fun xs M Q => ∃ v, e xs = some v ∧ Q v M
instance (e : EC) : SC (SpE e) e := ⟨fun xs v M K h k => ⟨v, h, k⟩⟩
def qCallA (i : Nat) (T : Addr → Option EC) (a : EA) : EE := fun τ => (slot τ i).bind fun x => match x with
  | .w (.ref f) => (T f).bind fun r => (a τ).bind r
  | _ => none
def SpT (T : Addr → Option EC) : Addr → Option SpD := fun a => (T a).map SpE
instance (i : Nat) (T : Addr → Option EC) (a : DA) (a' : EA) [ha : SA a a'] : SE (dCallA i (SpT T) a) (qCallA i T a') := ⟨fun τ v M K h k => by
  obtain ⟨x, h1, h⟩ := bnd h
  unfold dCallA gotV
  rw [h1]
  split at h
  · rename_i f
    obtain ⟨r, h2, h⟩ := bnd h
    obtain ⟨xs, h3, h⟩ := bnd h
    show oSome (SpT T f) _
    unfold SpT
    rw [h2]
    exact ha.ok _ _ _ _ h3 ⟨v, h, k⟩
  · cases h⟩
/-! ### operators -/
theorem seq_emp {M : DH} {x : DV} {ys : List DV} (h : seqOf emp x = some ys) : seqOf M x = some ys := by
  cases x with
  | d x => cases x <;> first | exact h | cases h
  | w v => cases v <;> cases h
theorem seqD_emp {M : DH} {x : DV} {ys : List PyData} (h : seqD emp x = some ys) : seqD M x = some ys := by
  unfold seqD at h ⊢
  cases e : seqOf emp x with
  | none => rw [e] at h; cases h
  | some zs => rw [e] at h; rw [seq_emp e]; exact h
theorem peek_emp {M : DH} {x : DV} {y : PyData} (h : peek emp x = some y) : peek M x = some y := by
  cases x with
  | d x => exact h
  | w v => cases v <;> first | exact h | cases h
theorem lsD_emp {M : DH} {x : DV} {ys : List PyData} (h : lsD emp x = some ys) : lsD M x = some ys := by
  cases x with
  | d x => cases x <;> first | exact h | cases h
  | w v => cases v <;> first | exact h | cases h
def eqE (x y : DV) : Option Bool := match x, y with
  | .d a, .d b => if eqOk a && eqOk b then some (PyData.eqv a b) else none
  | _, _ => none
theorem eqE_ok {M : DH} {x y : DV} {b : Bool} {k : Bool → Prop} (h : eqE x y = some b) (q : k b) : oEq M x y k := by
  unfold eqE at h
  split at h
  · split at h
    · rename_i c
      cases h
      rw [Bool.and_eq_true] at c
      exact ⟨c.1, c.2, q⟩
    · cases h
  · cases h
def qEqV : E2 := fun x y => (eqE x y).map fun b => .d (.bool b)
def qNeV : E2 := fun x y => (eqE x y).map fun b => .d (.bool (!b))
instance : S2 rEqV qEqV := ⟨fun x y v M K h k => by obtain ⟨b, h1, h⟩ := mpd h; subst h; exact eqE_ok h1 k⟩
instance : S2 rNeV qNeV := ⟨fun x y v M K h k => by obtain ⟨b, h1, h⟩ := mpd h; subst h; exact eqE_ok h1 k⟩
def qIsV : E2 := fun x y => match y with
  | .d .none => some (.d (.bool (isNone x)))
  | _ => none
def qNotIsV : E2 := fun x y => match y with
  | .d .none => some (.d (.bool (!isNone x)))
  | _ => none
instance : S2 rIsV qIsV := ⟨fun x y v M K h k => by unfold qIsV at h; split at h <;> cases h; exact k⟩
instance : S2 rNotIsV qNotIsV := ⟨fun x y v M K h k => by unfold qNotIsV at h; split at h <;> cases h; exact k⟩
def qI2 (g : Int → Int → PyData) : E2 := fun x y => match x, y with
  | .d (.int i), .d (.int j) => some (.d (g i j))
  | _, _ => none
instance (g : Int → Int → PyData) : S2 (rI2 g) (qI2 g) := ⟨fun x y v M K h k => by unfold qI2 at h; split at h <;> cases h; exact k⟩
def qII (C : Int → Int → Prop) [∀ i j, Decidable (C i j)] (g : Int → Int → PyData) : E2 := fun x y => match x, y with
  | .d (.int i), .d (.int j) => if C i j then some (.d (g i j)) else none
  | _, _ => none
instance (C : Int → Int → Prop) [∀ i j, Decidable (C i j)] (g : Int → Int → PyData) : S2 (rII C g) (qII C g) := ⟨fun x y v M K h k => by
  unfold qII at h
  split at h
  · split at h <;> cases h
    rename_i c
    exact ⟨c, k⟩
  · cases h⟩
instance (i j : Int) : Decidable (CDiv i j) := by unfold CDiv; infer_instance
instance (i j : Int) : Decidable (CPow i j) := by unfold CPow; infer_instance
instance (i j : Int) : Decidable (CMul i j) := by unfold CMul; infer_instance
def isLst : DV → Bool
  | .d (.list _) => true
  | _ => false
def okIn (x : PyData) (y : DV) (ds : List PyData) : Bool := (flatD x && ds.all flatD) || (isLst y && eqOk x && eqOk (.list ds))
def inE (x y : DV) : Option Bool := match x, y with
  | .d (.str i), .d (.str j) => some (inStr i j)
  | .d x, y => (seqD emp y).bind fun ds => if okIn x y ds = true then some (inD x ds) else none
  | _, _ => none
theorem ite_some {α : Type} {c : Prop} [Decidable c] {a b : α} (h : (if c then some a else none) = some b) : c ∧ a = b := by
  by_cases k : c
  · rw [if_pos k] at h; cases h; exact ⟨k, rfl⟩
  · rw [if_neg k] at h; cases h
theorem ite_bnd {α : Type} {c : Prop} [Decidable c] {a : Option α} {b : α} (h : (if c then a else none) = some b) : c ∧ a = some b := by
  by_cases k : c
  · rw [if_pos k] at h; exact ⟨k, h⟩
  · rw [if_neg k] at h; cases h
theorem inE_ok {M : DH} {x y : DV} {b : Bool} {k : Bool → Prop} (h : inE x y = some b) (q : k b) : oIn M x y k := by
  unfold inE at h
  split at h
  · cases h; exact q
  · rename_i x' hn
    obtain ⟨ds, h1, h⟩ := bnd h
    obtain ⟨c, e⟩ := ite_some h
    subst e
    have key : oSome (seqD M y) fun ds => ((flatD x' = true ∧ ds.all flatD = true) ∨ ((∃ es, peek M y = some (.list es)) ∧ eqOk x' = true ∧ eqOk (.list ds) = true)) ∧ k (inD x' ds) := by
      rw [seqD_emp h1]
      refine ⟨?_, q⟩
      unfold okIn at c
      rw [Bool.or_eq_true, Bool.and_eq_true, Bool.and_eq_true, Bool.and_eq_true] at c
      rcases c with c | ⟨⟨c1, c2⟩, c3⟩
      · exact .inl c
      · refine .inr ⟨?_, c2, c3⟩
        unfold isLst at c1
        split at c1
        · exact ⟨_, rfl⟩
        · cases c1
    cases x' <;> (cases y with
      | d y => cases y <;> first | exact key | exact (hn _ _ rfl rfl).elim
      | w v => exact key)
  · cases h
def qInV : E2 := fun x y => (inE x y).map fun b => .d (.bool b)
def qNotInV : E2 := fun x y => (inE x y).map fun b => .d (.bool (!b))
instance : S2 rInV qInV := ⟨fun x y v M K h k => by obtain ⟨b, h1, h⟩ := mpd h; subst h; exact inE_ok h1 k⟩
instance : S2 rNotInV qNotInV := ⟨fun x y v M K h k => by obtain ⟨b, h1, h⟩ := mpd h; subst h; exact inE_ok h1 k⟩
def ixE (x : DV) (i : Int) : Option DV := match x with
  | .d (.str z) => (atI z.cps.toList i).map fun c => .d (.str (sg c))
  | x => (seqOf emp x).bind fun ys => atI ys i
def qIx : E2 := fun x y => (asI y).bind fun i => ixE x i
instance : S2 gIx qIx := ⟨fun x y v M K h k => by
  obtain ⟨i, h1, h⟩ := bnd h
  have := asI_some h1; subst this
  have h : ixE x i = some v := h
  unfold ixE at h
  split at h
  · obtain ⟨c, h2, h⟩ := mpd h
    subst h
    show oSome (atI _ i) _
    rw [h2]; exact k
  · rename_i hn
    obtain ⟨ys, h2, h⟩ := bnd h
    show gIx x (.d (.int i)) M K
    unfold gIx
    split
    · rename_i e
      cases e
      split
      · exact (hn _ rfl).elim
      · rw [seq_emp h2]
        show oSome (atI ys i) _
        rw [h]; exact k
    · rename_i e
      exact (e _ rfl).elim⟩
def qDGet : E2 := fun x y => match x, y with
  | .d (.dict es), .d k => (keyD k).bind fun _ => (valD es k).map .d
  | _, _ => none
instance : S2 gDGet qDGet := ⟨fun x y v M K h k => by
  unfold qDGet at h
  split at h
  · obtain ⟨i, h1, h⟩ := bnd h
    obtain ⟨z, h2, h⟩ := mpd h
    subst h
    unfold gDGet
    simp only [h1, h2, oSome]
    exact k
  · cases h⟩
end VS

end

section
set_option Elab.async false
set_option linter.all false
set_option maxRecDepth 100000
set_option maxHeartbeats 4000000
/-! Defs that only read, part 2. -/
namespace VS
open PySem L2
def qAddV : E2 := fun x y => match x, y with
  | .d (.int i), .d (.int j) => some (.d (.int (i + j)))
  | .d (.str i), .d (.str j) => if i.length + j.length ≤ sizeLine then some (.d (.str (i ++ j))) else none
  | .d (.tuple i), .d (.tuple j) => if i.length + j.length ≤ sizeLine then some (.d (.tuple (i ++ j))) else none
  | .d (.list i), .d (.list j) => if i.length + j.length ≤ sizeLine then some (.d (.list (i ++ j))) else none
  | _, _ => none
theorem lstD_d {M : DH} {ds : List PyData} : lstD M (.d (.list ds)) = some ds := dAll_of_map ds
instance : S2 rAddV qAddV := ⟨fun x y v M K h k => by
  unfold qAddV at h
  split at h
  · cases h; exact k
  · obtain ⟨c, e⟩ := ite_some h; subst e; exact ⟨c, k⟩
  · obtain ⟨c, e⟩ := ite_some h; subst e; exact ⟨c, k⟩
  · obtain ⟨c, e⟩ := ite_some h; subst e
    rename_i i j
    show (match lstD M (.d (.list i)), lstD M (.d (.list j)) with
      | some i, some j => i.length + j.length ≤ sizeLine ∧ K (.d (.list (i ++ j))) M
      | _, _ => False)
    rw [lstD_d, lstD_d]
    exact ⟨c, k⟩
  · cases h⟩
def qMulV : E2 := fun x y => match x, y with
  | .d (.int i), .d (.int j) => if CMul i j then some (.d (.int (i * j))) else none
  | .d (.tuple ds), .d (.int k) => if (ds.isEmpty = false ∧ 2 ≤ k ∧ k ≤ 1000 ∧ ds.length ≤ 1000) then some (.d (.tuple (repL k.toNat ds))) else none
  | .d (.list ds), .d (.int k) => if (-(2 ^ 63) ≤ k ∧ k < 2 ^ 63 ∧ ds.length * k.toNat ≤ sizeLine) then some (.d (.list (repL k.toNat ds))) else none
  | _, _ => none
instance : S2 rMulV qMulV := ⟨fun x y v M K h k => by
  unfold qMulV at h
  split at h
  · obtain ⟨c, e⟩ := ite_some h; subst e; exact ⟨c, k⟩
  · obtain ⟨c, e⟩ := ite_some h; subst e
    refine ⟨⟨fun z => ?_, c.2⟩, k⟩
    have := c.1
    rw [z] at this; cases this
  · obtain ⟨c, e⟩ := ite_some h; subst e; exact ⟨c, k⟩
  · cases h⟩
def qMulS : E2 := fun x y => match x, y with
  | .d (.str z), .d (.int k) => if (0 ≤ k ∧ k ≤ 1000000 ∧ z.length * k.toNat ≤ sizeLine) then some (.d (.str (repS z k))) else none
  | _, _ => none
instance : S2 rMulS qMulS := ⟨fun x y v M K h k => by
  unfold qMulS at h
  split at h
  · obtain ⟨c, e⟩ := ite_some h; subst e; exact ⟨c, k⟩
  · cases h⟩
/-! ### built-in calls -/
def q1 (g : DV → Option DV) : EC := fun xs => match xs with
  | [x] => g x
  | _ => none
class S1 (g : DV → DH → DQ → Prop) (e : outParam (DV → Option DV)) : Prop where
  ok : ∀ x v M (K : DQ), e x = some v → K v M → g x M K
instance (g : DV → DH → DQ → Prop) (g' : DV → Option DV) [h1 : S1 g g'] : SC (d1 g) (q1 g') := ⟨fun xs v M K h k => by
  unfold q1 at h
  split at h
  · exact h1.ok _ _ _ _ h k
  · cases h⟩
def lenE (x : DV) : Option DV := (lenOf emp x).map fun (n : Nat) => .d (.int (n : Nat))
instance : S1 gLen lenE := ⟨fun x v M K h k => by
  obtain ⟨n, h1, h⟩ := mpd h
  subst h
  have h2 : lenOf M x = some n := by
    cases x with
    | d x => cases x <;> first | exact h1 | cases h1
    | w v => cases v <;> cases h1
  unfold gLen
  rw [h2]; exact k⟩
def absE : DV → Option DV := fun x => (asI x).map fun i => .d (.int (if i < 0 then -i else i))
instance : S1 gAbs absE := ⟨fun x v M K h k => by
  obtain ⟨n, h1, h⟩ := mpd h
  subst h; have := asI_some h1; subst this; exact k⟩
def intE : DV → Option DV := fun x => match x with
  | .d (.int i) => some (.d (.int i))
  | .d (.bool b) => some (.d (.int (if b then 1 else 0)))
  | _ => none
instance : S1 gInt intE := ⟨fun x v M K h k => by unfold intE at h; split at h <;> cases h <;> exact k⟩
def tupE : DV → Option DV := fun x => (seqD emp x).map fun ds => .d (.tuple ds)
instance : S1 gTuple tupE := ⟨fun x v M K h k => by
  obtain ⟨n, h1, h⟩ := mpd h
  subst h
  unfold gTuple
  rw [seqD_emp h1]; exact k⟩
def listE : DV → Option DV := fun x => (seqD emp x).map fun ds => .d (.list ds)
instance : S1 gList listE := ⟨fun x v M K h k => by
  obtain ⟨n, h1, h⟩ := mpd h
  subst h
  unfold gList
  rw [seqD_emp h1]; exact k⟩
def allE : DV → Option DV := fun x => (lsD emp x).bind fun ds => (boolsOf ds).map fun bs => .d (.bool (bs.all id))
def anyE : DV → Option DV := fun x => (lsD emp x).bind fun ds => (boolsOf ds).map fun bs => .d (.bool (bs.any id))
instance : S1 gAll allE := ⟨fun x v M K h k => by
  obtain ⟨n, h1, h⟩ := bnd h
  obtain ⟨bs, h2, h⟩ := mpd h
  subst h
  unfold gAll
  rw [lsD_emp h1]
  show oSome (boolsOf n) _
  rw [h2]; exact k⟩
instance : S1 gAny anyE := ⟨fun x v M K h k => by
  obtain ⟨n, h1, h⟩ := bnd h
  obtain ⟨bs, h2, h⟩ := mpd h
  subst h
  unfold gAny
  rw [lsD_emp h1]
  show oSome (boolsOf n) _
  rw [h2]; exact k⟩
def qIsiV : EC := fun xs => match xs with
  | [x, .w (.ty b)] => (tyOf emp x).bind fun a => if tyOk b = true then some (.d (.bool (isB a b))) else none
  | _ => none
theorem ty_emp {M : DH} {x : DV} {b : String} (h : tyOf emp x = some b) : tyOf M x = some b := by
  cases x with
  | d x => cases x <;> first | exact h | cases h
  | w v => cases v <;> cases h
instance : SC rIsiV qIsiV := ⟨fun xs v M K h k => by
  unfold qIsiV at h
  split at h
  · obtain ⟨a, h1, h⟩ := bnd h
    obtain ⟨c, e⟩ := ite_some h
    subst e
    show oSome (tyOf M _) _
    rw [ty_emp h1]
    exact ⟨c, k⟩
  · cases h⟩
/-! ### methods -/
def tyE (T : String) : DV → Bool
  | .d (.str _) => decide (T = "str")
  | .d (.list _) => decide (T = "list")
  | .d (.dict _) => decide (T = "dict")
  | _ => false
theorem tyE_ok {T : String} {M : DH} {x : DV} (h : tyE T x = true) : tyM T M x := by
  unfold tyE at h
  split at h
  · exact (of_decide_eq_true h : T = "str")
  · exact (of_decide_eq_true h : T = "list")
  · exact (of_decide_eq_true h : T = "dict")
  · cases h
def qMt (T : String) (r : DV → EC) (a : EE) (t : EA) : EE := fun τ => (a τ).bind fun x => if tyE T x = true then (t τ).bind fun xs => r x xs else none
instance (T : String) (r : DM) (r' : DV → EC) (a : DE) (a' : EE) (t : DA) (t' : EA) [hr : SM r r'] [ha : SE a a'] [ht : SA t t'] : SE (dMt T r a t) (qMt T r' a' t') := ⟨fun τ v M K h k => by
  obtain ⟨x, h1, h⟩ := bnd h
  obtain ⟨c, h⟩ := ite_bnd h
  obtain ⟨xs, h2, h⟩ := bnd h
  exact ha.ok _ _ _ _ h1 ⟨tyE_ok c, ht.ok _ _ _ _ h2 (hr.ok _ _ _ _ _ h k)⟩⟩
def qMt0 (T : String) (r : DV → EC) (a : EE) : EE := fun τ => (a τ).bind fun x => if tyE T x = true then r x [] else none
instance (T : String) (r : DM) (r' : DV → EC) (a : DE) (a' : EE) [hr : SM r r'] [ha : SE a a'] : SE (dMt0 T r a) (qMt0 T r' a') := ⟨fun τ v M K h k => by
  obtain ⟨x, h1, h⟩ := bnd h
  obtain ⟨c, h⟩ := ite_bnd h
  exact ha.ok _ _ _ _ h1 ⟨tyE_ok c, hr.ok _ _ _ _ _ h k⟩⟩
def indexE : DV → EC := fun x xs => match xs with
  | [.d y] => (lsD emp x).bind fun ds => if (eqOk (.list ds) = true ∧ eqOk y = true) then (idxD y ds).map fun (j : Nat) => .d (.int j) else none
  | _ => none
instance : SM mIndex indexE := ⟨fun x xs v M K h k => by
  unfold indexE at h
  split at h
  · obtain ⟨ds, h1, h⟩ := bnd h
    obtain ⟨c, h⟩ := ite_bnd h
    obtain ⟨j, h2, h⟩ := mpd h
    subst h
    show oSome (lsD M x) _
    rw [lsD_emp h1]
    refine ⟨c.1, c.2, ?_⟩
    rw [h2]; exact k
  · cases h⟩
def qCIdx (ws : List Str) (a : EE) : EE := fun τ => (a τ).bind fun x => match x with
  | .d (.str z) => (idxD (.str z) (ws.map .str)).map fun (j : Nat) => .d (.int j)
  | _ => none
instance (ws : List Str) (a : DE) (a' : EE) [ha : SE a a'] : SE (dCIdx ws a) (qCIdx ws a') := ⟨fun τ v M K h k => by
  obtain ⟨x, h1, h⟩ := bnd h
  refine ha.ok _ _ _ _ h1 ?_
  split at h
  · obtain ⟨j, h2, h⟩ := mpd h
    subst h
    show oSome _ _
    rw [h2]; exact k
  · cases h⟩
def strsOf : List PyData → Option (List Str)
  | [] => some []
  | .str z :: r => (strsOf r).map (z :: ·)
  | _ :: _ => none
theorem strsOf_ok : ∀ {ds : List PyData} {zs : List Str}, strsOf ds = some zs → ds = zs.map .str
  | [], _, h => by cases h; rfl
  | .str z :: r, _, h => by
    obtain ⟨ys, h1, h⟩ := mpd h
    subst h
    rw [strsOf_ok h1]; rfl
  | .none :: _, _, h => by cases h
  | .bool _ :: _, _, h => by cases h
  | .int _ :: _, _, h => by cases h
  | .list _ :: _, _, h => by cases h
  | .tuple _ :: _, _, h => by cases h
  | .dict _ :: _, _, h => by cases h
theorem strsOf_map : ∀ zs : List Str, strsOf (zs.map .str) = some zs
  | [] => rfl
  | z :: zs => by show (strsOf (zs.map .str)).map _ = _; rw [strsOf_map zs]; rfl
def lenSetE (x : DV) : Option DV := match x with
  | .d (.tuple ds) => (strsOf ds).bind fun xs => if xs.length ≤ 4000 then some (.d (.int (dct xs))) else none
  | _ => none
def qLenSet (a : EE) : EE := fun τ => (a τ).bind lenSetE
instance (a : DE) (a' : EE) [ha : SE a a'] : SE (dLenSet a) (qLenSet a') := ⟨fun τ v M K h k => by
  obtain ⟨x, h1, h⟩ := bnd h
  refine ha.ok _ _ _ _ h1 ?_
  unfold lenSetE at h
  split at h
  · obtain ⟨xs, h2, h⟩ := bnd h
    obtain ⟨c, e⟩ := ite_some h
    subst e
    exact ⟨xs, strsOf_ok h2, c, k⟩
  · cases h⟩
/-! ### slices -/
def qNoP : EP := fun _ => some none
def qPart (a : EE) : EP := fun τ => ((a τ).bind asI).map some
instance : SPt dNoP qNoP := ⟨fun τ v M K h k => by cases h; exact k⟩
instance (a : DE) (a' : EE) [ha : SE a a'] : SPt (dPart a) (qPart a') := ⟨fun τ v M K h k => by
  obtain ⟨i, h1, h⟩ := mpd h
  subst h
  obtain ⟨x, h2, h3⟩ := bnd h1
  have := asI_some h3; subst this
  exact ha.ok _ _ _ _ h2 k⟩
def slE (x : DV) (lo hi : Option Int) : Option DV := match x with
  | .d (.str z) => some (.d (.str (cutS z lo hi)))
  | .d (.tuple ds) => some (.d (.tuple (cutL ds lo hi)))
  | .d (.list ds) => some (.d (.list (cutL ds lo hi)))
  | _ => none
def qSl (a : EE) (l h : EP) : EE := fun τ => (a τ).bind fun x => (l τ).bind fun i => (h τ).bind fun j => slE x i j
instance (a : DE) (a' : EE) (l h : DO') (l' h' : EP) [ha : SE a a'] [hl : SPt l l'] [hh : SPt h h'] : SE (dSl a l h) (qSl a' l' h') := ⟨fun τ v M K h k => by
  obtain ⟨x, h1, h⟩ := bnd h
  obtain ⟨i, h2, h⟩ := bnd h
  obtain ⟨j, h3, h⟩ := bnd h
  refine ha.ok _ _ _ _ h1 (hl.ok _ _ _ _ h2 (hh.ok _ _ _ _ h3 ?_))
  unfold slE at h
  split at h
  · cases h; exact k
  · cases h; exact k
  · cases h; exact k
  · cases h⟩
/-! ### what a loop walks -/
def itE (x : DV) : Option (List DV) := match x with
  | .d (.list ds) => some (ds.map .d)
  | .d (.tuple ds) => some (ds.map .d)
  | .d (.str z) => some ((chs z).map .d)
  | _ => none
def jSeq (a : EE) : EI := fun τ => (a τ).bind itE
instance (a : DE) (a' : EE) [ha : SE a a'] : SI (iSeq a) (jSeq a') := ⟨fun τ v M K h k => by
  obtain ⟨x, h1, h⟩ := bnd h
  refine ha.ok _ _ _ _ h1 ?_
  unfold itE at h
  split at h
  · cases h; exact k
  · cases h; exact k
  · cases h
    exact it_str (k := fun i s => K i s M) k
  · cases h⟩
def rgE (xs : List DV) : Option (List DV) := match xs with
  | [.d (.int j)] => if (-(2 ^ 62) ≤ j ∧ j ≤ 16777216) then some (rgD 0 j.toNat) else none
  | [.d (.int i), .d (.int j)] => if (-(2 ^ 61) ≤ i ∧ i < 2 ^ 61 ∧ -(2 ^ 61) ≤ j ∧ j - i ≤ 16777216) then some (rgD i (j - i).toNat) else none
  | _ => none
def jRg (a : EA) : EI := fun τ => (a τ).bind rgE
instance (a : DA) (a' : EA) [ha : SA a a'] : SI (iRg a) (jRg a') := ⟨fun τ v M K h k => by
  obtain ⟨x, h1, h⟩ := bnd h
  refine ha.ok _ _ _ _ h1 ?_
  unfold rgE at h
  split at h
  · obtain ⟨c, e⟩ := ite_some h; subst e; exact ⟨c, k⟩
  · obtain ⟨c, e⟩ := ite_some h; subst e; exact ⟨c, k⟩
  · cases h⟩
/-! ### comprehensions -/
def qYes : ET := fun _ => some true
instance : ST dYes qYes := ⟨fun τ v M K h k => by cases h; exact k⟩
def asD : DV → Option PyData
  | .d x => some x
  | _ => none
/-- xs filtered by the test and mapped, in Option -/
def fmE (f : DV → Option Ds) (g : ET) (h : EE) : List DV → Option (List PyData)
  | [] => some []
  | x :: xs => (f x).bind fun τ => (g τ).bind fun b => if b = true then ((h τ).bind asD).bind fun y => (fmE f g h xs).map (y :: ·) else fmE f g h xs
def qLc (wi : EI) (p : Pt) (tt : ET) (te : EE) (vs : List Nat) : EE := fun τ => (wi τ).bind fun items => (fmE (fun x => bindP p x (wipeS τ vs)) tt te items).map fun ys => .d (.list ys)
theorem lc_fm {D : Addr} {p : Pt} {tt : DT} {te : DE} {tt' : ET} {te' : EE} [ht : ST tt tt'] [he : SE te te'] {τ : Ds} : ∀ (xs : List DV) (ys acc : List PyData) (M : DH) (Q : List PyData → DH → Prop), M D = none → fmE (fun x => bindP p x τ) tt' te' xs = some ys → Q (acc ++ ys) M → lcD D (fun _ => True) p tt te τ xs acc M Q
  | [], _, acc, M, Q, hD, h, q => by
    cases h
    simpa [lcD] using q
  | x :: xs, ys, acc, M, Q, hD, h, q => by
    obtain ⟨τ1, h1, h⟩ := bnd h
    obtain ⟨b, h2, h⟩ := bnd h
    have h1 : bindP p x τ = some τ1 := h1
    show oSome (bindP p x τ) _
    rw [h1]
    refine ht.ok _ _ _ _ h2 ?_
    cases b with
    | true =>
      rw [if_pos rfl] at h ⊢
      obtain ⟨y, h3, h⟩ := bnd h
      obtain ⟨zs, h4, h⟩ := mpd h
      obtain ⟨d, h5, h6⟩ := bnd h3
      subst h
      unfold asD at h6
      split at h6
      · cases h6
        refine he.ok _ _ _ _ h5 ⟨_, M, rfl, rfl, hD, trivial, ?_⟩
        exact lc_fm xs zs _ M Q hD h4 (by simpa using q)
      · cases h6
    | false =>
      rw [if_neg Bool.false_ne_true] at h ⊢
      exact ⟨M, rfl, hD, trivial, lc_fm xs ys _ M Q hD h q⟩
instance (wi : DI) (p : Pt) (tt : DT) (te : DE) (vs : List Nat) (wi' : EI) (tt' : ET) (te' : EE) [hi : SI wi wi'] [ht : ST tt tt'] [he : SE te te'] : SE (dLc wi p tt te vs) (qLc wi' p tt' te' vs) := ⟨fun τ v M K h k => by
  obtain ⟨items, h1, h⟩ := bnd h
  obtain ⟨ys, h2, h⟩ := mpd h
  subst h
  exact hi.ok _ _ _ _ h1 ⟨trivial, fun D hD => lc_fm items ys [] M _ hD h2 (by simpa using k)⟩⟩
/-! ### statements -/
def qNext : ES := fun τ => some (.nx τ)
instance : SS dNext qNext := ⟨fun τ o M E h k => by cases h; exact k⟩
def qSeq (a b : ES) : ES := fun τ => (a τ).bind fun o => match o with
  | .nx τ' => b τ'
  | r => some r
instance (a b : DS) (a' b' : ES) [ha : SS a a'] [hb : SS b b'] : SS (dSeq a b) (qSeq a' b') := ⟨fun τ o M E h k => by
  obtain ⟨r, h1, h⟩ := bnd h
  refine ha.ok _ _ _ _ h1 ?_
  cases r with
  | nx τ' => exact hb.ok _ _ _ _ h k
  | rt x => cases h; exact k
  | bk τ' => cases h; exact k
  | ct τ' => cases h; exact k⟩
def qBreak : ES := fun τ => some (.bk τ)
def qCont : ES := fun τ => some (.ct τ)
instance : SS dBreak qBreak := ⟨fun τ o M E h k => by cases h; exact k⟩
instance : SS dCont qCont := ⟨fun τ o M E h k => by cases h; exact k⟩
def qDrop (a : EE) : ES := fun τ => (a τ).map fun _ => .nx τ
instance (a : DE) (a' : EE) [ha : SE a a'] : SS (dDrop a) (qDrop a') := ⟨fun τ o M E h k => by
  obtain ⟨x, h1, h⟩ := mpd h
  subst h
  exact ha.ok _ _ _ _ h1 k⟩
def qRet (a : EE) : ES := fun τ => (a τ).map .rt
instance (a : DE) (a' : EE) [ha : SE a a'] : SS (dRet a) (qRet a') := ⟨fun τ o M E h k => by
  obtain ⟨x, h1, h⟩ := mpd h
  subst h
  exact ha.ok _ _ _ _ h1 k⟩
def qRetN : ES := fun _ => some (.rt (.d .none))
instance : SS dRetN qRetN := ⟨fun τ o M E h k => by cases h; exact k⟩
def qIfS (c : ET) (a b : ES) : ES := fun τ => (c τ).bind fun k => if k = true then a τ else b τ
instance (c : DT) (a b : DS) (c' : ET) (a' b' : ES) [hc : ST c c'] [ha : SS a a'] [hb : SS b b'] : SS (dIfS c a b) (qIfS c' a' b') := ⟨fun τ o M E h k => by
  obtain ⟨x, h1, h⟩ := bnd h
  refine hc.ok _ _ _ _ h1 ?_
  cases x
  · exact hb.ok _ _ _ _ h k
  · exact ha.ok _ _ _ _ h k⟩
def qNever : ES := fun _ => none
instance : SS dNever qNever := ⟨fun τ o M E h k => by cases h⟩
def qAsg (a : EE) (p : Pt) : ES := fun τ => (a τ).bind fun x => (bindP p x τ).map .nx
instance (a : DE) (a' : EE) (p : Pt) [ha : SE a a'] : SS (dAsg a p) (qAsg a' p) := ⟨fun τ o M E h k => by
  obtain ⟨x, h1, h⟩ := bnd h
  obtain ⟨τ', h2, h⟩ := mpd h
  subst h
  refine ha.ok _ _ _ _ h1 ?_
  rw [h2]; exact k⟩
def qSet (a : EE) (i : Nat) : ES := fun τ => (a τ).map fun x => .nx (setS τ i x)
instance (a : DE) (a' : EE) (i : Nat) [ha : SE a a'] : SS (dSet a i) (qSet a' i) := ⟨fun τ o M E h k => by
  obtain ⟨x, h1, h⟩ := mpd h
  subst h
  exact ha.ok _ _ _ _ h1 k⟩
def qAug (i : Nat) (a : EE) (r : E2) : ES := fun τ => (slot τ i).bind fun x => (a τ).bind fun y => (r x y).map fun z => .nx (setS τ i z)
instance (i : Nat) (a : DE) (a' : EE) (r : D2) (r' : E2) [ha : SE a a'] [hr : S2 r r'] : SS (dAug i a r) (qAug i a' r') := ⟨fun τ o M E h k => by
  obtain ⟨x, h1, h⟩ := bnd h
  obtain ⟨y, h2, h⟩ := bnd h
  obtain ⟨z, h3, h⟩ := mpd h
  subst h
  unfold dAug gotV
  rw [h1]
  exact ha.ok _ _ _ _ h2 (hr.ok _ _ _ _ _ h3 k)⟩
def loopE (p : Pt) (tb : ES) : List DV → Ds → Option EO
  | [], τ => some (.nx τ)
  | x :: xs, τ => (bindP p x τ).bind fun τ1 => (tb τ1).bind fun o => match o with
    | .nx τ2 => loopE p tb xs τ2
    | .ct τ2 => loopE p tb xs τ2
    | .bk τ2 => some (.nx τ2)
    | .rt v => some (.rt v)
def qFor (wi : EI) (p : Pt) (tb : ES) : ES := fun τ => (wi τ).bind fun items => loopE p tb items τ
theorem loop_ok {p : Pt} {tb : DS} {tb' : ES} [hb : SS tb tb'] {E : DEnds} {M : DH} : ∀ (xs : List DV) (τ : Ds) (o : EO), loopE p tb' xs τ = some o → endE E M o → loopD (fun _ => True) p tb E xs τ M
  | [], τ, o, h, k => by cases h; exact k
  | x :: xs, τ, o, h, k => by
    obtain ⟨τ1, h1, h⟩ := bnd h
    obtain ⟨r, h2, h⟩ := bnd h
    show oSome (bindP p x τ) _
    rw [h1]
    refine hb.ok _ _ _ _ h2 ?_
    cases r with
    | nx τ2 => exact ⟨trivial, loop_ok xs τ2 o h k⟩
    | ct τ2 => exact ⟨trivial, loop_ok xs τ2 o h k⟩
    | bk τ2 => cases h; exact k
    | rt v => cases h; exact k
instance (wi : DI) (wi' : EI) (p : Pt) (tb : DS) (tb' : ES) [hi : SI wi wi'] [hb : SS tb tb'] : SS (dFor wi p tb) (qFor wi' p tb') := ⟨fun τ o M E h k => by
  obtain ⟨items, h1, h⟩ := bnd h
  exact hi.ok _ _ _ _ h1 ⟨trivial, loop_ok items τ o h k⟩⟩
/-- with at most n turns -/
def whE (c : ET) (tb : ES) : Nat → Ds → Option EO
  | 0, _ => none
  | n + 1, τ => (c τ).bind fun b => if b = true then (tb τ).bind fun o => match o with
    | .nx τ2 => whE c tb n τ2
    | .ct τ2 => whE c tb n τ2
    | .bk τ2 => some (.nx τ2)
    | .rt v => some (.rt v)
    else some (.nx τ)
def qWhile (n : Nat) (c : ET) (tb : ES) : ES := fun τ => whE c tb n τ
theorem sim_while {c : DT} {tb : DS} {c' : ET} {tb' : ES} (n : Nat) [hc : ST c c'] [hb : SS tb tb'] : ∀ τ o M E, qWhile n c' tb' τ = some o → endE E M o → dWhile c tb E τ M := fun τ o M E h k => by
  refine ⟨fun m τ' M' => M' = M ∧ whE c' tb' m τ' = some o, ⟨n, rfl, h⟩, ?_⟩
  rintro m τ' M' ⟨e, h⟩
  rw [e]
  cases m with
  | zero => cases h
  | succ m =>
    obtain ⟨b, h1, h⟩ := bnd h
    refine hc.ok _ _ _ _ h1 ?_
    cases b with
    | false =>
      rw [if_neg Bool.false_ne_true] at h ⊢
      cases h; exact k
    | true =>
      rw [if_pos rfl] at h ⊢
      obtain ⟨r, h2, h⟩ := bnd h
      refine hb.ok _ _ _ _ h2 ?_
      cases r with
      | nx τ2 => exact ⟨m, Nat.lt_succ_self m, rfl, h⟩
      | ct τ2 => exact ⟨m, Nat.lt_succ_self m, rfl, h⟩
      | bk τ2 => cases h; exact k
      | rt v => cases h; exact k
/-! ### a def -/
def endV (o : Option EO) : Option DV := o.bind fun r => match r with
  | .nx _ => some (.d .none)
  | .rt v => some v
  | _ => none
/-- the def's answer: n slots, k params -/
def runE (g : ES) (n k : Nat) : EC := fun xs => if xs.length = k then endV (g (startD n xs)) else none
theorem runE_len {g : ES} {n k : Nat} : ∀ xs M Q, SpE (runE g n k) xs M Q → xs.length = k := fun xs M Q ⟨v, h, _⟩ => (ite_bnd h).1
theorem runE_ok {t : DS} {g : ES} {n k : Nat} (h : SS t g) : ∀ xs M Q, SpE (runE g n k) xs M Q → t { nx := fun _ M' => Q (.d .none) M', rt := Q } (startD n xs) M := fun xs M Q ⟨v, h1, q⟩ => by
  obtain ⟨_, h1⟩ := ite_bnd h1
  obtain ⟨r, h2, h1⟩ := bnd h1
  refine h.ok _ _ _ _ h2 ?_
  cases r with
  | nx τ => cases h1; exact q
  | rt x => cases h1; exact q
  | bk τ => cases h1
  | ct τ => cases h1
end VS
namespace VS
open PySem L2
def fuel : Nat := 1000000
instance (c : DT) (tb : DS) (c' : ET) (tb' : ES) [hc : ST c c'] [hb : SS tb tb'] : SS (dWhile c tb) (qWhile fuel c' tb') := ⟨fun τ o M E h k => sim_while fuel τ o M E h k⟩
theorem whE_mono {c : ET} {tb : ES} {o : EO} : ∀ {n m : Nat} {τ : Ds}, n ≤ m → whE c tb n τ = some o → whE c tb m τ = some o
  | 0, _, _, _, h => by cases h
  | n + 1, 0, _, hm, _ => by omega
  | n + 1, m + 1, τ, hm, h => by
    unfold whE at h ⊢
    obtain ⟨b, h1, h⟩ := bnd h
    rw [h1]
    show (if b = true then _ else _) = _
    cases b with
    | false => exact h
    | true =>
      rw [if_pos rfl] at h ⊢
      obtain ⟨r, h2, h⟩ := bnd h
      rw [h2]
      cases r with
      | nx τ2 => exact whE_mono (Nat.le_of_succ_le_succ hm) h
      | ct τ2 => exact whE_mono (Nat.le_of_succ_le_succ hm) h
      | bk τ2 => exact h
      | rt v => exact h
end VS

end

section
set_option Elab.async false
set_option linter.all false
set_option maxRecDepth 100000
set_option maxHeartbeats 4000000
/-! Values that are the same; lemmas on loops of reading defs. -/
namespace VS
open PySem L2
mutual
def sameD : PyData → PyData → Bool
  | .none, .none => true
  | .bool a, .bool b => a == b
  | .int a, .int b => decide (a = b)
  | .str a, .str b => decide (a = b)
  | .list a, .list b => sameDs a b
  | .tuple a, .tuple b => sameDs a b
  | .dict a, .dict b => sameKV a b
  | _, _ => false
def sameDs : List PyData → List PyData → Bool
  | [], [] => true
  | a :: r, b :: s => sameD a b && sameDs r s
  | _, _ => false
def sameKV : List (PyData × PyData) → List (PyData × PyData) → Bool
  | [], [] => true
  | (a, b) :: r, (c, d) :: s => sameD a c && sameD b d && sameKV r s
  | _, _ => false
end
mutual
theorem sameD_eq : ∀ {a b : PyData}, sameD a b = true → a = b
  | .none, .none, _ => rfl
  | .bool a, .bool b, h => by simp only [sameD, beq_iff_eq] at h; rw [h]
  | .int a, .int b, h => by simp only [sameD, decide_eq_true_eq] at h; rw [h]
  | .str a, .str b, h => by simp only [sameD, decide_eq_true_eq] at h; rw [h]
  | .list a, .list b, h => by simp only [sameD] at h; rw [sameDs_eq h]
  | .tuple a, .tuple b, h => by simp only [sameD] at h; rw [sameDs_eq h]
  | .dict a, .dict b, h => by simp only [sameD] at h; rw [sameKV_eq h]
  | .none, .bool _, h | .none, .int _, h | .none, .str _, h | .none, .list _, h | .none, .tuple _, h | .none, .dict _, h => by simp [sameD] at h
  | .bool _, .none, h | .bool _, .int _, h | .bool _, .str _, h | .bool _, .list _, h | .bool _, .tuple _, h | .bool _, .dict _, h => by simp [sameD] at h
  | .int _, .none, h | .int _, .bool _, h | .int _, .str _, h | .int _, .list _, h | .int _, .tuple _, h | .int _, .dict _, h => by simp [sameD] at h
  | .str _, .none, h | .str _, .bool _, h | .str _, .int _, h | .str _, .list _, h | .str _, .tuple _, h | .str _, .dict _, h => by simp [sameD] at h
  | .list _, .none, h | .list _, .bool _, h | .list _, .int _, h | .list _, .str _, h | .list _, .tuple _, h | .list _, .dict _, h => by simp [sameD] at h
  | .tuple _, .none, h | .tuple _, .bool _, h | .tuple _, .int _, h | .tuple _, .str _, h | .tuple _, .list _, h | .tuple _, .dict _, h => by simp [sameD] at h
  | .dict _, .none, h | .dict _, .bool _, h | .dict _, .int _, h | .dict _, .str _, h | .dict _, .list _, h | .dict _, .tuple _, h => by simp [sameD] at h
theorem sameDs_eq : ∀ {a b : List PyData}, sameDs a b = true → a = b
  | [], [], _ => rfl
  | a :: r, b :: s, h => by
    simp only [sameDs, Bool.and_eq_true] at h
    rw [sameD_eq h.1, sameDs_eq h.2]
  | [], _ :: _, h => by simp [sameDs] at h
  | _ :: _, [], h => by simp [sameDs] at h
theorem sameKV_eq : ∀ {a b : List (PyData × PyData)}, sameKV a b = true → a = b
  | [], [], _ => rfl
  | (a, b) :: r, (c, d) :: s, h => by
    simp only [sameKV, Bool.and_eq_true] at h
    rw [sameD_eq h.1.1, sameD_eq h.1.2, sameKV_eq h.2]
  | [], _ :: _, h => by simp [sameKV] at h
  | _ :: _, [], h => by simp [sameKV] at h
end
def isV (o : Option DV) (d : PyData) : Bool := match o with
  | some (.d x) => sameD x d
  | _ => false
theorem isV_eq {o : Option DV} {d : PyData} (h : isV o d = true) : o = some (.d d) := by
  unfold isV at h; split at h
  · rw [sameD_eq h]
  · cases h
/-- answers True / False -/
abbrev BB (b : Bool) : Option DV := some (.d (.bool b))
/-! ### comprehensions -/
theorem fm_map {f : DV → Option Ds} {h : EE} (k : PyData → PyData) : ∀ (xs : List PyData), (∀ x ∈ xs, ∃ τ, f (.d x) = some τ ∧ h τ = some (.d (k x))) → fmE f qYes h (xs.map .d) = some (xs.map k)
  | [], _ => rfl
  | x :: xs, H => by
    obtain ⟨τ, h1, h2⟩ := H x List.mem_cons_self
    show (f (.d x)).bind _ = _
    rw [h1]
    show ((h τ).bind asD).bind _ = _
    rw [h2, fm_map k xs fun y hy => H y (List.mem_cons_of_mem _ hy)]
    rfl
theorem fm_filter {f : DV → Option Ds} {g : ET} {h : EE} (b : PyData → Bool) (k : PyData → PyData) : ∀ (xs : List PyData), (∀ x ∈ xs, ∃ τ, f (.d x) = some τ ∧ g τ = some (b x) ∧ (b x = true → h τ = some (.d (k x)))) → fmE f g h (xs.map .d) = some ((xs.filter b).map k)
  | [], _ => rfl
  | x :: xs, H => by
    obtain ⟨τ, h1, h2, h3⟩ := H x List.mem_cons_self
    have ih := fm_filter b k xs fun y hy => H y (List.mem_cons_of_mem _ hy)
    show (f (.d x)).bind _ = _
    rw [h1]
    show (g τ).bind _ = _
    rw [h2]
    show (if b x = true then _ else _) = _
    cases hb : b x with
    | true =>
      rw [if_pos rfl, h3 hb, ih, List.filter_cons, hb]
      rfl
    | false =>
      rw [if_neg Bool.false_ne_true, ih, List.filter_cons, hb]
      rfl
theorem bools_map' (g : PyData → Bool) : ∀ xs : List PyData, boolsOf (xs.map fun x => PyData.bool (g x)) = some (xs.map g)
  | xs => boolsOf_map g xs
theorem allE_b (g : PyData → Bool) (xs : List PyData) : allE (.d (.list (xs.map fun x => .bool (g x)))) = BB (xs.all g) := by
  show (some (xs.map fun x => PyData.bool (g x))).bind _ = _
  show (boolsOf _).map _ = _
  rw [bools_map']
  show some (DV.d (.bool ((xs.map g).all id))) = _
  rw [List.all_map]; rfl
theorem anyE_b (g : PyData → Bool) (xs : List PyData) : anyE (.d (.list (xs.map fun x => .bool (g x)))) = BB (xs.any g) := by
  show (some (xs.map fun x => PyData.bool (g x))).bind _ = _
  show (boolsOf _).map _ = _
  rw [bools_map']
  show some (DV.d (.bool ((xs.map g).any id))) = _
  rw [List.any_map]; rfl
/-- [e for p in xs] -/
theorem qLc_map {wi : EI} {p : Pt} {te : EE} {vs : List Nat} {τ : Ds} (k : PyData → PyData) (xs : List PyData) (hi : wi τ = some (xs.map .d)) (H : ∀ x ∈ xs, ∃ τ1, bindP p (.d x) (wipeS τ vs) = some τ1 ∧ te τ1 = some (.d (k x))) : qLc wi p qYes te vs τ = some (.d (.list (xs.map k))) := by
  show (wi τ).bind _ = _
  rw [hi]
  show (fmE _ _ _ _).map _ = _
  rw [fm_map k xs H]; rfl
theorem qLc_filter {wi : EI} {p : Pt} {tt : ET} {te : EE} {vs : List Nat} {τ : Ds} (b : PyData → Bool) (k : PyData → PyData) (xs : List PyData) (hi : wi τ = some (xs.map .d)) (H : ∀ x ∈ xs, ∃ τ1, bindP p (.d x) (wipeS τ vs) = some τ1 ∧ tt τ1 = some (b x) ∧ (b x = true → te τ1 = some (.d (k x)))) : qLc wi p tt te vs τ = some (.d (.list ((xs.filter b).map k))) := by
  show (wi τ).bind _ = _
  rw [hi]
  show (fmE _ _ _ _).map _ = _
  rw [fm_filter b k xs H]; rfl
/-- all([e for p in xs]) -/
theorem qAll_map {wi : EI} {p : Pt} {te : EE} {vs : List Nat} {τ : Ds} (g : PyData → Bool) (xs : List PyData) (hi : wi τ = some (xs.map .d)) (H : ∀ x ∈ xs, ∃ τ1, bindP p (.d x) (wipeS τ vs) = some τ1 ∧ te τ1 = BB (g x)) : qCall (q1 allE) (qCons (qLc wi p qYes te vs) qNil) τ = BB (xs.all g) := by
  have h := qLc_map (fun x => .bool (g x)) xs hi H
  show ((qLc wi p qYes te vs τ).bind fun x => (some ([] : List DV)).bind fun ys => some (x :: ys)).bind _ = _
  rw [h]
  exact allE_b g xs
theorem qAny_map {wi : EI} {p : Pt} {te : EE} {vs : List Nat} {τ : Ds} (g : PyData → Bool) (xs : List PyData) (hi : wi τ = some (xs.map .d)) (H : ∀ x ∈ xs, ∃ τ1, bindP p (.d x) (wipeS τ vs) = some τ1 ∧ te τ1 = BB (g x)) : qCall (q1 anyE) (qCons (qLc wi p qYes te vs) qNil) τ = BB (xs.any g) := by
  have h := qLc_map (fun x => .bool (g x)) xs hi H
  show ((qLc wi p qYes te vs τ).bind fun x => (some ([] : List DV)).bind fun ys => some (x :: ys)).bind _ = _
  rw [h]
  exact anyE_b g xs
/-! ### a loop: an invariant by the number of turns -/
theorem loop_inv {p : Pt} {tb : ES} (I : Nat → Ds → Prop) : ∀ (xs : List DV) (n : Nat) (τ : Ds), I n τ → (∀ i x τ, xs[i]? = some x → I (n + i) τ → ∃ τ1 τ2, bindP p x τ = some τ1 ∧ (tb τ1 = some (.nx τ2) ∨ tb τ1 = some (.ct τ2)) ∧ I (n + i + 1) τ2) → ∃ τ', loopE p tb xs τ = some (.nx τ') ∧ I (n + xs.length) τ'
  | [], n, τ, h, _ => ⟨τ, rfl, h⟩
  | x :: xs, n, τ, h, H => by
    obtain ⟨τ1, τ2, h1, h2, h3⟩ := H 0 x τ rfl h
    have ih := loop_inv I xs (n + 1) τ2 h3 fun i y τ e hi => by
      have := H (i + 1) y τ (by simpa using e) (by rw [show n + (i + 1) = n + 1 + i by omega]; exact hi)
      rw [show n + (i + 1) + 1 = n + 1 + i + 1 by omega] at this
      exact this
    obtain ⟨τ', g1, g2⟩ := ih
    refine ⟨τ', ?_, by rw [List.length_cons, show n + (xs.length + 1) = n + 1 + xs.length by omega]; exact g2⟩
    show (bindP p x τ).bind _ = _
    rw [h1]
    show (tb τ1).bind _ = _
    rcases h2 with h2 | h2 <;> (rw [h2]; exact g1)
/-- a loop that goes its first part and then ends with an answer -/
theorem loop_append {p : Pt} {tb : ES} : ∀ (xs ys : List DV) (τ τ' : Ds), loopE p tb xs τ = some (.nx τ') → (∀ τ, (∃ x ∈ xs, ∃ τ1, bindP p x τ = some τ1) → True) → (∀ x ∈ xs, ∀ τ1 τ2, tb τ1 = some (.bk τ2) → False) → loopE p tb (xs ++ ys) τ = loopE p tb ys τ'
  | [], ys, τ, τ', h, _, _ => by cases h; rfl
  | x :: xs, ys, τ, τ', h, a, nb => by
    obtain ⟨τ1, h1, h⟩ := bnd h
    obtain ⟨r, h2, h⟩ := bnd h
    show (bindP p x τ).bind _ = _
    rw [h1]
    show (tb τ1).bind _ = _
    rw [h2]
    cases r with
    | nx τ2 => exact loop_append xs ys τ2 τ' h (fun _ _ => trivial) fun y hy => nb y (List.mem_cons_of_mem _ hy)
    | ct τ2 => exact loop_append xs ys τ2 τ' h (fun _ _ => trivial) fun y hy => nb y (List.mem_cons_of_mem _ hy)
    | bk τ2 => exact (nb x List.mem_cons_self τ1 τ2 h2).elim
    | rt v => cases h
/-! ### sequences -/
theorem seq_nx {a b : ES} {τ τ' : Ds} (h : a τ = some (.nx τ')) : qSeq a b τ = b τ' := by
  show (a τ).bind _ = _
  rw [h]; rfl
theorem seq_rt {a b : ES} {τ : Ds} {v : DV} (h : a τ = some (.rt v)) : qSeq a b τ = some (.rt v) := by
  show (a τ).bind _ = _
  rw [h]; rfl
theorem set_nx {a : EE} {i : Nat} {τ : Ds} {v : DV} (h : a τ = some v) : qSet a i τ = some (.nx (setS τ i v)) := by
  show (a τ).map _ = _
  rw [h]; rfl
theorem ret_rt {a : EE} {τ : Ds} {v : DV} (h : a τ = some v) : qRet a τ = some (.rt v) := by
  show (a τ).map _ = _
  rw [h]; rfl
theorem ifs_t {c : ET} {a b : ES} {τ : Ds} (h : c τ = some true) : qIfS c a b τ = a τ := by
  show (c τ).bind _ = _
  rw [h]; rfl
theorem ifs_f {c : ET} {a b : ES} {τ : Ds} (h : c τ = some false) : qIfS c a b τ = b τ := by
  show (c τ).bind _ = _
  rw [h]; rfl
theorem if_skip {c : ET} {a b : ES} {τ : Ds} (h : c τ = some false) : qSeq (qIfS c a qNext) b τ = b τ := by
  refine seq_nx ?_
  rw [ifs_f h]; rfl
theorem if_ret {c : ET} {a u b : ES} {τ : Ds} {v : DV} (h : c τ = some true) (h2 : a τ = some (.rt v)) : qSeq (qIfS c a u) b τ = some (.rt v) := by
  refine seq_rt ?_
  rw [ifs_t h, h2]
theorem set_seq {a : EE} {i : Nat} {b : ES} {τ : Ds} {v : DV} (h : a τ = some v) : qSeq (qSet a i) b τ = b (setS τ i v) := seq_nx (set_nx h)
theorem asg_seq {a : EE} {p : Pt} {b : ES} {τ τ' : Ds} {v : DV} (h : a τ = some v) (h2 : bindP p v τ = some τ') : qSeq (qAsg a p) b τ = b τ' := by
  refine seq_nx ?_
  show (a τ).bind _ = _
  rw [h]
  show (bindP p v τ).map _ = _
  rw [h2]; rfl
theorem for_seq {wi : EI} {p : Pt} {tb b : ES} {τ τ' : Ds} {xs : List DV} (h : wi τ = some xs) (h2 : loopE p tb xs τ = some (.nx τ')) : qSeq (qFor wi p tb) b τ = b τ' := by
  refine seq_nx ?_
  show (wi τ).bind _ = _
  rw [h]; exact h2
theorem for_ret {wi : EI} {p : Pt} {tb b : ES} {τ : Ds} {v : DV} {xs : List DV} (h : wi τ = some xs) (h2 : loopE p tb xs τ = some (.rt v)) : qSeq (qFor wi p tb) b τ = some (.rt v) := by
  refine seq_rt ?_
  show (wi τ).bind _ = _
  rw [h]; exact h2
theorem or_q {a b : ET} {τ : Ds} {x y : Bool} (h : a τ = some x) (h2 : x = false → b τ = some y) : qOr a b τ = some (x || y) := by
  show (a τ).bind _ = _
  rw [h]
  cases x
  · exact h2 rfl
  · rfl
theorem and_q {a b : ET} {τ : Ds} {x y : Bool} (h : a τ = some x) (h2 : x = true → b τ = some y) : qAnd a b τ = some (x && y) := by
  show (a τ).bind _ = _
  rw [h]
  cases x
  · rfl
  · exact h2 rfl
theorem not_q {a : ET} {τ : Ds} {x : Bool} (h : a τ = some x) : qNot a τ = some (!x) := by
  show (a τ).map _ = _
  rw [h]; rfl
theorem andV_q {a b : EE} {τ : Ds} {x y : Bool} (h : a τ = BB x) (h2 : x = true → b τ = BB y) : qAndV a b τ = BB (x && y) := by
  show ((a τ).bind _).bind _ = _
  rw [h]
  cases x
  · rfl
  · exact h2 rfl
theorem orV_q {a b : EE} {τ : Ds} {x y : Bool} (h : a τ = BB x) (h2 : x = false → b τ = BB y) : qOrV a b τ = BB (x || y) := by
  show ((a τ).bind _).bind _ = _
  rw [h]
  cases x
  · exact h2 rfl
  · rfl
theorem notV_q {a : EE} {τ : Ds} {x : Bool} (h : a τ = BB x) : qNotV a τ = BB (!x) := by
  show ((a τ).bind _).map _ = _
  rw [h]; rfl
theorem tru_q {a : EE} {τ : Ds} {x : Bool} (h : a τ = BB x) : qTru a τ = some x := by
  show (a τ).bind _ = _
  rw [h]; rfl
theorem test_q {a : EE} {τ : Ds} {x : Bool} (h : a τ = BB x) : qTest a τ = some x := by
  show (a τ).bind _ = _
  rw [h]; rfl
theorem eqE_ss {a b : Str} : eqE (.d (.str a)) (.d (.str b)) = some (decide (a = b)) := by
  show some (PyData.eqv _ _) = _
  rw [eqv_ss, str_beq]
theorem eqE_ii {a b : Int} : eqE (.d (.int a)) (.d (.int b)) = some (decide (a = b)) := by
  show some (PyData.eqv _ _) = _
  rw [eqv_ii, int_beq]
theorem op_q {r : E2} {a b : EE} {τ : Ds} {x y z : DV} (h : a τ = some x) (h2 : b τ = some y) (h3 : r x y = some z) : qOp r a b τ = some z := by
  show (a τ).bind _ = _
  rw [h]
  show (b τ).bind _ = _
  rw [h2]; exact h3
theorem call_q {r : EC} {a : EA} {τ : Ds} {xs : List DV} {z : DV} (h : a τ = some xs) (h3 : r xs = some z) : qCall r a τ = some z := by
  show (a τ).bind _ = _
  rw [h]; exact h3
theorem cons_q {a : EE} {b : EA} {τ : Ds} {x : DV} {xs : List DV} (h : a τ = some x) (h2 : b τ = some xs) : qCons a b τ = some (x :: xs) := by
  show (a τ).bind _ = _
  rw [h]
  show (b τ).bind _ = _
  rw [h2]; rfl
theorem neV_ii {i j : Int} : qNeV (.d (.int i)) (.d (.int j)) = BB (!decide (i = j)) := by unfold qNeV; rw [eqE_ii]; rfl
theorem neV_ss {i j : Str} : qNeV (.d (.str i)) (.d (.str j)) = BB (!decide (i = j)) := by unfold qNeV; rw [eqE_ss]; rfl
theorem eqV_ii {i j : Int} : qEqV (.d (.int i)) (.d (.int j)) = BB (decide (i = j)) := by unfold qEqV; rw [eqE_ii]; rfl
theorem eqV_ss {i j : Str} : qEqV (.d (.str i)) (.d (.str j)) = BB (decide (i = j)) := by unfold qEqV; rw [eqE_ss]; rfl
theorem run_rt {g : ES} {n k : Nat} {xs : List DV} {v : DV} (hl : xs.length = k) (h : g (startD n xs) = some (.rt v)) : runE g n k xs = some v := by
  unfold runE
  rw [if_pos hl, h]; rfl
theorem inE_strs {z : Str} {ws : List Str} : inE (.d (.str z)) (.d (.list (ws.map .str))) = some (decide (z ∈ ws)) := by
  show (seqD emp (.d (.list (ws.map .str)))).bind _ = _
  have : seqD emp (.d (.list (ws.map .str))) = some (ws.map .str) := dAll_of_map _
  rw [this]
  show (if okIn _ _ _ = true then _ else _) = _
  have h : okIn (.str z) (.d (.list (ws.map .str))) (ws.map .str) = true := by
    unfold okIn
    rw [flat_strs]
    rfl
  rw [if_pos h, any_eqv]
theorem inE_strT {z : Str} {ws : List Str} : inE (.d (.str z)) (.d (.tuple (ws.map .str))) = some (decide (z ∈ ws)) := by
  show (seqD emp (.d (.tuple (ws.map .str)))).bind _ = _
  have : seqD emp (.d (.tuple (ws.map .str))) = some (ws.map .str) := dAll_of_map _
  rw [this]
  show (if okIn _ _ _ = true then _ else _) = _
  have h : okIn (.str z) (.d (.tuple (ws.map .str))) (ws.map .str) = true := by
    unfold okIn
    rw [flat_strs]
    rfl
  rw [if_pos h, any_eqv]
end VS

end

section
set_option Elab.async false
set_option linter.all false
set_option maxRecDepth 100000
set_option maxHeartbeats 4000000
/-! == between data without True, False and dicts. -/
namespace VS
open PySem L2
mutual
theorem sameD_refl : ∀ a : PyData, sameD a a = true
  | .none => by simp [sameD]
  | .bool a => by simp [sameD]
  | .int a => by simp [sameD]
  | .str a => by simp [sameD]
  | .list a => by simp only [sameD]; exact sameDs_refl a
  | .tuple a => by simp only [sameD]; exact sameDs_refl a
  | .dict a => by simp only [sameD]; exact sameKV_refl a
theorem sameDs_refl : ∀ a : List PyData, sameDs a a = true
  | [] => by simp [sameDs]
  | a :: r => by simp only [sameDs, Bool.and_eq_true]; exact ⟨sameD_refl a, sameDs_refl r⟩
theorem sameKV_refl : ∀ a : List (PyData × PyData), sameKV a a = true
  | [] => by simp [sameKV]
  | (a, b) :: r => by simp only [sameKV, Bool.and_eq_true]; exact ⟨⟨sameD_refl a, sameD_refl b⟩, sameKV_refl r⟩
end
instance : DecidableEq PyData := fun a b => decidable_of_iff (sameD a b = true) ⟨sameD_eq, fun h => by rw [h]; exact sameD_refl b⟩
mutual
def plain : PyData → Bool
  | .none | .int _ | .str _ => true
  | .list xs | .tuple xs => plains xs
  | .bool _ | .dict _ => false
def plains : List PyData → Bool
  | [] => true
  | x :: xs => plain x && plains xs
end
theorem plains_all : ∀ {xs : List PyData}, plains xs = xs.all plain
  | [] => rfl
  | x :: xs => by simp only [plains, List.all_cons]; rw [plains_all]
mutual
theorem eqv_plain : ∀ {a b : PyData}, plain a = true → plain b = true → PyData.eqv a b = decide (a = b)
  | .none, .none, _, _ => by simp [PyData.eqv]
  | .int a, .int b, _, _ => by rw [eqv_ii, int_beq]; congr 1; simp
  | .str a, .str b, _, _ => by rw [eqv_ss, str_beq]; congr 1; simp
  | .list a, .list b, h, g => by
    simp only [plain] at h g
    simp only [PyData.eqv]
    rw [eqvs_plain h g]
    congr 1; simp
  | .tuple a, .tuple b, h, g => by
    simp only [plain] at h g
    simp only [PyData.eqv]
    rw [eqvs_plain h g]
    congr 1; simp
  | .none, .int _, _, _ | .none, .str _, _, _ | .none, .list _, _, _ | .none, .tuple _, _, _ => by simp [PyData.eqv]
  | .int _, .none, _, _ | .int _, .str _, _, _ | .int _, .list _, _, _ | .int _, .tuple _, _, _ => by simp [PyData.eqv]
  | .str _, .none, _, _ | .str _, .int _, _, _ | .str _, .list _, _, _ | .str _, .tuple _, _, _ => by simp [PyData.eqv]
  | .list _, .none, _, _ | .list _, .int _, _, _ | .list _, .str _, _, _ | .list _, .tuple _, _, _ => by simp [PyData.eqv]
  | .tuple _, .none, _, _ | .tuple _, .int _, _, _ | .tuple _, .str _, _, _ | .tuple _, .list _, _, _ => by simp [PyData.eqv]
  | .bool _, _, h, _ => by simp [plain] at h
  | .dict _, _, h, _ => by simp [plain] at h
  | _, .bool _, _, h => by simp [plain] at h
  | _, .dict _, _, h => by simp [plain] at h
theorem eqvs_plain : ∀ {a b : List PyData}, plains a = true → plains b = true → PyData.eqvAll a b = decide (a = b)
  | [], [], _, _ => by simp [PyData.eqvAll]
  | a :: r, b :: s, h, g => by
    simp only [plains, Bool.and_eq_true] at h g
    simp only [PyData.eqvAll]
    rw [eqv_plain h.1 g.1, eqvs_plain h.2 g.2]
    rw [← Bool.decide_and]
    congr 1; simp
  | [], _ :: _, _, _ => by simp [PyData.eqvAll]
  | _ :: _, [], _, _ => by simp [PyData.eqvAll]
end
mutual
theorem plain_noDict : ∀ {a : PyData}, plain a = true → noDict a = true
  | .none, _ => rfl
  | .int _, _ => rfl
  | .str _, _ => rfl
  | .list xs, h => plains_noDict (xs := xs) h
  | .tuple xs, h => plains_noDict (xs := xs) h
  | .bool _, h => by simp [plain] at h
  | .dict _, h => by simp [plain] at h
theorem plains_noDict : ∀ {xs : List PyData}, plains xs = true → noDictAll xs = true
  | [], _ => rfl
  | x :: xs, h => by
    simp only [plains, Bool.and_eq_true] at h
    show (noDict x && noDictAll xs) = true
    rw [plain_noDict h.1, plains_noDict h.2]; rfl
end
/-- plain, and at most n deep -/
def Pl (n : Nat) (a : PyData) : Prop := plain a = true ∧ a.depth ≤ n
theorem Pl.eqOk {n : Nat} {a : PyData} (h : Pl n a) (hn : n ≤ 64) : eqOk a = true := by
  unfold VS.eqOk
  rw [plain_noDict h.1, decide_eq_true (Nat.le_trans h.2 hn)]; rfl
theorem eqE_pl {a b : PyData} {n : Nat} (h : Pl n a) (g : Pl n b) (hn : n ≤ 64) : eqE (.d a) (.d b) = some (decide (a = b)) := by
  show (if eqOk a && eqOk b then some (PyData.eqv a b) else none) = _
  rw [h.eqOk hn, g.eqOk hn, eqv_plain h.1 g.1]; rfl
theorem Pl.str {n : Nat} (z : Str) : Pl n (.str z) := ⟨rfl, by show PyData.depth _ ≤ _; simp [PyData.depth]⟩
theorem Pl.int {n : Nat} (z : Int) : Pl n (.int z) := ⟨rfl, by show PyData.depth _ ≤ _; simp [PyData.depth]⟩
theorem Pl.non {n : Nat} : Pl n .none := ⟨rfl, by show PyData.depth _ ≤ _; simp [PyData.depth]⟩
theorem depthAll_le {n : Nat} : ∀ {xs : List PyData}, (∀ x ∈ xs, x.depth ≤ n) → PyData.depthAll xs ≤ n
  | [], _ => by simp [PyData.depthAll]
  | x :: xs, h => by
    have h1 := h x List.mem_cons_self
    have h2 := depthAll_le (n := n) fun y hy => h y (List.mem_cons_of_mem _ hy)
    simp only [PyData.depthAll]
    omega
theorem Pl.tup {n : Nat} {xs : List PyData} (h : ∀ x ∈ xs, Pl n x) : Pl (n + 1) (.tuple xs) := ⟨by
  show plains xs = true
  rw [plains_all, List.all_eq_true]; exact fun x hx => (h x hx).1, by
  have := depthAll_le (n := n) fun x hx => (h x hx).2
  simp only [PyData.depth]
  omega⟩
theorem Pl.lst {n : Nat} {xs : List PyData} (h : ∀ x ∈ xs, Pl n x) : Pl (n + 1) (.list xs) := ⟨by
  show plains xs = true
  rw [plains_all, List.all_eq_true]; exact fun x hx => (h x hx).1, by
  have := depthAll_le (n := n) fun x hx => (h x hx).2
  simp only [PyData.depth]
  omega⟩
theorem Pl.strs {n : Nat} (zs : List Str) : Pl (n + 1) (.tuple (zs.map .str)) := Pl.tup fun x hx => by
  obtain ⟨z, _, rfl⟩ := List.mem_map.mp hx
  exact Pl.str z
theorem Pl.strsL {n : Nat} (zs : List Str) : Pl (n + 1) (.list (zs.map .str)) := Pl.lst fun x hx => by
  obtain ⟨z, _, rfl⟩ := List.mem_map.mp hx
  exact Pl.str z
theorem neV_pl {a b : PyData} {n : Nat} (h : Pl n a) (g : Pl n b) (hn : n ≤ 64) : qNeV (.d a) (.d b) = BB (!decide (a = b)) := by unfold qNeV; rw [eqE_pl h g hn]; rfl
theorem eqV_pl {a b : PyData} {n : Nat} (h : Pl n a) (g : Pl n b) (hn : n ≤ 64) : qEqV (.d a) (.d b) = BB (decide (a = b)) := by unfold qEqV; rw [eqE_pl h g hn]; rfl
/-! ### comprehensions over what stands for something -/
theorem fmA {α : Type} (q : α → PyData) {f : DV → Option Ds} {g : ET} {h : EE} (b : α → Bool) (k : α → PyData) : ∀ (xs : List α), (∀ x ∈ xs, ∃ τ, f (.d (q x)) = some τ ∧ g τ = some (b x) ∧ (b x = true → h τ = some (.d (k x)))) → fmE f g h ((xs.map q).map .d) = some ((xs.filter b).map k)
  | [], _ => rfl
  | x :: xs, H => by
    obtain ⟨τ, h1, h2, h3⟩ := H x List.mem_cons_self
    have ih := fmA q b k xs fun y hy => H y (List.mem_cons_of_mem _ hy)
    show (f (.d (q x))).bind _ = _
    rw [h1]
    show (g τ).bind _ = _
    rw [h2]
    show (if b x = true then _ else _) = _
    cases hb : b x with
    | true =>
      rw [if_pos rfl, h3 hb, ih, List.filter_cons, hb]
      rfl
    | false =>
      rw [if_neg Bool.false_ne_true, ih, List.filter_cons, hb]
      rfl
section
variable {α : Type} (q : α → PyData) {wi : EI} {p : Pt} {tt : ET} {te : EE} {vs : List Nat} {τ : Ds}
theorem qLcF (b : α → Bool) (k : α → PyData) (xs : List α) (hi : wi τ = some ((xs.map q).map .d)) (H : ∀ x ∈ xs, ∃ τ1, bindP p (.d (q x)) (wipeS τ vs) = some τ1 ∧ tt τ1 = some (b x) ∧ (b x = true → te τ1 = some (.d (k x)))) : qLc wi p tt te vs τ = some (.d (.list ((xs.filter b).map k))) := by
  show (wi τ).bind _ = _
  rw [hi]
  show (fmE _ _ _ _).map _ = _
  rw [fmA q b k xs H]; rfl
theorem qLcA (k : α → PyData) (xs : List α) (hi : wi τ = some ((xs.map q).map .d)) (H : ∀ x ∈ xs, ∃ τ1, bindP p (.d (q x)) (wipeS τ vs) = some τ1 ∧ te τ1 = some (.d (k x))) : qLc wi p qYes te vs τ = some (.d (.list (xs.map k))) := by
  have := qLcF (tt := qYes) q (fun _ => true) k xs hi fun x hx => by
    obtain ⟨τ1, h1, h2⟩ := H x hx
    exact ⟨τ1, h1, rfl, fun _ => h2⟩
  rwa [List.filter_eq_self.mpr (fun _ _ => rfl)] at this
theorem qAllA (g : α → Bool) (xs : List α) (hi : wi τ = some ((xs.map q).map .d)) (H : ∀ x ∈ xs, ∃ τ1, bindP p (.d (q x)) (wipeS τ vs) = some τ1 ∧ te τ1 = BB (g x)) : qCall (q1 allE) (qCons (qLc wi p qYes te vs) qNil) τ = BB (xs.all g) := by
  have h := qLcA q (fun x => .bool (g x)) xs hi H
  refine call_q (xs := [_]) (cons_q h rfl) ?_
  show (boolsOf (xs.map fun x => PyData.bool (g x))).map _ = _
  rw [boolsOf_map]
  show some (DV.d (.bool ((xs.map g).all id))) = _
  rw [List.all_map]; rfl
theorem qAnyA (g : α → Bool) (xs : List α) (hi : wi τ = some ((xs.map q).map .d)) (H : ∀ x ∈ xs, ∃ τ1, bindP p (.d (q x)) (wipeS τ vs) = some τ1 ∧ te τ1 = BB (g x)) : qCall (q1 anyE) (qCons (qLc wi p qYes te vs) qNil) τ = BB (xs.any g) := by
  have h := qLcA q (fun x => .bool (g x)) xs hi H
  refine call_q (xs := [_]) (cons_q h rfl) ?_
  show (boolsOf (xs.map fun x => PyData.bool (g x))).map _ = _
  rw [boolsOf_map]
  show some (DV.d (.bool ((xs.map g).any id))) = _
  rw [List.any_map]; rfl
end
/-! ### a loop that looks for the first item that gives an answer -/
theorem loop_scan {i : Nat} {tb : ES} (τf : Option DV → Ds) (hset : ∀ o x, setS (τf o) i x = τf (some x)) (f : DV → Option DV) : ∀ (xs : List DV) (o : Option DV), (∀ x ∈ xs, tb (τf (some x)) = some (match f x with | some v => .rt v | none => .nx (τf (some x)))) →
    (∀ v, xs.findSome? f = some v → loopE (.n i) tb xs (τf o) = some (.rt v)) ∧ (xs.findSome? f = none → ∃ o', loopE (.n i) tb xs (τf o) = some (.nx (τf o')))
  | [], o, _ => ⟨fun v h => by simp at h, fun _ => ⟨o, rfl⟩⟩
  | x :: xs, o, hb => by
    have h1 := hb x List.mem_cons_self
    have ih := loop_scan τf hset f xs (some x) fun y hy => hb y (List.mem_cons_of_mem _ hy)
    have e : loopE (.n i) tb (x :: xs) (τf o) = (tb (τf (some x))).bind fun r => match r with
        | .nx τ2 => loopE (.n i) tb xs τ2
        | .ct τ2 => loopE (.n i) tb xs τ2
        | .bk τ2 => some (.nx τ2)
        | .rt v => some (.rt v) := by
      show (bindP (.n i) x (τf o)).bind _ = _
      show (some (setS (τf o) i x)).bind _ = _
      rw [hset]; rfl
    rw [e, h1, List.findSome?_cons]
    cases hf : f x with
    | some v => exact ⟨fun w h => by cases h; rfl, fun h => by cases h⟩
    | none => exact ih
theorem rgE_nat {n : Nat} (h : n ≤ 16777216) : rgE [.d (.int (n : Int))] = some (rgD 0 n) := by
  show (if _ then _ else _) = _
  rw [if_pos (by constructor <;> omega)]
  rfl
theorem rgD_map (lo : Int) (n : Nat) : rgD lo n = ((List.range n).map fun i => PyData.int (lo + (i : Nat))).map .d := by
  unfold rgD; rw [List.map_map]; rfl
theorem rgD_at {n i : Nat} {x : DV} (h : (rgD 0 n)[i]? = some x) : i < n ∧ x = .d (.int (i : Nat)) := by
  unfold rgD at h
  rw [List.getElem?_map] at h
  by_cases hi : i < n
  · rw [List.getElem?_range hi] at h
    cases h
    refine ⟨hi, ?_⟩
    have e0 : (0 : Int) + (i : Nat) = (i : Nat) := by omega
    show DV.d (.int (0 + (i : Nat))) = _
    rw [e0]
  · rw [List.getElem?_eq_none (by simpa using Nat.le_of_not_lt hi)] at h
    cases h
theorem qif_t {c : ET} {a b : EE} {τ : Ds} (h : c τ = some true) : qIf c a b τ = a τ := by
  show (c τ).bind _ = _
  rw [h]; rfl
theorem qif_f {c : ET} {a b : EE} {τ : Ds} (h : c τ = some false) : qIf c a b τ = b τ := by
  show (c τ).bind _ = _
  rw [h]; rfl
theorem tupE_lst (ds : List PyData) : tupE (.d (.list ds)) = some (.d (.tuple ds)) := by
  unfold tupE
  have : seqD emp (.d (.list ds)) = some ds := dAll_of_map ds
  rw [this]; rfl
theorem tupE_tup (ds : List PyData) : tupE (.d (.tuple ds)) = some (.d (.tuple ds)) := by
  unfold tupE
  have : seqD emp (.d (.tuple ds)) = some ds := dAll_of_map ds
  rw [this]; rfl
theorem listE_lst (ds : List PyData) : listE (.d (.list ds)) = some (.d (.list ds)) := by
  unfold listE
  have : seqD emp (.d (.list ds)) = some ds := dAll_of_map ds
  rw [this]; rfl
theorem listE_tup (ds : List PyData) : listE (.d (.tuple ds)) = some (.d (.list ds)) := by
  unfold listE
  have : seqD emp (.d (.tuple ds)) = some ds := dAll_of_map ds
  rw [this]; rfl
theorem mulV_lst {ds : List PyData} {k : Int} (h : -(2 ^ 63) ≤ k ∧ k < 2 ^ 63 ∧ ds.length * k.toNat ≤ sizeLine) : qMulV (.d (.list ds)) (.d (.int k)) = some (.d (.list (repL k.toNat ds))) := by
  unfold qMulV
  exact if_pos h
theorem lst_q {a : EA} {τ : Ds} {xs : List DV} {ds : List PyData} (h : a τ = some xs) (h2 : dAll xs = some ds) : qLst a τ = some (.d (.list ds)) := by
  show (a τ).bind _ = _
  rw [h]
  show (dAll xs).map _ = _
  rw [h2]; rfl
theorem tup_q {a : EA} {τ : Ds} {xs : List DV} {ds : List PyData} (h : a τ = some xs) (h2 : dAll xs = some ds) : qTup a τ = some (.d (.tuple ds)) := by
  show (a τ).bind _ = _
  rw [h]
  show (dAll xs).map _ = _
  rw [h2]; rfl
/-- xs[i] for a tuple or a list of data -/
theorem ixE_tup {ds : List PyData} {i : Nat} {d : PyData} (h : ds[i]? = some d) : ixE (.d (.tuple ds)) (i : Nat) = some (.d d) := by
  obtain ⟨hl, _⟩ := List.getElem?_eq_some_iff.mp h
  show atI (ds.map DV.d) (i : Nat) = _
  unfold atI ixN
  rw [if_pos (by omega), if_pos (by simpa using hl)]
  simp [h]
theorem ixE_lst {ds : List PyData} {i : Nat} {d : PyData} (h : ds[i]? = some d) : ixE (.d (.list ds)) (i : Nat) = some (.d d) := by
  obtain ⟨hl, _⟩ := List.getElem?_eq_some_iff.mp h
  show atI (ds.map DV.d) (i : Nat) = _
  unfold atI ixN
  rw [if_pos (by omega), if_pos (by simpa using hl)]
  simp [h]
/-- ds[:k], ds[k:] -/
theorem cutL_take {α : Type} (ds : List α) (k : Nat) : cutL ds none (some (k : Int)) = ds.take k := by
  unfold cutL
  rw [HT.sIx_nat, HT.sIx_none, List.drop_zero, Nat.sub_zero]
  by_cases h : k ≤ ds.length
  · rw [Nat.min_eq_left h]
  · rw [Nat.min_eq_right (by omega), List.take_of_length_le (Nat.le_refl _), List.take_of_length_le (by omega)]
theorem cutL_drop {α : Type} (ds : List α) (k : Nat) : cutL ds (some (k : Int)) none = ds.drop k := by
  unfold cutL
  rw [HT.sIx_nat, HT.sIx_none]
  by_cases h : k ≤ ds.length
  · rw [Nat.min_eq_left h, List.take_of_length_le (by simp)]
  · rw [Nat.min_eq_right (by omega), Nat.sub_self, List.take_zero, List.drop_eq_nil_of_le (by omega)]
end VS

end

section
set_option Elab.async false
set_option linter.all false
set_option maxRecDepth 100000
set_option maxHeartbeats 4000000
/-! Draws from the tape. -/
namespace VS
open PySem L2
section
variable {a : Addr} {M : DH} {Q : DQ}
theorem tape_upd {D : Addr} {o : DO} (h : Tape M a) (hD : M D = none) : Tape (updM M D o) a := by
  unfold Tape at h ⊢
  rw [updM_ne (fun e => by subst e; rw [h] at hD; cases hD)]
  exact h
theorem draw_nat {m : Nat} (ht : Tape M a) (h0 : 0 < m) (h1 : m < 1073741824) (q : ∀ n : Nat, n < m → Q (.d (.int (n : Nat))) M) : S_draw [.w (.ref a), .d (.int (m : Nat))] M Q :=
  ⟨a, (m : Nat), rfl, ht, by omega, by omega, fun r r0 r1 => by
    have := q r.toNat (by omega)
    rwa [Int.toNat_of_nonneg r0] at this⟩
theorem draw_int {m : Int} (ht : Tape M a) (h0 : 0 < m) (h1 : m < 1073741824) (q : ∀ n : Nat, (n : Int) < m → Q (.d (.int (n : Nat))) M) : S_draw [.w (.ref a), .d (.int m)] M Q :=
  ⟨a, m, rfl, ht, h0, h1, fun r r0 r1 => by
    have := q r.toNat (by omega)
    rwa [Int.toNat_of_nonneg r0] at this⟩
theorem pick_lst {ds : List PyData} (ht : Tape M a) (h0 : ds ≠ []) (h1 : ds.length ≤ 1000000) (q : ∀ d ∈ ds, Q (.d d) M) : S_pick [.w (.ref a), .d (.list ds)] M Q :=
  ⟨a, _, ds.map .d, rfl, ht, rfl, by simpa using h0, by simpa using h1, fun y hy => by
    obtain ⟨d, hd, rfl⟩ := List.mem_map.mp hy
    exact q d hd⟩
theorem pick_tup {ds : List PyData} (ht : Tape M a) (h0 : ds ≠ []) (h1 : ds.length ≤ 1000000) (q : ∀ d ∈ ds, Q (.d d) M) : S_pick [.w (.ref a), .d (.tuple ds)] M Q :=
  ⟨a, _, ds.map .d, rfl, ht, rfl, by simpa using h0, by simpa using h1, fun y hy => by
    obtain ⟨d, hd, rfl⟩ := List.mem_map.mp hy
    exact q d hd⟩
theorem pick_strs {ws : List Str} (ht : Tape M a) (h0 : ws ≠ []) (h1 : ws.length ≤ 1000000) (q : ∀ z ∈ ws, Q (.d (.str z)) M) : S_pick [.w (.ref a), .d (.list (ws.map .str))] M Q :=
  pick_lst ht (by simpa using h0) (by simpa using h1) fun d hd => by
    obtain ⟨z, hz, rfl⟩ := List.mem_map.mp hd
    exact q z hz
theorem pick_ints {ws : List Nat} (ht : Tape M a) (h0 : ws ≠ []) (h1 : ws.length ≤ 1000000) (q : ∀ z ∈ ws, Q (.d (.int (z : Nat))) M) : S_pick [.w (.ref a), .d (.list (ws.map fun z => .int (z : Nat)))] M Q :=
  pick_lst ht (by simpa using h0) (by simpa using h1) fun d hd => by
    obtain ⟨z, hz, rfl⟩ := List.mem_map.mp hd
    exact q z hz
theorem rg_k {M : DH} {τ : Ds} {t : DA} {k : List DV → (DH → Prop) → DH → Prop} {n : Nat} (h : n ≤ 16777216) (ht : ∀ K : List DV → DH → Prop, K [.d (.int (n : Nat))] M → t τ M K) (q : k (rgD 0 n) (fun _ => True) M) : iRg t τ M k := by
  refine ht _ ?_
  refine ⟨by constructor <;> omega, ?_⟩
  rw [Int.toNat_natCast]; exact q
end
section
variable {a : Addr} {ti : DI} {p : Pt} {tt : DT} {te : DE} {vs : List Nat} {τ : Ds} {M : DH} {Q : DQ} {stay : DH → Prop}
/-- [e for p in xs], e drawn -/
theorem lcR_ok (ht : Tape M a) (ds : List DV) (R : DV → PyData → Prop) (hi : ∀ k, k ds stay M → ti τ M k) (hs : stay M)
    (hb : ∀ x ∈ ds, ∃ τ1, bindP p x (wipeS τ vs) = some τ1 ∧ ∀ M K, Tape M a → (∀ y, R x y → K (.d y) M) → te τ1 M K) (q : ∀ ys, Paired R ds ys → Q (.d (.list ys)) M) : dLc ti p dYes te vs τ M Q :=
  hi _ ⟨hs, fun D hD => lc_any (fun M => Tape M a) R (fun M o h hD => tape_upd h hD) ds [] M _ hD hs ht hb fun ys r => by simpa using q ys r⟩
/-- .. the items drawn too -/
theorem lcN_ok (ht : Tape M a) (N : List DV → Prop) (R : DV → PyData → Prop) (hi : ∀ k : List DV → (DH → Prop) → DH → Prop, (∀ ds, N ds → k ds (fun _ => True) M) → ti τ M k)
    (hb : ∀ ds, N ds → ∀ x ∈ ds, ∃ τ1, bindP p x (wipeS τ vs) = some τ1 ∧ ∀ M K, Tape M a → (∀ y, R x y → K (.d y) M) → te τ1 M K) (q : ∀ ds, N ds → ∀ ys, Paired R ds ys → Q (.d (.list ys)) M) : dLc ti p dYes te vs τ M Q :=
  hi _ fun ds hN => ⟨trivial, fun D hD => lc_any (fun M => Tape M a) R (fun M o h hD => tape_upd h hD) ds [] M _ hD trivial ht (hb ds hN) fun ys r => by simpa using q ds hN ys r⟩
/-- [e for p in xs if drawn] -/
theorem lcS_ok (ht : Tape M a) (ds : List PyData) (f : PyData → PyData) (hi : ∀ k, k (ds.map .d) stay M → ti τ M k) (hs : stay M)
    (hb : ∀ x ∈ ds, ∃ τ1, bindP p (.d x) (wipeS τ vs) = some τ1 ∧ (∀ M K, Tape M a → (∀ b, K b M) → tt τ1 M K) ∧ ∀ M K, Tape M a → K (.d (f x)) M → te τ1 M K) (q : ∀ ys : List PyData, ys.Sublist ds → Q (.d (.list (ys.map f))) M) : dLc ti p tt te vs τ M Q :=
  hi _ ⟨hs, fun D hD => lc_some (fun M => Tape M a) f (fun M o h hD => tape_upd h hD) ds [] M _ hD hs ht hb fun ys r => by simpa using q ys r⟩
end
/-- a list of drawn texts -/
theorem paired_strs {α : Type} {ws : List Str} : ∀ {xs : List α} {ys : List PyData}, Paired (fun _ y => ∃ z ∈ ws, y = .str z) xs ys → ∃ zs : List Str, ys = zs.map .str ∧ zs.length = xs.length ∧ ∀ z ∈ zs, z ∈ ws
  | _, _, .nil => ⟨[], rfl, rfl, fun _ h => by cases h⟩
  | _, _, .cons ⟨z, hz, e⟩ t => by
    obtain ⟨zs, h1, h2, h3⟩ := paired_strs t
    refine ⟨z :: zs, by rw [h1, e]; rfl, by simp [h2], fun y hy => ?_⟩
    rcases List.mem_cons.mp hy with rfl | hy
    · exact hz
    · exact h3 y hy
theorem dAll_d {ds : List PyData} : dAll (ds.map .d) = some ds := dAll_of_map ds
theorem gTuple_lst {ds : List PyData} {M : DH} {Q : DQ} (q : Q (.d (.tuple ds)) M) : gTuple (.d (.list ds)) M Q := by
  show oSome (dAll (ds.map .d)) _
  rw [dAll_of_map]; exact q
theorem gTuple_tup {ds : List PyData} {M : DH} {Q : DQ} (q : Q (.d (.tuple ds)) M) : gTuple (.d (.tuple ds)) M Q := by
  show oSome (dAll (ds.map .d)) _
  rw [dAll_of_map]; exact q
theorem gList_lst {ds : List PyData} {M : DH} {Q : DQ} (q : Q (.d (.list ds)) M) : gList (.d (.list ds)) M Q := by
  show oSome (dAll (ds.map .d)) _
  rw [dAll_of_map]; exact q
theorem gList_tup {ds : List PyData} {M : DH} {Q : DQ} (q : Q (.d (.list ds)) M) : gList (.d (.tuple ds)) M Q := by
  show oSome (dAll (ds.map .d)) _
  rw [dAll_of_map]; exact q
theorem gSl_lst {ds : List PyData} {lo hi : Option Int} {M : DH} {Q : DQ} (q : Q (.d (.list (cutL ds lo hi))) M) : gSl (.d (.list ds)) lo hi M Q := q
theorem se_k {t : DE} {e : EE} [h : SE t e] {τ : Ds} {M : DH} {K : DQ} {v : DV} (he : e τ = some v) (k : K v M) : t τ M K := h.ok _ _ _ _ he k
theorem st_k {t : DT} {e : ET} [h : ST t e] {τ : Ds} {M : DH} {K : Bool → DH → Prop} {v : Bool} (he : e τ = some v) (k : K v M) : t τ M K := h.ok _ _ _ _ he k
theorem ss_k {t : DS} {e : ES} [h : SS t e] {τ : Ds} {M : DH} {E : DEnds} {o : EO} (he : e τ = some o) (k : endE E M o) : t E τ M := h.ok _ _ _ _ he k
theorem spE_k {e : EC} {xs : List DV} {M : DH} {Q : DQ} {v : DV} (he : e xs = some v) (q : Q v M) : SpE e xs M Q := ⟨v, he, q⟩
/-- a loop that keeps an invariant -/
theorem loopD_inv {stay : DH → Prop} {p : Pt} {tb : DS} {E : DEnds} (I : Ds → DH → Prop) (hs : ∀ τ M, I τ M → stay M) (hn : ∀ τ M, I τ M → E.nx τ M) : ∀ xs : List DV, (∀ x ∈ xs, ∀ τ M, I τ M → ∃ τ1, bindP p x τ = some τ1 ∧ ∀ E' : DEnds, E'.rt = E.rt → E'.bk = E.nx → (∀ τ M, I τ M → E'.nx τ M) → (∀ τ M, I τ M → E'.ct τ M) → tb E' τ1 M) → ∀ τ M, I τ M → loopD stay p tb E xs τ M
  | [], _, τ, M, i => hn τ M i
  | x :: xs, H, τ, M, i => by
    obtain ⟨τ1, h1, h2⟩ := H x List.mem_cons_self τ M i
    show oSome (bindP p x τ) _
    rw [h1]
    have ih := loopD_inv I hs hn xs fun y hy => H y (List.mem_cons_of_mem _ hy)
    exact h2 _ rfl rfl (fun τ M i => ⟨hs τ M i, ih τ M i⟩) fun τ M i => ⟨hs τ M i, ih τ M i⟩
theorem set_pick {t0 : DE} {e0 : EE} [h : SE t0 e0] {τ : Ds} {M : DH} {E : DEnds} {t : Addr} {j i : Nat} {ds : List PyData} (hs : slot τ i = some (.w (.ref t))) (he : e0 τ = some (.d (.list ds))) (ht : Tape M t) (h0 : ds ≠ []) (h1 : ds.length ≤ 1000000) (q : ∀ d ∈ ds, E.nx (setS τ j (.d d)) M) :
    dSet (dCall S_pick (dCons (dVar i) (dCons t0 dNil))) j E τ M := by
  unfold dSet dCall dCons dVar gotV
  rw [hs]
  refine h.ok _ _ _ _ he ?_
  show S_pick [.w (.ref t), .d (.list ds)] M (fun x M1 => E.nx (setS τ j x) M1)
  exact pick_lst ht h0 h1 q
theorem set_draw {t0 : DE} {e0 : EE} [h : SE t0 e0] {τ : Ds} {M : DH} {E : DEnds} {t : Addr} {j i : Nat} {m : Nat} (hs : slot τ i = some (.w (.ref t))) (he : e0 τ = some (.d (.int (m : Nat)))) (ht : Tape M t) (h0 : 0 < m) (h1 : m < 1073741824) (q : ∀ n : Nat, n < m → E.nx (setS τ j (.d (.int (n : Nat)))) M) :
    dSet (dCall S_draw (dCons (dVar i) (dCons t0 dNil))) j E τ M := by
  unfold dSet dCall dCons dVar gotV
  rw [hs]
  refine h.ok _ _ _ _ he ?_
  show S_draw [.w (.ref t), .d (.int (m : Nat))] M (fun x M1 => E.nx (setS τ j x) M1)
  exact draw_nat ht h0 h1 q
/-! ### comprehensions over what stands for something -/
theorem lcA_pure {α : Type} (q : α → PyData) {D : Addr} {stay : DH → Prop} {p : Pt} {te : DE} {τ : Ds} (f : α → PyData) :
    ∀ (ds : List α) (acc : List PyData) (M : DH) (Q : List PyData → DH → Prop), M D = none → stay M → (∀ x ∈ ds, ∃ τ1, bindP p (.d (q x)) τ = some τ1 ∧ ∀ M K, K (.d (f x)) M → te τ1 M K) → Q (acc ++ ds.map f) M → lcD D stay p dYes te τ ((ds.map q).map .d) acc M Q
  | [], acc, M, Q, _, _, _, k => by
    show Q acc M
    simpa using k
  | x :: xs, acc, M, Q, hD, hs, hb, k => by
    obtain ⟨τ1, e, h⟩ := hb x List.mem_cons_self
    show oSome (bindP p (.d (q x)) τ) _
    rw [e]
    show te τ1 (updM M D (.lst (acc.map .d))) _
    refine h _ _ ⟨f x, M, rfl, rfl, hD, hs, ?_⟩
    exact lcA_pure q f xs (acc ++ [f x]) M Q hD hs (fun y hy => hb y (List.mem_cons_of_mem _ hy)) (by simpa using k)
section
variable {α : Type} (q : α → PyData) {ti : DI} {p : Pt} {te : DE} {vs : List Nat} {τ : Ds} {M : DH} {stay : DH → Prop}
theorem lcA_ok (xs : List α) (f : α → PyData) (hi : ∀ k, k ((xs.map q).map .d) stay M → ti τ M k) (hs : stay M)
    (hb : ∀ x ∈ xs, ∃ τ1, bindP p (.d (q x)) (wipeS τ vs) = some τ1 ∧ ∀ M K, K (.d (f x)) M → te τ1 M K) : ∀ Q : DQ, Q (.d (.list (xs.map f))) M → dLc ti p dYes te vs τ M Q :=
  fun Q k => hi _ ⟨hs, fun D hD => lcA_pure q f xs [] M _ hD hs hb (by simpa using k)⟩
theorem anyA_p (xs : List α) (g : α → Bool) (hi : ∀ k, k ((xs.map q).map .d) stay M → ti τ M k) (hs : stay M)
    (hb : ∀ x ∈ xs, ∃ τ1, bindP p (.d (q x)) (wipeS τ vs) = some τ1 ∧ ∀ M K, K (.d (.bool (g x))) M → te τ1 M K) : ∀ K : DQ, K (.d (.bool (xs.any g))) M → dCall (d1 gAny) (dCons (dLc ti p dYes te vs) dNil) τ M K := fun K k =>
  show dLc ti p dYes te vs τ M (fun x M1 => gAny x M1 K) from lcA_ok q xs (fun x => .bool (g x)) hi hs hb (fun x M1 => gAny x M1 K) (by
    show oSome (boolsOf (xs.map fun x => PyData.bool (g x))) _
    rw [boolsOf_map]
    show K (.d (.bool ((xs.map g).any id))) M
    rw [List.any_map]; exact k)
theorem allA_p (xs : List α) (g : α → Bool) (hi : ∀ k, k ((xs.map q).map .d) stay M → ti τ M k) (hs : stay M)
    (hb : ∀ x ∈ xs, ∃ τ1, bindP p (.d (q x)) (wipeS τ vs) = some τ1 ∧ ∀ M K, K (.d (.bool (g x))) M → te τ1 M K) : ∀ K : DQ, K (.d (.bool (xs.all g))) M → dCall (d1 gAll) (dCons (dLc ti p dYes te vs) dNil) τ M K := fun K k =>
  show dLc ti p dYes te vs τ M (fun x M1 => gAll x M1 K) from lcA_ok q xs (fun x => .bool (g x)) hi hs hb (fun x M1 => gAll x M1 K) (by
    show oSome (boolsOf (xs.map fun x => PyData.bool (g x))) _
    rw [boolsOf_map]
    show K (.d (.bool ((xs.map g).all id))) M
    rw [List.all_map]; exact k)
end
end VS
namespace VS
open PySem L2
section
variable {a : Addr} {ti : DI} {p : Pt} {te : DE} {vs : List Nat} {τ : Ds} {M : DH} {Q : DQ} {stay : DH → Prop}
theorem lcMR_ok (ht : Tape M a) (ds : List DV) (R : DV → PyData → Prop) (hi : ∀ k, k ds stay M → ti τ M k) (hs : stay M)
    (hb : ∀ x ∈ ds, ∃ τ1, bindP p x (wipeS τ vs) = some τ1 ∧ ∀ M K, Tape M a → (∀ y, R x y → K (.d y) M) → te τ1 M K) (q : ∀ D, M D = none → ∀ ys, Paired R ds ys → Q (.w (.ref D)) (updM M D (.lst (ys.map .d)))) : dLcM ti p dYes te vs τ M Q :=
  hi _ ⟨hs, fun D hD => lc_any (fun M => Tape M a) R (fun M o h hD => tape_upd h hD) ds [] M _ hD hs ht hb fun ys r => by simpa using q D hD ys r⟩
end
end VS

end

section
set_option Elab.async false
set_option linter.all false
set_option maxRecDepth 100000
set_option maxHeartbeats 4000000
/-! What the top of a program holds, from what k_is finds. -/
namespace VS
open PySem PySem.Spec PyProof.Rows L2
section
variable {K : PySem.W.Frag} {h : Heap} {mg : Str → Option Value}
theorem tp_mk {x : Str} {st : Stmt} {ps : List Str} {f : Addr} {od an : Option Addr} {sl : Array (Option Value)} {oc kV dc pm cd ct : Value} (X : K.In h) (G : h.Ns mainGlobals mg)
    (a : PySem.W.nsIn K mainGlobals x = some (some (.ref f))) (l : K.lookup f = some ⟨oc, od, .func (PySem.W.fnOf x x (defArgs st) (defBody st) (defScope st) .none kV dc pm an cd ct), sl⟩) (c : PySem.W.codeIn K cd x = true) (k : PySem.W.keepIn K (.ref f) = true)
    (b : ∀ F : Fun K x x st f (PySem.W.fnOf x x (defArgs st) (defBody st) (defScope st) .none kV dc pm an cd ct), Binds K (PySem.W.fnOf x x (defArgs st) (defBody st) (defScope st) .none kV dc pm an cd ct) ps []) : Tp K mg x st ps :=
  ⟨f, _, PySem.W.mg_of X G a, fun_mk l c k, k, b (fun_mk l c k)⟩
mutual
inductive KD (K : PySem.W.Frag) : Value → PyData → Prop
  | non : KD K .none .none
  | bl (b : Bool) : KD K (.bool b) (.bool b)
  | int (i : Int) (t : Tok) : KD K (.int i t) (.int i)
  | str (z : Str) (t : Tok) : PyData.strOk z = true → z.length ≤ sizeLine → KD K (.str z t) (.str z)
  | tup {A : Addr} {od : Option Addr} {its : Array Value} {n : Nat} {sl : Array (Option Value)} {ds : List PyData} : K.lookup A = some ⟨.type "tuple", od, .seq its n, sl⟩ → its.size ≤ sizeLine → KDs K its.toList ds → KD K (.ref A) (.tuple ds)
inductive KDs (K : PySem.W.Frag) : List Value → List PyData → Prop
  | nil : KDs K [] []
  | cons {u : Value} {us : List Value} {d : PyData} {ds : List PyData} : KD K u d → KDs K us ds → KDs K (u :: us) (d :: ds)
end
mutual
theorem KD.ok {K : PySem.W.Frag} : ∀ {u : Value} {d : PyData}, KD K u d → ∃ v, RelV v u ∧ ∀ F, Rp K F v d
  | _, _, .non => ⟨.non, rfl, fun _ => .non⟩
  | _, _, .bl b => ⟨.bl b, rfl, fun _ => .bl b⟩
  | _, _, .int i t => ⟨.int i, ⟨t, rfl⟩, fun _ => .int i⟩
  | _, _, .str z t h1 h2 => ⟨.str z, ⟨t, rfl⟩, fun _ => .str z h1 h2⟩
  | _, _, .tup (A := A) (its := its) (n := n) h1 h2 t => by
    obtain ⟨vs, r, q⟩ := KDs.ok t
    refine ⟨.ref A, rfl, fun F => .tup (xs := vs) (.inr ⟨_, its, n, h1, rfl, rfl, h2, r⟩) ?_ (q F)⟩
    rw [r.length]; exact h2
theorem KDs.ok {K : PySem.W.Frag} : ∀ {us : List Value} {ds : List PyData}, KDs K us ds → ∃ vs, Vals vs us ∧ ∀ F, RpAll K F vs ds
  | _, _, .nil => ⟨[], .nil, fun _ => .nil⟩
  | _, _, .cons a t => by
    obtain ⟨v, r, q⟩ := KD.ok a
    obtain ⟨vs, rs, qs⟩ := KDs.ok t
    exact ⟨v :: vs, .cons r rs, fun F => .cons (q F) (qs F)⟩
end
theorem kc_mk {x : Str} {u : Value} {d : PyData} (X : K.In h) (G : h.Ns mainGlobals mg) (a : PySem.W.nsIn K mainGlobals x = some (some u)) (q : KD K u d) : Kc K mg x d := by
  obtain ⟨v, r, p⟩ := q.ok
  exact ⟨v, u, PySem.W.mg_of X G a, r, p⟩
theorem xc_mk {x : Str} {A : Addr} {its : Array Value} {n : Nat} {sl : Array (Option Value)} {ws : List Str} (X : K.In h) (G : h.Ns mainGlobals mg) (a : PySem.W.nsIn K mainGlobals x = some (some (.ref A)))
    (l : K.lookup A = some ⟨.type "tuple", none, .seq its n, sl⟩) (s : its.size ≤ sizeLine) (r : Vals (ws.map V.str) its.toList) : Xc K mg x ws :=
  ⟨A, _, PySem.W.mg_of X G a, l, rfl, rfl, fun F => .inr ⟨_, its, n, l, rfl, rfl, s, r⟩⟩
theorem law_start {S : SpD} {H : Hp} {a : Addr} {ns : List Int} (hl : ns.length ≤ sizeLine) (ho : Only H) (hs : SqL K H a (ns.map V.int)) {Q' : VK} (q : ∀ M : DH, (M a = some (.scr ns) ∨ Zs K a ns) → S [.w (.ref a)] M fun x _ => x = .d (.bool true)) (hQ : ∀ H', Q' (.bl true) H') {E : XK} : upSp K S [.ref a] H Q' E := by
  have hup : Up K (fun _ => none) (fun x _ => x = .d (.bool true)) Q' := fun x M v H' F' e _ _ r => by
    subst e
    have r : Rp K F' v (.bool true) := r
    cases r
    exact hQ H'
  have mk : ∀ M : DH, (∀ b o, M b = some o → b = a ∧ o = .scr ns ∧ ∃ o', H a = some (.frz o' (.lst (ns.map V.int)))) → (M a = some (.scr ns) ∨ Zs K a ns) → upSp K S [.ref a] H Q' E := fun M h1 h2 =>
    ⟨fun _ => none, M, [.w (.ref a)], _, ⟨(fun _ _ e => by cases e), (fun b o e => by
      obtain ⟨rfl, rfl, o', e'⟩ := h1 b o e
      exact ⟨rfl, _, e', (by simpa using hl), rfl⟩)⟩, .cons rfl .nil, q M h2, hup⟩
  rcases hs with (h | ⟨o, h⟩) | ⟨o, its, n, g⟩
  · rcases ho a with e | ⟨o, xs, e⟩
    · rw [e] at h; cases h
    · rw [e] at h; cases h
  · refine mk (fun b => if b = a then some (.scr ns) else none) (fun b o' e => ?_) (.inl (if_pos rfl))
    by_cases hb : b = a
    · rw [if_pos hb] at e; cases e
      exact ⟨hb, rfl, o, h⟩
    · rw [if_neg hb] at e; cases e
  · exact mk (fun _ => none) (fun _ _ e => by cases e) (.inr ⟨hl, fun H' => .inr ⟨o, its, n, g⟩⟩)
end
end VS

end

section
set_option Elab.async false
set_option maxRecDepth 100000
set_option maxHeartbeats 4000000
/-! printed by wip/gen.py: the transformers of the defs -/
namespace K47
open PySem L2 VS

def c_ERROR_WORDS : PyData := .tuple [.str ("refused" : Str), .str ("no route" : Str), .str ("none" : Str), .str ("limit" : Str), .str ("broken" : Str), .str ("late" : Str)]
def c_HOST_SIGNS : PyData := .str ("abcdefghijklmnopqrstuvwxyz0123456789.-" : Str)
def c_METHODS : PyData := .tuple [.tuple [.str ("GET" : Str), .bool false, .bool true, .bool true], .tuple [.str ("HEAD" : Str), .bool false, .bool true, .bool false], .tuple [.str ("PUT" : Str), .bool true, .bool true, .bool true], .tuple [.str ("POST" : Str), .bool true, .bool false, .bool true], .tuple [.str ("DELETE" : Str), .bool false, .bool true, .bool true]]
def c_MOST_HOST : PyData := .int 60
def c_MOST_NAMES : PyData := .int 4
def c_MOST_PLAIN : PyData := .int 20
def c_MOST_PREFIX : PyData := .int 8
def c_MOST_PUT : PyData := .int 4
def c_MOST_ROUTES : PyData := .int 40
def c_MOST_SEGMENT : PyData := .int 380
def c_MOST_TEXT : PyData := .int 200
def c_MOST_TRIES : PyData := .int 3
def c_MOST_WAIT : PyData := .int 1000
def c_PLAIN : PyData := .str ("abcdefghijklmnopqrstuvwxyzABCDEFGHIJKLMNOPQRSTUVWXYZ0123456789-_." : Str)
def c_SIGNS : PyData := .str (" !\"#$&'()*+,-./0123456789:;<=>?@ABCDEFGHIJKLMNOPQRSTUVWXYZ[\\]^_`abcdefghijklmnopqrstuvwxyz{|}~" : Str)
def w_ERROR_WORDS : List Str := [("refused" : Str), ("no route" : Str), ("none" : Str), ("limit" : Str), ("broken" : Str), ("late" : Str)]
def t_is_number  : DS := dRet (dAndV (dCall (rIsiV) (dCons (dVar 0) (dCons (dW (.ty "int")) (dNil)))) (dNotV (dCall (rIsiV) (dCons (dVar 0) (dCons (dW (.ty "bool")) (dNil))))))

def t_is_signs  : DS := dRet (dAndV (dCall (rIsiV) (dCons (dVar 0) (dCons (dW (.ty "str")) (dNil)))) (dCall (d1 gAll) (dCons (dLc (iSeq (dVar 0)) (.n 1) dYes (dOp (rInV) (dVar 1) (dC c_SIGNS)) [1]) (dNil))))

def t_is_host  : DS := dSeq (dIfS (dOr (dNot (dTru (dCall (rIsiV) (dCons (dVar 0) (dCons (dW (.ty "str")) (dNil)))))) (dNot (dTest (dChain (rI2 fun i j => .bool (decide (i ≤ j))) (rI2 fun i j => .bool (decide (i ≤ j))) (dC (.int 1)) (dCall (d1 gLen) (dCons (dVar 0) (dNil))) (dC c_MOST_HOST))))) (dRet (dC (.bool false))) (dNext))
  (dRet (dCall (d1 gAll) (dCons (dLc (iSeq (dVar 0)) (.n 1) dYes (dOp (rInV) (dVar 1) (dC c_HOST_SIGNS)) [1]) (dNil))))

def t_is_segment (S_is_signs : SpD) : DS := dSeq (dIfS (dOr (dNot (dTru (dCall S_is_signs (dCons (dVar 0) (dNil))))) (dNot (dTest (dChain (rI2 fun i j => .bool (decide (i ≤ j))) (rI2 fun i j => .bool (decide (i ≤ j))) (dC (.int 1)) (dCall (d1 gLen) (dCons (dVar 0) (dNil))) (dC c_MOST_SEGMENT))))) (dRet (dC (.bool false))) (dNext))
  (dRet (dAndV (dOp (rNotInV) (dC (.str ("/" : Str))) (dVar 0)) (dAndV (dOp (rNotInV) (dC (.str ("\\" : Str))) (dVar 0)) (dOp (rNotInV) (dVar 0) (dTup (dCons (dC (.str ("." : Str))) (dCons (dC (.str (".." : Str))) (dNil))))))))

def t_is_plain_segment (S_is_segment : SpD) : DS := dRet (dAndV (dCall S_is_segment (dCons (dVar 0) (dNil))) (dAndV (dOp (rI2 fun i j => .bool (decide (i ≤ j))) (dCall (d1 gLen) (dCons (dVar 0) (dNil))) (dC c_MOST_PLAIN)) (dCall (d1 gAll) (dCons (dLc (iSeq (dVar 0)) (.n 1) dYes (dOp (rInV) (dVar 1) (dC c_PLAIN)) [1]) (dNil)))))

def t_is_row_of (Fs : Addr → Option SpD) : DS := dRet (dAndV (dCall (rIsiV) (dCons (dVar 0) (dCons (dW (.ty "tuple")) (dNil)))) (dAndV (dOp (rI2 fun i j => .bool (decide (i ≤ j))) (dCall (d1 gLen) (dCons (dVar 0) (dNil))) (dVar 1)) (dCall (d1 gAll) (dCons (dLc (iSeq (dVar 0)) (.n 3) dYes (dCallA 2 Fs (dCons (dVar 3) (dNil))) [3]) (dNil)))))

def t_is_within (S_is_number : SpD) : DS := dRet (dAndV (dCall S_is_number (dCons (dVar 0) (dNil))) (dChain (rI2 fun i j => .bool (decide (i ≤ j))) (rI2 fun i j => .bool (decide (i ≤ j))) (dVar 1) (dVar 0) (dVar 2)))

def t_is_methods  : DS := dSeq (dSet (dLc (iSeq (dC c_METHODS)) (.n 3) dYes (dOp gIx (dVar 3) (dC (.int 0))) [3]) 1)
  (dSeq (dIfS (dOr (dNot (dTru (dCall (rIsiV) (dCons (dVar 0) (dCons (dW (.ty "tuple")) (dNil)))))) (dTest (dOp (rEqV) (dCall (d1 gLen) (dCons (dVar 0) (dNil))) (dC (.int 0))))) (dRet (dC (.bool false))) (dNext))
  (dSeq (dIfS (dNot (dTru (dCall (d1 gAll) (dCons (dLc (iSeq (dVar 0)) (.n 4) dYes (dAndV (dCall (rIsiV) (dCons (dVar 4) (dCons (dW (.ty "str")) (dNil)))) (dOp (rInV) (dVar 4) (dVar 1))) [4]) (dNil))))) (dRet (dC (.bool false))) (dNext))
  (dSeq (dSet (dLc (iSeq (dVar 0)) (.n 4) dYes (dMt "list" mIndex (dVar 1) (dCons (dVar 4) (dNil))) [4]) 2)
  (dRet (dCall (d1 gAll) (dCons (dLc (iRg (dCons (dC (.int 1)) (dCons (dCall (d1 gLen) (dCons (dVar 2) (dNil))) (dNil)))) (.n 5) dYes (dOp (rI2 fun i j => .bool (decide (i < j))) (dOp gIx (dVar 2) (dOp (rI2 fun i j => .int (i - j)) (dVar 5) (dC (.int 1)))) (dOp gIx (dVar 2) (dVar 5))) [5]) (dNil)))))))

def t_is_named  : DS := dRet (dCall (rIsiV) (dCons (dVar 0) (dCons (dW (.ty "str")) (dNil))))

def t_is_route (S_is_within : SpD) (S_is_row_of : SpD) (S_is_named : SpD) (S_is_host : SpD) (S_is_methods : SpD) (a_is_named : Addr) (a_is_plain_segment : Addr) (a_is_segment : Addr) : DS := dSeq (dIfS (dOr (dNot (dTru (dCall (rIsiV) (dCons (dVar 0) (dCons (dW (.ty "tuple")) (dNil)))))) (dTest (dOp (rNeV) (dCall (d1 gLen) (dCons (dVar 0) (dNil))) (dC (.int 9))))) (dRet (dC (.bool false))) (dNext))
  (dSeq (dAsg (dVar 0) (.t [1, 2, 3, 4, 5, 6, 7, 8, 9]))
  (dSeq (dIfS (dOr (dAnd (dTest (dOp (rNeV) (dVar 1) (dC (.str ("*" : Str))))) (dNot (dTru (dCall S_is_host (dCons (dVar 1) (dNil)))))) (dOr (dNot (dTru (dCall S_is_row_of (dCons (dVar 2) (dCons (dC c_MOST_PREFIX) (dCons (dW (.ref a_is_segment)) (dNil))))))) (dNot (dTru (dCall S_is_methods (dCons (dVar 3) (dNil))))))) (dRet (dC (.bool false))) (dNext))
  (dSeq (dIfS (dOr (dNot (dTru (dCall S_is_named (dCons (dVar 4) (dNil))))) (dOr (dNot (dTru (dCall S_is_within (dCons (dVar 5) (dCons (dC (.int 0)) (dCons (dCall (d1 gLen) (dCons (dVar 2) (dNil))) (dNil))))))) (dNot (dTru (dCall S_is_row_of (dCons (dVar 6) (dCons (dC c_MOST_PUT) (dCons (dW (.ref a_is_plain_segment)) (dNil))))))))) (dRet (dC (.bool false))) (dNext))
  (dSeq (dIfS (dOr (dNot (dTru (dCall S_is_row_of (dCons (dVar 7) (dCons (dC c_MOST_NAMES) (dCons (dW (.ref a_is_named)) (dNil))))))) (dTest (dOp (rNeV) (dLenSet (dVar 7)) (dCall (d1 gLen) (dCons (dVar 7) (dNil)))))) (dRet (dC (.bool false))) (dNext))
  (dRet (dAndV (dCall S_is_within (dCons (dVar 8) (dCons (dC (.int 1)) (dCons (dC c_MOST_WAIT) (dNil))))) (dCall S_is_within (dCons (dVar 9) (dCons (dC (.int 1)) (dCons (dC c_MOST_TRIES) (dNil)))))))))))

def t_is_same  : DS := dRet (dAndV (dOp (rEqV) (dSl (dVar 0) dNoP (dPart (dC (.int 2)))) (dSl (dVar 1) dNoP (dPart (dC (.int 2))))) (dCall (d1 gAny) (dCons (dLc (iSeq (dOp gIx (dVar 0) (dC (.int 2)))) (.n 2) dYes (dOp (rInV) (dVar 2) (dOp gIx (dVar 1) (dC (.int 2)))) [2]) (dNil))))

def t_fault_of_route (S_is_same : SpD) : DS := dSeq (dSet (dOp gIx (dVar 0) (dVar 1)) 4)
  (dSeq (dIfS (dTest (dOp (rNotInV) (dOp gIx (dVar 4) (dC (.int 3))) (dVar 2))) (dRet (dC (.str ("no service" : Str)))) (dNext))
  (dSeq (dIfS (dNot (dTru (dCall (d1 gAll) (dCons (dLc (iSeq (dOp gIx (dVar 4) (dC (.int 6)))) (.n 5) dYes (dOp (rInV) (dVar 5) (dVar 3)) [5]) (dNil))))) (dRet (dC (.str ("no limit" : Str)))) (dNext))
  (dRet (dIf (dTru (dCall (d1 gAny) (dCons (dLc (iSeq (dSl (dVar 0) dNoP (dPart (dVar 1)))) (.n 6) dYes (dCall S_is_same (dCons (dVar 4) (dCons (dVar 6) (dNil)))) [6]) (dNil)))) (dC (.str ("same route" : Str))) (dC (.str ("" : Str)))))))

def t_fault_routes (S_fault_of_route : SpD) (S_is_route : SpD) : DS := dSeq (dSet (dOp gDGet (dVar 0) (dC (.str ("routes" : Str)))) 1)
  (dSeq (dIfS (dOr (dNot (dTru (dCall (rIsiV) (dCons (dVar 1) (dCons (dW (.ty "tuple")) (dNil)))))) (dTest (dOp (rI2 fun i j => .bool (decide (j < i))) (dCall (d1 gLen) (dCons (dVar 1) (dNil))) (dC c_MOST_ROUTES)))) (dRet (dTup (dCons (dC (.str ("route" : Str))) (dCons (dC .none) (dNil))))) (dNext))
  (dSeq (dFor (iRg (dCons (dCall (d1 gLen) (dCons (dVar 1) (dNil))) (dNil))) (.n 2) (dIfS (dNot (dTru (dCall S_is_route (dCons (dOp gIx (dVar 1) (dVar 2)) (dNil))))) (dRet (dTup (dCons (dC (.str ("route" : Str))) (dCons (dVar 2) (dNil))))) (dNext)))
  (dSeq (dSet (dLc (iSeq (dOp gDGet (dVar 0) (dC (.str ("services" : Str))))) (.n 7) dYes (dOp gIx (dVar 7) (dC (.int 0))) [7]) 3)
  (dSeq (dSet (dLc (iSeq (dOp gDGet (dVar 0) (dC (.str ("limits" : Str))))) (.n 7) dYes (dOp gIx (dVar 7) (dC (.int 0))) [7]) 4)
  (dSeq (dSet (dLc (iRg (dCons (dCall (d1 gLen) (dCons (dVar 1) (dNil))) (dNil))) (.n 2) dYes (dCall S_fault_of_route (dCons (dVar 1) (dCons (dVar 2) (dCons (dVar 3) (dCons (dVar 4) (dNil)))))) [2]) 5)
  (dSeq (dFor (iSeq (dTup (dCons (dC (.str ("no service" : Str))) (dCons (dC (.str ("no limit" : Str))) (dCons (dC (.str ("same route" : Str))) (dNil)))))) (.n 6) (dIfS (dTest (dOp (rInV) (dVar 6) (dVar 5))) (dRet (dTup (dCons (dVar 6) (dCons (dMt "list" mIndex (dVar 5) (dCons (dVar 6) (dNil))) (dNil))))) (dNext)))
  (dRet (dC .none))))))))

def t_is_error (S_is_signs : SpD) (S_is_within : SpD) : DS := dSeq (dIfS (dOr (dNot (dTru (dCall (rIsiV) (dCons (dVar 0) (dCons (dW (.ty "tuple")) (dNil)))))) (dOr (dTest (dOp (rNeV) (dCall (d1 gLen) (dCons (dVar 0) (dNil))) (dC (.int 3)))) (dOr (dTest (dOp (rNeV) (dOp gIx (dVar 0) (dC (.int 0))) (dVar 1))) (dNot (dTru (dCall S_is_within (dCons (dOp gIx (dVar 0) (dC (.int 1))) (dCons (dC (.int 400)) (dCons (dC (.int 599)) (dNil)))))))))) (dRet (dC (.bool false))) (dNext))
  (dRet (dAndV (dCall S_is_signs (dCons (dOp gIx (dVar 0) (dC (.int 2))) (dNil))) (dOp (rI2 fun i j => .bool (decide (i ≤ j))) (dCall (d1 gLen) (dCons (dOp gIx (dVar 0) (dC (.int 2))) (dNil))) (dC c_MOST_TEXT))))

def t_fault_errors (S_is_error : SpD) : DS := dSeq (dSet (dOp gDGet (dVar 0) (dC (.str ("errors" : Str)))) 1)
  (dSeq (dIfS (dOr (dNot (dTru (dCall (rIsiV) (dCons (dVar 1) (dCons (dW (.ty "tuple")) (dNil)))))) (dTest (dOp (rNeV) (dCall (d1 gLen) (dCons (dVar 1) (dNil))) (dCall (d1 gLen) (dCons (dC c_ERROR_WORDS) (dNil)))))) (dRet (dTup (dCons (dC (.str ("error" : Str))) (dCons (dC .none) (dNil))))) (dNext))
  (dSeq (dFor (iRg (dCons (dCall (d1 gLen) (dCons (dVar 1) (dNil))) (dNil))) (.n 2) (dIfS (dNot (dTru (dCall S_is_error (dCons (dOp gIx (dVar 1) (dVar 2)) (dCons (dOp gIx (dC c_ERROR_WORDS) (dVar 2)) (dNil)))))) (dRet (dTup (dCons (dC (.str ("error" : Str))) (dCons (dVar 2) (dNil))))) (dNext)))
  (dRet (dC .none))))

def t_error_row  : DS := dRet (dSl (dOp gIx (dVar 0) (dCIdx w_ERROR_WORDS (dVar 1))) (dPart (dC (.int 1))) dNoP)

def t_fits_route  : DS := dRet (dAndV (dOp (rInV) (dOp gIx (dVar 0) (dC (.int 0))) (dTup (dCons (dVar 2) (dCons (dC (.str ("*" : Str))) (dNil))))) (dAndV (dOp (rInV) (dVar 1) (dOp gIx (dVar 0) (dC (.int 2)))) (dOp (rEqV) (dCall (d1 gTuple) (dCons (dSl (dVar 3) dNoP (dPart (dCall (d1 gLen) (dCons (dOp gIx (dVar 0) (dC (.int 1))) (dNil))))) (dNil))) (dOp gIx (dVar 0) (dC (.int 1))))))

def t_longest (S_fits_route : SpD) : DS := dSeq (dSet (dC .none) 4)
  (dSeq (dFor (iRg (dCons (dCall (d1 gLen) (dCons (dVar 0) (dNil))) (dNil))) (.n 5) (dSeq (dSet (dOp gIx (dVar 0) (dVar 5)) 6)
  (dIfS (dAnd (dTest (dOp (rEqV) (dOp gIx (dVar 6) (dC (.int 0))) (dVar 2))) (dTru (dCall S_fits_route (dCons (dVar 6) (dCons (dVar 1) (dCons (dVar 2) (dCons (dVar 3) (dNil)))))))) (dIfS (dOr (dTest (dOp (rIsV) (dVar 4) (dC .none))) (dTest (dOp (rI2 fun i j => .bool (decide (j < i))) (dCall (d1 gLen) (dCons (dOp gIx (dVar 6) (dC (.int 1))) (dNil))) (dCall (d1 gLen) (dCons (dOp gIx (dOp gIx (dVar 0) (dVar 4)) (dC (.int 1))) (dNil)))))) (dSet (dVar 5) 4) (dNext)) (dNext))))
  (dRet (dVar 4)))

def t_route_of (S_longest : SpD) : DS := dSeq (dSet (dCall S_longest (dCons (dVar 0) (dCons (dVar 1) (dCons (dVar 2) (dCons (dVar 3) (dNil)))))) 4)
  (dRet (dIf (dTest (dOp (rIsV) (dVar 4) (dC .none))) (dCall S_longest (dCons (dVar 0) (dCons (dVar 1) (dCons (dC (.str ("*" : Str))) (dCons (dVar 3) (dNil)))))) (dVar 4)))

def t__law_draw  : DS := dSeq (dIfS (dTest (dOp (rEqV) (dOp gIx (dVar 0) (dC (.int 0))) (dC (.int 0)))) (dSeq (dSet (dC (.int 0)) 2)
  (dSeq (dIfS (dTest (dOp (rI2 fun i j => .bool (decide (i < j))) (dOp gIx (dVar 0) (dC (.int 2))) (dCall (d1 gLen) (dCons (dOp gIx (dVar 0) (dC (.int 1))) (dNil))))) (dSet (dCall (d1 gAbs) (dCons (dCall (d1 gInt) (dCons (dOp gIx (dOp gIx (dVar 0) (dC (.int 1))) (dOp gIx (dVar 0) (dC (.int 2)))) (dNil))) (dNil))) 2) (dNext))
  (dSeq (dSub (dOp (rAddV) (dOp gIx (dVar 0) (dC (.int 2))) (dC (.int 1))) (dVar 0) (dC (.int 2)))
  (dSeq (dSub (dVar 2) (dVar 0) (dC (.int 0)))
  (dIfS (dTest (dOp (rI2 fun i j => .bool (decide (i < j))) (dVar 2) (dOp (rII CPow fun i j => .int (i ^ j.toNat)) (dC (.int 10)) (dC (.int 18))))) (dSeq (dSet (dOp (rII (fun _ j => 0 < j) fun i j => .int (i % j)) (dCall (d1 gInt) (dCons (dOp (rAddV) (dOp (rAddV) (dOp (rMulV) (dVar 2) (dC (.int 48271))) (dOp (rMulV) (dOp gIx (dVar 0) (dC (.int 2))) (dC (.int 69621)))) (dC (.int 12345))) (dNil))) (dC (.int 2147483647))) 3)
  (dSub (dOp (rAddV) (dOp (rMulV) (dVar 3) (dC (.int 2147483629))) (dOp (rII (fun _ j => 0 < j) fun i j => .int (i % j)) (dCall (d1 gInt) (dCons (dOp (rAddV) (dOp (rMulV) (dVar 3) (dC (.int 16807))) (dC (.int 11))) (dNil))) (dC (.int 2147483629)))) (dVar 0) (dC (.int 0)))) (dNext)))))) (dNext))
  (dSeq (dSet (dOp gIx (dVar 0) (dC (.int 0))) 4)
  (dSeq (dSub (dOp (rII CDiv fun i j => .int (i / j)) (dVar 4) (dVar 1)) (dVar 0) (dC (.int 0)))
  (dRet (dOp (rII (fun _ j => 0 < j) fun i j => .int (i % j)) (dCall (d1 gInt) (dCons (dVar 4) (dNil))) (dVar 1)))))

def t__law_pick (S__law_draw : SpD) : DS := dRet (dOp gIx (dVar 1) (dCall S__law_draw (dCons (dVar 0) (dCons (dCall (d1 gLen) (dCons (dVar 1) (dNil))) (dNil)))))

def t__law_route (S__law_draw : SpD) (S__law_pick : SpD) : DS := dSeq (dSet (dCall S__law_pick (dCons (dVar 0) (dCons (dLst (dCons (dC (.str ("*" : Str))) (dCons (dC (.str ("*" : Str))) (dCons (dC (.str ("a" : Str))) (dCons (dC (.str ("b" : Str))) (dCons (dC (.str ("a.b" : Str))) (dNil))))))) (dNil)))) 1)
  (dSeq (dSet (dCall (d1 gTuple) (dCons (dLc (iRg (dCons (dCall S__law_pick (dCons (dVar 0) (dCons (dLst (dCons (dC (.int 0)) (dCons (dC (.int 0)) (dCons (dC (.int 1)) (dCons (dC (.int 1)) (dCons (dC (.int 2)) (dCons (dC (.int 3)) (dCons (dC (.int 4)) (dCons (dC (.int 8)) (dNil)))))))))) (dNil)))) (dNil))) (.n 7) dYes (dCall S__law_pick (dCons (dVar 0) (dCons (dLst (dCons (dC (.str ("x" : Str))) (dCons (dC (.str ("y" : Str))) (dCons (dC (.str ("x y" : Str))) (dNil))))) (dNil)))) [7]) (dNil))) 2)
  (dSeq (dSet (dLc (iSeq (dLst (dCons (dC (.str ("GET" : Str))) (dCons (dC (.str ("HEAD" : Str))) (dCons (dC (.str ("PUT" : Str))) (dCons (dC (.str ("POST" : Str))) (dCons (dC (.str ("DELETE" : Str))) (dNil)))))))) (.n 8) (dTest (dOp (rEqV) (dCall S__law_draw (dCons (dVar 0) (dCons (dC (.int 2)) (dNil)))) (dC (.int 0)))) (dVar 8) [8]) 3)
  (dSeq (dIfS (dTest (dOp (rEqV) (dVar 3) (dLst (dNil)))) (dSet (dLst (dCons (dC (.str ("GET" : Str))) (dNil))) 3) (dNext))
  (dSeq (dSet (dCall (d1 gTuple) (dCons (dLc (iRg (dCons (dCall S__law_draw (dCons (dVar 0) (dCons (dC (.int 5)) (dNil)))) (dNil))) (.n 7) dYes (dCall S__law_pick (dCons (dVar 0) (dCons (dLst (dCons (dC (.str ("p" : Str))) (dCons (dC (.str ("q.r" : Str))) (dNil)))) (dNil)))) [7]) (dNil))) 4)
  (dSeq (dSet (dCall (d1 gTuple) (dCons (dSl (dLst (dCons (dC (.str ("few" : Str))) (dCons (dC (.str ("slow" : Str))) (dCons (dC (.str ("mid" : Str))) (dCons (dC (.str ("big" : Str))) (dNil)))))) dNoP (dPart (dCall S__law_draw (dCons (dVar 0) (dCons (dC (.int 5)) (dNil)))))) (dNil))) 5)
  (dSeq (dSet (dCall S__law_pick (dCons (dVar 0) (dCons (dLst (dCons (dC (.str ("web" : Str))) (dCons (dC (.str ("files" : Str))) (dNil)))) (dNil)))) 6)
  (dRet (dTup (dCons (dVar 1) (dCons (dVar 2) (dCons (dCall (d1 gTuple) (dCons (dVar 3) (dNil))) (dCons (dVar 6) (dCons (dCall S__law_draw (dCons (dVar 0) (dCons (dOp (rAddV) (dCall (d1 gLen) (dCons (dVar 2) (dNil))) (dC (.int 1))) (dNil)))) (dCons (dVar 4) (dCons (dVar 5) (dCons (dOp (rAddV) (dC (.int 1)) (dCall S__law_draw (dCons (dVar 0) (dCons (dC (.int 1000)) (dNil))))) (dCons (dOp (rAddV) (dC (.int 1)) (dCall S__law_draw (dCons (dVar 0) (dCons (dC (.int 3)) (dNil))))) (dNil))))))))))))))))))

def t__law_same  : DS := dRet (dAndV (dOp (rEqV) (dOp gIx (dVar 0) (dC (.int 0))) (dOp gIx (dVar 1) (dC (.int 0)))) (dAndV (dOp (rEqV) (dOp gIx (dVar 0) (dC (.int 1))) (dOp gIx (dVar 1) (dC (.int 1)))) (dOp (rNeV) (dLc (iSeq (dOp gIx (dVar 0) (dC (.int 2)))) (.n 2) (dTest (dOp (rInV) (dVar 2) (dOp gIx (dVar 1) (dC (.int 2))))) (dVar 2) [2]) (dLst (dNil)))))

def t__law_routes (S__law_pick : SpD) (S__law_draw : SpD) (S__law_same : SpD) (S__law_route : SpD) : DS := dSeq (dSet (dLstM (dNil)) 1)
  (dSeq (dFor (iRg (dCons (dCall S__law_pick (dCons (dVar 0) (dCons (dLst (dCons (dCall S__law_draw (dCons (dVar 0) (dCons (dC (.int 13)) (dNil)))) (dCons (dCall S__law_draw (dCons (dVar 0) (dCons (dC (.int 13)) (dNil)))) (dCons (dC (.int 120)) (dNil))))) (dNil)))) (dNil))) (.n 2) (dSeq (dSet (dCall S__law_route (dCons (dVar 0) (dNil))) 3)
  (dIfS (dAnd (dTest (dOp (rI2 fun i j => .bool (decide (i < j))) (dCall (d1 gLen) (dCons (dVar 1) (dNil))) (dC (.int 40)))) (dNot (dTru (dCall (d1 gAny) (dCons (dLc (iSeq (dVar 1)) (.n 4) dYes (dCall S__law_same (dCons (dVar 3) (dCons (dVar 4) (dNil)))) [4]) (dNil)))))) (dDrop (dMt "list" mAppend (dVar 1) (dCons (dVar 3) (dNil)))) (dNext))))
  (dRet (dFrz (dVar 1))))

def t__law_due  : DS := dSeq (dFor (iSeq (dTup (dCons (dVar 2) (dCons (dC (.str ("*" : Str))) (dNil))))) (.n 4) (dSeq (dSet (dC .none) 5)
  (dSeq (dFor (iRg (dCons (dCall (d1 gLen) (dCons (dVar 0) (dNil))) (dNil))) (.n 6) (dSeq (dSet (dOp gIx (dVar 0) (dVar 6)) 7)
  (dIfS (dAnd (dTest (dOp (rEqV) (dOp gIx (dVar 7) (dC (.int 0))) (dVar 4))) (dAnd (dTest (dOp (rInV) (dVar 1) (dOp gIx (dVar 7) (dC (.int 2))))) (dTest (dOp (rEqV) (dCall (d1 gList) (dCons (dOp gIx (dVar 7) (dC (.int 1))) (dNil))) (dSl (dCall (d1 gList) (dCons (dVar 3) (dNil))) dNoP (dPart (dCall (d1 gLen) (dCons (dOp gIx (dVar 7) (dC (.int 1))) (dNil))))))))) (dIfS (dOr (dTest (dOp (rIsV) (dVar 5) (dC .none))) (dTest (dOp (rI2 fun i j => .bool (decide (j < i))) (dCall (d1 gLen) (dCons (dOp gIx (dVar 7) (dC (.int 1))) (dNil))) (dCall (d1 gLen) (dCons (dOp gIx (dOp gIx (dVar 0) (dVar 5)) (dC (.int 1))) (dNil)))))) (dSet (dVar 6) 5) (dNext)) (dNext))))
  (dIfS (dTest (dOp (rNotIsV) (dVar 5) (dC .none))) (dRet (dVar 5)) (dNext)))))
  (dRet (dC .none))

def t__law_policy  : DS := dSeq (dSet (dTup (dCons (dTup (dCons (dC (.str ("s" : Str))) (dCons (dC (.int 167772161)) (dCons (dC (.int 80)) (dCons (dC (.int 1)) (dCons (dC (.str ("up" : Str))) (dNil))))))) (dNil))) 1)
  (dSeq (dSet (dTup (dCons (dTup (dCons (dC (.str ("few" : Str))) (dCons (dC (.str ("open" : Str))) (dCons (dTup (dCons (dC (.int 3)) (dNil))) (dCons (dTup (dNil)) (dNil)))))) (dCons (dTup (dCons (dC (.str ("slow" : Str))) (dCons (dC (.str ("bucket" : Str))) (dCons (dTup (dCons (dC (.int 1)) (dCons (dC (.int 1)) (dCons (dC (.int 5)) (dNil))))) (dCons (dTup (dCons (dC (.str ("outside" : Str))) (dNil))) (dNil)))))) (dCons (dTup (dCons (dC (.str ("mid" : Str))) (dCons (dC (.str ("open" : Str))) (dCons (dTup (dCons (dC (.int 2)) (dNil))) (dCons (dTup (dNil)) (dNil)))))) (dCons (dTup (dCons (dC (.str ("big" : Str))) (dCons (dC (.str ("open" : Str))) (dCons (dTup (dCons (dC (.int 9)) (dNil))) (dCons (dTup (dNil)) (dNil)))))) (dNil)))))) 2)
  (dRet (dDisp [(dC (.str ("services" : Str)), dTup (dCons (dTup (dCons (dC (.str ("web" : Str))) (dCons (dVar 1) (dCons (dC (.str ("turns" : Str))) (dCons (dC .none) (dNil)))))) (dCons (dTup (dCons (dC (.str ("files" : Str))) (dCons (dVar 1) (dCons (dC (.str ("least" : Str))) (dCons (dC .none) (dNil)))))) (dNil)))), (dC (.str ("limits" : Str)), dVar 2), (dC (.str ("routes" : Str)), dVar 0)])))

def t__law_bent (S__law_draw : SpD) : DS := dSeq (dAsg (dVar 1) (.t [2, 3, 4, 5, 6, 7, 8, 9, 10]))
  (dSeq (dSet (dLst (dCons (dTup (dCons (dC (.str ("route" : Str))) (dCons (dTup (dCons (dC (.str ("A" : Str))) (dCons (dVar 3) (dCons (dVar 4) (dCons (dVar 5) (dCons (dVar 6) (dCons (dVar 7) (dCons (dVar 8) (dCons (dVar 9) (dCons (dVar 10) (dNil))))))))))) (dNil)))) (dCons (dTup (dCons (dC (.str ("route" : Str))) (dCons (dTup (dCons (dC (.str ("" : Str))) (dCons (dVar 3) (dCons (dVar 4) (dCons (dVar 5) (dCons (dVar 6) (dCons (dVar 7) (dCons (dVar 8) (dCons (dVar 9) (dCons (dVar 10) (dNil))))))))))) (dNil)))) (dCons (dTup (dCons (dC (.str ("route" : Str))) (dCons (dTup (dCons (dVar 2) (dCons (dTup (dCons (dC (.str ("a/b" : Str))) (dNil))) (dCons (dVar 4) (dCons (dVar 5) (dCons (dC (.int 0)) (dCons (dVar 7) (dCons (dVar 8) (dCons (dVar 9) (dCons (dVar 10) (dNil))))))))))) (dNil)))) (dCons (dTup (dCons (dC (.str ("route" : Str))) (dCons (dTup (dCons (dVar 2) (dCons (dOp (rMulV) (dTup (dCons (dC (.str ("x" : Str))) (dNil))) (dC (.int 9))) (dCons (dVar 4) (dCons (dVar 5) (dCons (dC (.int 0)) (dCons (dVar 7) (dCons (dVar 8) (dCons (dVar 9) (dCons (dVar 10) (dNil))))))))))) (dNil)))) (dCons (dTup (dCons (dC (.str ("route" : Str))) (dCons (dTup (dCons (dVar 2) (dCons (dVar 3) (dCons (dTup (dNil)) (dCons (dVar 5) (dCons (dVar 6) (dCons (dVar 7) (dCons (dVar 8) (dCons (dVar 9) (dCons (dVar 10) (dNil))))))))))) (dNil)))) (dCons (dTup (dCons (dC (.str ("route" : Str))) (dCons (dTup (dCons (dVar 2) (dCons (dVar 3) (dCons (dTup (dCons (dC (.str ("HEAD" : Str))) (dCons (dC (.str ("GET" : Str))) (dNil)))) (dCons (dVar 5) (dCons (dVar 6) (dCons (dVar 7) (dCons (dVar 8) (dCons (dVar 9) (dCons (dVar 10) (dNil))))))))))) (dNil)))) (dCons (dTup (dCons (dC (.str ("route" : Str))) (dCons (dTup (dCons (dVar 2) (dCons (dVar 3) (dCons (dTup (dCons (dC (.str ("GET" : Str))) (dCons (dC (.str ("GET" : Str))) (dNil)))) (dCons (dVar 5) (dCons (dVar 6) (dCons (dVar 7) (dCons (dVar 8) (dCons (dVar 9) (dCons (dVar 10) (dNil))))))))))) (dNil)))) (dCons (dTup (dCons (dC (.str ("route" : Str))) (dCons (dTup (dCons (dVar 2) (dCons (dVar 3) (dCons (dTup (dCons (dC (.str ("get" : Str))) (dNil))) (dCons (dVar 5) (dCons (dVar 6) (dCons (dVar 7) (dCons (dVar 8) (dCons (dVar 9) (dCons (dVar 10) (dNil))))))))))) (dNil)))) (dCons (dTup (dCons (dC (.str ("route" : Str))) (dCons (dTup (dCons (dVar 2) (dCons (dVar 3) (dCons (dVar 4) (dCons (dC (.int 5)) (dCons (dVar 6) (dCons (dVar 7) (dCons (dVar 8) (dCons (dVar 9) (dCons (dVar 10) (dNil))))))))))) (dNil)))) (dCons (dTup (dCons (dC (.str ("route" : Str))) (dCons (dTup (dCons (dVar 2) (dCons (dVar 3) (dCons (dVar 4) (dCons (dVar 5) (dCons (dOp (rAddV) (dCall (d1 gLen) (dCons (dVar 3) (dNil))) (dC (.int 1))) (dCons (dVar 7) (dCons (dVar 8) (dCons (dVar 9) (dCons (dVar 10) (dNil))))))))))) (dNil)))) (dCons (dTup (dCons (dC (.str ("route" : Str))) (dCons (dTup (dCons (dVar 2) (dCons (dVar 3) (dCons (dVar 4) (dCons (dVar 5) (dCons (dNeg (dC (.int 1))) (dCons (dVar 7) (dCons (dVar 8) (dCons (dVar 9) (dCons (dVar 10) (dNil))))))))))) (dNil)))) (dCons (dTup (dCons (dC (.str ("route" : Str))) (dCons (dTup (dCons (dVar 2) (dCons (dVar 3) (dCons (dVar 4) (dCons (dVar 5) (dCons (dVar 6) (dCons (dTup (dCons (dC (.str ("a b" : Str))) (dNil))) (dCons (dVar 8) (dCons (dVar 9) (dCons (dVar 10) (dNil))))))))))) (dNil)))) (dCons (dTup (dCons (dC (.str ("route" : Str))) (dCons (dTup (dCons (dVar 2) (dCons (dVar 3) (dCons (dVar 4) (dCons (dVar 5) (dCons (dVar 6) (dCons (dOp (rMulV) (dTup (dCons (dC (.str ("p" : Str))) (dNil))) (dC (.int 5))) (dCons (dVar 8) (dCons (dVar 9) (dCons (dVar 10) (dNil))))))))))) (dNil)))) (dCons (dTup (dCons (dC (.str ("route" : Str))) (dCons (dTup (dCons (dVar 2) (dCons (dVar 3) (dCons (dVar 4) (dCons (dVar 5) (dCons (dVar 6) (dCons (dVar 7) (dCons (dTup (dCons (dC (.str ("few" : Str))) (dCons (dC (.str ("few" : Str))) (dNil)))) (dCons (dVar 9) (dCons (dVar 10) (dNil))))))))))) (dNil)))) (dCons (dTup (dCons (dC (.str ("route" : Str))) (dCons (dTup (dCons (dVar 2) (dCons (dVar 3) (dCons (dVar 4) (dCons (dVar 5) (dCons (dVar 6) (dCons (dVar 7) (dCons (dTup (dCons (dC (.str ("a" : Str))) (dCons (dC (.str ("b" : Str))) (dCons (dC (.str ("c" : Str))) (dCons (dC (.str ("d" : Str))) (dCons (dC (.str ("e" : Str))) (dNil))))))) (dCons (dVar 9) (dCons (dVar 10) (dNil))))))))))) (dNil)))) (dCons (dTup (dCons (dC (.str ("route" : Str))) (dCons (dTup (dCons (dVar 2) (dCons (dVar 3) (dCons (dVar 4) (dCons (dVar 5) (dCons (dVar 6) (dCons (dVar 7) (dCons (dVar 8) (dCons (dC (.int 0)) (dCons (dVar 10) (dNil))))))))))) (dNil)))) (dCons (dTup (dCons (dC (.str ("route" : Str))) (dCons (dTup (dCons (dVar 2) (dCons (dVar 3) (dCons (dVar 4) (dCons (dVar 5) (dCons (dVar 6) (dCons (dVar 7) (dCons (dVar 8) (dCons (dC (.int 1001)) (dCons (dVar 10) (dNil))))))))))) (dNil)))) (dCons (dTup (dCons (dC (.str ("route" : Str))) (dCons (dTup (dCons (dVar 2) (dCons (dVar 3) (dCons (dVar 4) (dCons (dVar 5) (dCons (dVar 6) (dCons (dVar 7) (dCons (dVar 8) (dCons (dVar 9) (dCons (dC (.int 0)) (dNil))))))))))) (dNil)))) (dCons (dTup (dCons (dC (.str ("route" : Str))) (dCons (dTup (dCons (dVar 2) (dCons (dVar 3) (dCons (dVar 4) (dCons (dVar 5) (dCons (dVar 6) (dCons (dVar 7) (dCons (dVar 8) (dCons (dVar 9) (dCons (dC (.int 4)) (dNil))))))))))) (dNil)))) (dCons (dTup (dCons (dC (.str ("route" : Str))) (dCons (dTup (dCons (dVar 2) (dCons (dVar 3) (dCons (dVar 4) (dCons (dVar 5) (dCons (dVar 6) (dCons (dVar 7) (dCons (dVar 8) (dCons (dC (.bool true)) (dCons (dVar 10) (dNil))))))))))) (dNil)))) (dCons (dTup (dCons (dC (.str ("route" : Str))) (dCons (dSl (dVar 1) dNoP (dPart (dC (.int 8)))) (dNil)))) (dCons (dTup (dCons (dC (.str ("route" : Str))) (dCons (dCall (d1 gList) (dCons (dVar 1) (dNil))) (dNil)))) (dCons (dTup (dCons (dC (.str ("route" : Str))) (dCons (dC .none) (dNil)))) (dCons (dTup (dCons (dC (.str ("no service" : Str))) (dCons (dTup (dCons (dVar 2) (dCons (dVar 3) (dCons (dVar 4) (dCons (dC (.str ("none" : Str))) (dCons (dVar 6) (dCons (dVar 7) (dCons (dVar 8) (dCons (dVar 9) (dCons (dVar 10) (dNil))))))))))) (dNil)))) (dCons (dTup (dCons (dC (.str ("no limit" : Str))) (dCons (dTup (dCons (dVar 2) (dCons (dVar 3) (dCons (dVar 4) (dCons (dVar 5) (dCons (dVar 6) (dCons (dVar 7) (dCons (dTup (dCons (dC (.str ("few" : Str))) (dCons (dC (.str ("many" : Str))) (dNil)))) (dCons (dVar 9) (dCons (dVar 10) (dNil))))))))))) (dNil)))) (dCons (dTup (dCons (dC (.str ("same route" : Str))) (dCons (dVar 1) (dNil)))) (dNil)))))))))))))))))))))))))))) 11)
  (dRet (dOp gIx (dVar 11) (dCall S__law_draw (dCons (dVar 0) (dCons (dCall (d1 gLen) (dCons (dVar 11) (dNil))) (dNil)))))))

def t__law_faults (S_fault_routes : SpD) (S__law_policy : SpD) (S__law_pick : SpD) (S__law_draw : SpD) (S__law_bent : SpD) : DS := dSeq (dIfS (dTest (dOp (rNotIsV) (dCall S_fault_routes (dCons (dCall S__law_policy (dCons (dCall (d1 gTuple) (dCons (dVar 1) (dNil))) (dNil))) (dNil))) (dC .none))) (dRet (dC (.bool false))) (dNext))
  (dSeq (dSet (dTup (dCons (dC (.str ("a.b" : Str))) (dCons (dTup (dCons (dC (.str ("z" : Str))) (dNil))) (dCons (dTup (dCons (dC (.str ("GET" : Str))) (dCons (dC (.str ("PUT" : Str))) (dNil)))) (dCons (dC (.str ("web" : Str))) (dCons (dC (.int 1)) (dCons (dTup (dCons (dC (.str ("p" : Str))) (dNil))) (dCons (dTup (dCons (dC (.str ("few" : Str))) (dNil))) (dCons (dC (.int 5)) (dCons (dC (.int 2)) (dNil))))))))))) 2)
  (dSeq (dAsg (dCall S__law_bent (dCons (dVar 0) (dCons (dVar 2) (dNil)))) (.t [3, 4]))
  (dSeq (dSet (dCall S__law_draw (dCons (dVar 0) (dCons (dOp (rAddV) (dCall (d1 gLen) (dCons (dVar 1) (dNil))) (dC (.int 1))) (dNil)))) 5)
  (dSeq (dSet (dOp (rAddV) (dOp (rAddV) (dSl (dVar 1) dNoP (dPart (dVar 5))) (dLst (dCons (dVar 4) (dNil)))) (dSl (dVar 1) (dPart (dVar 5)) dNoP)) 6)
  (dSeq (dIfS (dTest (dOp (rEqV) (dVar 3) (dC (.str ("same route" : Str))))) (dSeq (dSet (dOp (rAddV) (dOp (rAddV) (dOp (rAddV) (dSl (dVar 1) dNoP (dPart (dVar 5))) (dLst (dCons (dVar 2) (dNil)))) (dSl (dVar 1) (dPart (dVar 5)) dNoP)) (dLst (dCons (dTup (dCons (dC (.str ("a.b" : Str))) (dCons (dTup (dCons (dC (.str ("z" : Str))) (dNil))) (dCons (dTup (dCons (dC (.str ("HEAD" : Str))) (dCons (dC (.str ("PUT" : Str))) (dNil)))) (dCons (dC (.str ("files" : Str))) (dCons (dC (.int 0)) (dCons (dTup (dNil)) (dCons (dTup (dNil)) (dCons (dC (.int 1)) (dCons (dC (.int 1)) (dNil))))))))))) (dNil)))) 6)
  (dSet (dOp (rI2 fun i j => .int (i - j)) (dCall (d1 gLen) (dCons (dVar 6) (dNil))) (dC (.int 1))) 5)) (dNext))
  (dSeq (dIfS (dTest (dOp (rNeV) (dCall S_fault_routes (dCons (dCall S__law_policy (dCons (dCall (d1 gTuple) (dCons (dVar 6) (dNil))) (dNil))) (dNil))) (dTup (dCons (dVar 3) (dCons (dVar 5) (dNil)))))) (dRet (dC (.bool false))) (dNext))
  (dSeq (dSet (dCall S__law_pick (dCons (dVar 0) (dCons (dLst (dCons (dCall (d1 gList) (dCons (dVar 1) (dNil))) (dCons (dC .none) (dCons (dIf (dTest (dOp (rNeV) (dVar 1) (dLst (dNil)))) (dCall (d1 gTuple) (dCons (dOp (rMulV) (dSl (dVar 1) dNoP (dPart (dC (.int 1)))) (dC (.int 41))) (dNil))) (dC (.int 5))) (dCons (dC (.str ("ab" : Str))) (dNil)))))) (dNil)))) 7)
  (dRet (dOp (rEqV) (dCall S_fault_routes (dCons (dCall S__law_policy (dCons (dVar 7) (dNil))) (dNil))) (dTup (dCons (dC (.str ("route" : Str))) (dCons (dC .none) (dNil)))))))))))))

def t__law_two_faults (S_fault_routes : SpD) (S__law_policy : SpD) (S__law_draw : SpD) : DS := dSeq (dSet (dTup (dCons (dC (.str ("a.b" : Str))) (dCons (dTup (dCons (dC (.str ("z" : Str))) (dNil))) (dCons (dTup (dCons (dC (.str ("GET" : Str))) (dCons (dC (.str ("PUT" : Str))) (dNil)))) (dCons (dC (.str ("web" : Str))) (dCons (dC (.int 1)) (dCons (dTup (dCons (dC (.str ("p" : Str))) (dNil))) (dCons (dTup (dCons (dC (.str ("few" : Str))) (dNil))) (dCons (dC (.int 5)) (dCons (dC (.int 2)) (dNil))))))))))) 2)
  (dSeq (dSet (dLst (dCons (dC (.str ("route" : Str))) (dCons (dC (.str ("no service" : Str))) (dCons (dC (.str ("no limit" : Str))) (dNil))))) 3)
  (dSeq (dSet (dLst (dCons (dSl (dVar 2) dNoP (dPart (dC (.int 8)))) (dCons (dOp (rAddV) (dOp (rAddV) (dSl (dVar 2) dNoP (dPart (dC (.int 3)))) (dTup (dCons (dC (.str ("none" : Str))) (dNil)))) (dSl (dVar 2) (dPart (dC (.int 4))) dNoP)) (dCons (dOp (rAddV) (dOp (rAddV) (dSl (dVar 2) dNoP (dPart (dC (.int 6)))) (dTup (dCons (dTup (dCons (dC (.str ("few" : Str))) (dCons (dC (.str ("many" : Str))) (dNil)))) (dNil)))) (dSl (dVar 2) (dPart (dC (.int 7))) dNoP)) (dNil))))) 4)
  (dSeq (dSet (dCall S__law_draw (dCons (dVar 0) (dCons (dC (.int 3)) (dNil)))) 5)
  (dSeq (dSet (dOp (rII (fun _ j => 0 < j) fun i j => .int (i % j)) (dCall (d1 gInt) (dCons (dOp (rAddV) (dOp (rAddV) (dVar 5) (dC (.int 1))) (dCall S__law_draw (dCons (dVar 0) (dCons (dC (.int 2)) (dNil))))) (dNil))) (dC (.int 3))) 6)
  (dSeq (dSet (dCall S__law_draw (dCons (dVar 0) (dCons (dOp (rAddV) (dCall (d1 gLen) (dCons (dVar 1) (dNil))) (dC (.int 1))) (dNil)))) 7)
  (dSeq (dSet (dOp (rAddV) (dOp (rAddV) (dOp (rAddV) (dSl (dVar 1) dNoP (dPart (dVar 7))) (dLst (dCons (dOp gIx (dVar 4) (dVar 5)) (dNil)))) (dSl (dVar 1) (dPart (dVar 7)) dNoP)) (dLst (dCons (dOp gIx (dVar 4) (dVar 6)) (dNil)))) 8)
  (dSeq (dSet (dIf (dTest (dOp (rI2 fun i j => .bool (decide (i < j))) (dVar 5) (dVar 6))) (dTup (dCons (dOp gIx (dVar 3) (dVar 5)) (dCons (dVar 7) (dNil)))) (dTup (dCons (dOp gIx (dVar 3) (dVar 6)) (dCons (dOp (rI2 fun i j => .int (i - j)) (dCall (d1 gLen) (dCons (dVar 8) (dNil))) (dC (.int 1))) (dNil))))) 9)
  (dSeq (dIfS (dTest (dOp (rNeV) (dCall S_fault_routes (dCons (dCall S__law_policy (dCons (dCall (d1 gTuple) (dCons (dVar 8) (dNil))) (dNil))) (dNil))) (dVar 9))) (dRet (dC (.bool false))) (dNext))
  (dSeq (dSet (dOp (rAddV) (dOp (rAddV) (dOp (rAddV) (dSl (dVar 1) dNoP (dPart (dVar 7))) (dLst (dCons (dVar 2) (dNil)))) (dSl (dVar 1) (dPart (dVar 7)) dNoP)) (dLst (dCons (dTup (dCons (dC (.str ("a.b" : Str))) (dCons (dTup (dCons (dC (.str ("z" : Str))) (dNil))) (dCons (dTup (dCons (dC (.str ("HEAD" : Str))) (dCons (dC (.str ("PUT" : Str))) (dNil)))) (dCons (dC (.str ("files" : Str))) (dCons (dC (.int 0)) (dCons (dTup (dNil)) (dCons (dTup (dNil)) (dCons (dC (.int 1)) (dCons (dC (.int 1)) (dNil))))))))))) (dCons (dOp gIx (dVar 4) (dVar 5)) (dNil))))) 10)
  (dRet (dOp (rEqV) (dCall S_fault_routes (dCons (dCall S__law_policy (dCons (dCall (d1 gTuple) (dCons (dVar 10) (dNil))) (dNil))) (dNil))) (dTup (dCons (dOp gIx (dVar 3) (dVar 5)) (dCons (dOp (rI2 fun i j => .int (i - j)) (dCall (d1 gLen) (dCons (dVar 10) (dNil))) (dC (.int 1))) (dNil)))))))))))))))

def t__law_errors (S_fault_errors : SpD) (S__law_draw : SpD) (S_error_row : SpD) (S__law_pick : SpD) : DS := dSeq (dSet (dLst (dCons (dC (.str ("refused" : Str))) (dCons (dC (.str ("no route" : Str))) (dCons (dC (.str ("none" : Str))) (dCons (dC (.str ("limit" : Str))) (dCons (dC (.str ("broken" : Str))) (dCons (dC (.str ("late" : Str))) (dNil)))))))) 1)
  (dSeq (dSet (dLcM (iSeq (dVar 1)) (.n 3) dYes (dTup (dCons (dVar 3) (dCons (dOp (rAddV) (dC (.int 400)) (dCall S__law_draw (dCons (dVar 0) (dCons (dC (.int 200)) (dNil))))) (dCons (dOp (rMulS) (dC (.str ("t" : Str))) (dCall S__law_pick (dCons (dVar 0) (dCons (dLst (dCons (dC (.int 0)) (dCons (dC (.int 3)) (dCons (dC (.int 200)) (dNil))))) (dNil))))) (dNil))))) [3]) 2)
  (dSeq (dIfS (dTest (dOp (rNotIsV) (dCall S_fault_errors (dCons (dDisp [(dC (.str ("errors" : Str)), dCall (d1 gTuple) (dCons (dVar 2) (dNil)))]) (dNil))) (dC .none))) (dRet (dC (.bool false))) (dNext))
  (dSeq (dSet (dCall S__law_pick (dCons (dVar 0) (dCons (dVar 1) (dNil)))) 3)
  (dSeq (dIfS (dTest (dOp (rNeV) (dCall S_error_row (dCons (dCall (d1 gTuple) (dCons (dVar 2) (dNil))) (dCons (dVar 3) (dNil)))) (dSl (dOp gIx (dVar 2) (dMt "list" mIndex (dVar 1) (dCons (dVar 3) (dNil)))) (dPart (dC (.int 1))) dNoP))) (dRet (dC (.bool false))) (dNext))
  (dSeq (dSet (dCall S__law_draw (dCons (dVar 0) (dCons (dC (.int 6)) (dNil)))) 4)
  (dSeq (dSet (dOp gIx (dVar 2) (dVar 4)) 5)
  (dSeq (dSet (dLst (dCons (dTup (dCons (dOp gIx (dVar 5) (dC (.int 0))) (dCons (dC (.int 399)) (dCons (dC (.str ("" : Str))) (dNil))))) (dCons (dTup (dCons (dOp gIx (dVar 5) (dC (.int 0))) (dCons (dC (.int 600)) (dCons (dC (.str ("" : Str))) (dNil))))) (dCons (dTup (dCons (dOp gIx (dVar 5) (dC (.int 0))) (dCons (dC (.int 404)) (dCons (dOp (rMulS) (dC (.str ("t" : Str))) (dC (.int 201))) (dNil))))) (dCons (dTup (dCons (dOp gIx (dVar 5) (dC (.int 0))) (dCons (dC (.int 404)) (dCons (dC (.str ("a\n" : Str))) (dNil))))) (dCons (dTup (dCons (dC (.str ("other" : Str))) (dCons (dC (.int 404)) (dCons (dC (.str ("" : Str))) (dNil))))) (dCons (dSl (dVar 5) dNoP (dPart (dC (.int 2)))) (dCons (dCall (d1 gList) (dCons (dVar 5) (dNil))) (dCons (dTup (dCons (dOp gIx (dVar 5) (dC (.int 0))) (dCons (dC (.bool true)) (dCons (dC (.str ("" : Str))) (dNil))))) (dCons (dC .none) (dNil))))))))))) 6)
  (dSeq (dSub (dOp gIx (dVar 6) (dCall S__law_draw (dCons (dVar 0) (dCons (dCall (d1 gLen) (dCons (dVar 6) (dNil))) (dNil))))) (dVar 2) (dVar 4))
  (dSeq (dIfS (dTest (dOp (rNeV) (dCall S_fault_errors (dCons (dDisp [(dC (.str ("errors" : Str)), dCall (d1 gTuple) (dCons (dVar 2) (dNil)))]) (dNil))) (dTup (dCons (dC (.str ("error" : Str))) (dCons (dVar 4) (dNil)))))) (dRet (dC (.bool false))) (dNext))
  (dRet (dCall (d1 gAll) (dCons (dLc (iSeq (dTup (dCons (dC .none) (dCons (dTup (dNil)) (dCons (dCall (d1 gTuple) (dCons (dSl (dVar 2) dNoP (dPart (dC (.int 5)))) (dNil))) (dCons (dCall (d1 gList) (dCons (dVar 2) (dNil))) (dCons (dCall (d1 gTuple) (dCons (dOp (rAddV) (dVar 2) (dSl (dVar 2) dNoP (dPart (dC (.int 1))))) (dNil))) (dNil)))))))) (.n 7) dYes (dOp (rEqV) (dCall S_fault_errors (dCons (dDisp [(dC (.str ("errors" : Str)), dVar 7)]) (dNil))) (dTup (dCons (dC (.str ("error" : Str))) (dCons (dC .none) (dNil))))) [7]) (dNil)))))))))))))

def t_law (S__law_faults : SpD) (S__law_two_faults : SpD) (S__law_errors : SpD) (S_fault_routes : SpD) (S__law_policy : SpD) (S_fits_route : SpD) (S_route_of : SpD) (S__law_due : SpD) (S__law_draw : SpD) (S__law_pick : SpD) (S__law_routes : SpD) (Z : Addr → List Int → Prop) : DS := dSeq (dSet (dShut TapeP (dLstM (dCons (dC (.int 0)) (dCons (dCall (d1 (gScr Z)) (dCons (dVar 0) (dNil))) (dCons (dC (.int 0)) (dNil)))))) 1)
  (dSeq (dSet (dCall S__law_routes (dCons (dVar 1) (dNil))) 2)
  (dSeq (dFor (iRg (dCons (dC (.int 8)) (dNil))) (.n 3) (dSeq (dSet (dCall S__law_pick (dCons (dVar 1) (dCons (dLst (dCons (dC (.str ("GET" : Str))) (dCons (dC (.str ("HEAD" : Str))) (dCons (dC (.str ("PUT" : Str))) (dCons (dC (.str ("POST" : Str))) (dCons (dC (.str ("DELETE" : Str))) (dNil))))))) (dNil)))) 4)
  (dSeq (dSet (dCall S__law_pick (dCons (dVar 1) (dCons (dLst (dCons (dC (.str ("a" : Str))) (dCons (dC (.str ("b" : Str))) (dCons (dC (.str ("a.b" : Str))) (dCons (dC (.str ("c" : Str))) (dCons (dC (.str ("x" : Str))) (dNil))))))) (dNil)))) 5)
  (dSeq (dSet (dCall (d1 gTuple) (dCons (dLc (iRg (dCons (dCall S__law_draw (dCons (dVar 1) (dCons (dC (.int 5)) (dNil)))) (dNil))) (.n 10) dYes (dCall S__law_pick (dCons (dVar 1) (dCons (dLst (dCons (dC (.str ("x" : Str))) (dCons (dC (.str ("y" : Str))) (dCons (dC (.str ("x y" : Str))) (dCons (dC (.str ("z" : Str))) (dNil)))))) (dNil)))) [10]) (dNil))) 6)
  (dSeq (dIfS (dAnd (dTest (dOp (rNeV) (dVar 2) (dLst (dNil)))) (dTest (dOp (rEqV) (dCall S__law_draw (dCons (dVar 1) (dCons (dC (.int 2)) (dNil)))) (dC (.int 0))))) (dSet (dOp (rAddV) (dOp gIx (dCall S__law_pick (dCons (dVar 1) (dCons (dVar 2) (dNil)))) (dC (.int 1))) (dSl (dVar 6) dNoP (dPart (dC (.int 1))))) 6) (dNext))
  (dSeq (dIfS (dTest (dOp (rNeV) (dCall S_route_of (dCons (dCall (d1 gTuple) (dCons (dVar 2) (dNil))) (dCons (dVar 4) (dCons (dVar 5) (dCons (dVar 6) (dNil)))))) (dCall S__law_due (dCons (dVar 2) (dCons (dVar 4) (dCons (dVar 5) (dCons (dVar 6) (dNil)))))))) (dRet (dC (.bool false))) (dNext))
  (dFor (iSeq (dVar 2)) (.n 7) (dSeq (dSet (dAndV (dOp (rInV) (dOp gIx (dVar 7) (dC (.int 0))) (dTup (dCons (dVar 5) (dCons (dC (.str ("*" : Str))) (dNil))))) (dAndV (dOp (rInV) (dVar 4) (dOp gIx (dVar 7) (dC (.int 2)))) (dOp (rEqV) (dSl (dVar 6) dNoP (dPart (dCall (d1 gLen) (dCons (dOp gIx (dVar 7) (dC (.int 1))) (dNil))))) (dOp gIx (dVar 7) (dC (.int 1)))))) 8)
  (dSeq (dSet (dCall S_fits_route (dCons (dVar 7) (dCons (dVar 4) (dCons (dVar 5) (dCons (dVar 6) (dNil)))))) 9)
  (dIfS (dOr (dNot (dTru (dCall (rIsiV) (dCons (dVar 9) (dCons (dW (.ty "bool")) (dNil)))))) (dTest (dOp (rNeV) (dVar 9) (dVar 8)))) (dRet (dC (.bool false))) (dNext)))))))))))
  (dSeq (dIfS (dTest (dOp (rNotIsV) (dCall S_fault_routes (dCons (dCall S__law_policy (dCons (dCall (d1 gTuple) (dCons (dVar 2) (dNil))) (dNil))) (dNil))) (dC .none))) (dRet (dC (.bool false))) (dNext))
  (dSeq (dSet (dSl (dVar 2) dNoP (dPart (dC (.int 36)))) 2)
  (dRet (dAndV (dCall S__law_faults (dCons (dVar 1) (dCons (dVar 2) (dNil)))) (dAndV (dCall S__law_two_faults (dCons (dVar 1) (dCons (dVar 2) (dNil)))) (dCall S__law_errors (dCons (dVar 1) (dNil))))))))))

end K47

end

section
set_option Elab.async false
set_option maxRecDepth 100000
set_option maxHeartbeats 4000000
set_option linter.all false
/-! printed by wip/gen.py: the bodies of the defs keep their transformers -/
namespace K47
open PySem PySem.Spec PyProof.Rows L2 VS

def top (i : Nat) : Stmt := PySem.Challenge.pw_gatedpolicy_k47_routes_of_requests.main.body.getD i (.Pass ⟨0, 0, 0, 0⟩)
abbrev s_is_number : Stmt := top 5
abbrev s_is_signs : Stmt := top 6
abbrev s_is_host : Stmt := top 7
abbrev s_is_segment : Stmt := top 12
abbrev s_is_plain_segment : Stmt := top 13
abbrev s_is_row_of : Stmt := top 23
abbrev s_is_within : Stmt := top 24
abbrev s_is_methods : Stmt := top 25
abbrev s_is_named : Stmt := top 26
abbrev s_is_route : Stmt := top 27
abbrev s_is_same : Stmt := top 28
abbrev s_fault_of_route : Stmt := top 29
abbrev s_fault_routes : Stmt := top 30
abbrev s_is_error : Stmt := top 31
abbrev s_fault_errors : Stmt := top 32
abbrev s_error_row : Stmt := top 33
abbrev s_fits_route : Stmt := top 34
abbrev s_longest : Stmt := top 35
abbrev s_route_of : Stmt := top 36
abbrev s__law_draw : Stmt := top 38
abbrev s__law_pick : Stmt := top 39
abbrev s__law_route : Stmt := top 40
abbrev s__law_same : Stmt := top 41
abbrev s__law_routes : Stmt := top 42
abbrev s__law_due : Stmt := top 43
abbrev s__law_policy : Stmt := top 44
abbrev s__law_bent : Stmt := top 45
abbrev s__law_faults : Stmt := top 46
abbrev s__law_two_faults : Stmt := top 47
abbrev s__law_errors : Stmt := top 48
abbrev s_law : Stmt := top 49
abbrev N_is_number : List Str := ["value"]
abbrev N_is_signs : List Str := ["value", "sign"]
abbrev N_is_host : List Str := ["value", "sign"]
abbrev N_is_segment : List Str := ["value"]
abbrev N_is_plain_segment : List Str := ["value", "sign"]
abbrev N_is_row_of : List Str := ["value", "most", "is_one", "one"]
abbrev N_is_within : List Str := ["value", "low", "high"]
abbrev N_is_methods : List Str := ["value", "names", "places", "row", "one", "index"]
abbrev N_is_named : List Str := ["value"]
abbrev N_is_route : List Str := ["value", "host", "prefix", "methods", "service", "taken", "put", "limits", "wait", "tries"]
abbrev N_is_same : List Str := ["route", "other", "method"]
abbrev N_fault_of_route : List Str := ["routes", "index", "services", "limits", "route", "name", "other"]
abbrev N_fault_routes : List Str := ["policy", "routes", "index", "services", "limits", "words", "word", "row"]
abbrev N_is_error : List Str := ["value", "word"]
abbrev N_fault_errors : List Str := ["policy", "errors", "index"]
abbrev N_error_row : List Str := ["errors", "word"]
abbrev N_fits_route : List Str := ["route", "method", "host", "segments"]
abbrev N_longest : List Str := ["routes", "method", "host", "segments", "best", "index", "route"]
abbrev N_route_of : List Str := ["routes", "method", "host", "segments", "found"]
abbrev N__law_draw : List Str := ["tape", "many", "cell", "mixed", "rest"]
abbrev N__law_pick : List Str := ["tape", "row"]
abbrev N__law_route : List Str := ["tape", "host", "prefix", "names", "put", "limits", "service", "k", "name"]
abbrev N__law_same : List Str := ["route", "other", "name"]
abbrev N__law_routes : List Str := ["tape", "rows", "turn", "route", "other"]
abbrev N__law_due : List Str := ["rows", "method", "host", "segments", "asked", "best", "index", "route"]
abbrev N__law_policy : List Str := ["rows", "servers", "limits"]
abbrev N__law_bent : List Str := ["tape", "route", "host", "prefix", "methods", "service", "taken", "put", "limits", "wait", "tries", "odd"]
abbrev N__law_faults : List Str := ["tape", "rows", "route", "word", "bent", "at", "long", "unfit"]
abbrev N__law_two_faults : List Str := ["tape", "rows", "route", "words", "odd", "first", "other", "at", "long", "due", "twice"]
abbrev N__law_errors : List Str := ["tape", "words", "rows", "word", "at", "row", "odd", "value"]
abbrev N_law : List Str := ["script", "tape", "rows", "turn", "method", "host", "segments", "route", "due", "told", "k"]
abbrev P_is_number : List Str := ["value"]
abbrev P_is_signs : List Str := ["value"]
abbrev P_is_host : List Str := ["value"]
abbrev P_is_segment : List Str := ["value"]
abbrev P_is_plain_segment : List Str := ["value"]
abbrev P_is_row_of : List Str := ["value", "most", "is_one"]
abbrev P_is_within : List Str := ["value", "low", "high"]
abbrev P_is_methods : List Str := ["value"]
abbrev P_is_named : List Str := ["value"]
abbrev P_is_route : List Str := ["value"]
abbrev P_is_same : List Str := ["route", "other"]
abbrev P_fault_of_route : List Str := ["routes", "index", "services", "limits"]
abbrev P_fault_routes : List Str := ["policy"]
abbrev P_is_error : List Str := ["value", "word"]
abbrev P_fault_errors : List Str := ["policy"]
abbrev P_error_row : List Str := ["errors", "word"]
abbrev P_fits_route : List Str := ["route", "method", "host", "segments"]
abbrev P_longest : List Str := ["routes", "method", "host", "segments"]
abbrev P_route_of : List Str := ["routes", "method", "host", "segments"]
abbrev P__law_draw : List Str := ["tape", "many"]
abbrev P__law_pick : List Str := ["tape", "row"]
abbrev P__law_route : List Str := ["tape"]
abbrev P__law_same : List Str := ["route", "other"]
abbrev P__law_routes : List Str := ["tape"]
abbrev P__law_due : List Str := ["rows", "method", "host", "segments"]
abbrev P__law_policy : List Str := ["rows"]
abbrev P__law_bent : List Str := ["tape", "route"]
abbrev P__law_faults : List Str := ["tape", "rows"]
abbrev P__law_two_faults : List Str := ["tape", "rows"]
abbrev P__law_errors : List Str := ["tape"]
abbrev P_law : List Str := ["script"]
/-- what the top holds -/
structure Txt (K : PySem.W.Frag) (mg : Str → Option Value) (a_is_named : Addr) (a_is_plain_segment : Addr) (a_is_segment : Addr) : Prop where
  c_ERROR_WORDS : Kc K mg "ERROR_WORDS" c_ERROR_WORDS
  c_HOST_SIGNS : Kc K mg "HOST_SIGNS" c_HOST_SIGNS
  c_METHODS : Kc K mg "METHODS" c_METHODS
  c_MOST_HOST : Kc K mg "MOST_HOST" c_MOST_HOST
  c_MOST_NAMES : Kc K mg "MOST_NAMES" c_MOST_NAMES
  c_MOST_PLAIN : Kc K mg "MOST_PLAIN" c_MOST_PLAIN
  c_MOST_PREFIX : Kc K mg "MOST_PREFIX" c_MOST_PREFIX
  c_MOST_PUT : Kc K mg "MOST_PUT" c_MOST_PUT
  c_MOST_ROUTES : Kc K mg "MOST_ROUTES" c_MOST_ROUTES
  c_MOST_SEGMENT : Kc K mg "MOST_SEGMENT" c_MOST_SEGMENT
  c_MOST_TEXT : Kc K mg "MOST_TEXT" c_MOST_TEXT
  c_MOST_TRIES : Kc K mg "MOST_TRIES" c_MOST_TRIES
  c_MOST_WAIT : Kc K mg "MOST_WAIT" c_MOST_WAIT
  c_PLAIN : Kc K mg "PLAIN" c_PLAIN
  c_SIGNS : Kc K mg "SIGNS" c_SIGNS
  x_ERROR_WORDS : Xc K mg "ERROR_WORDS" w_ERROR_WORDS
  b_abs : mg "abs" = none
  b_all : mg "all" = none
  b_any : mg "any" = none
  b_bool : mg "bool" = none
  b_int : mg "int" = none
  b_isinstance : mg "isinstance" = none
  b_len : mg "len" = none
  b_list : mg "list" = none
  b_range : mg "range" = none
  b_set : mg "set" = none
  b_str : mg "str" = none
  b_tuple : mg "tuple" = none
  a_is_named : mg "is_named" = some (.ref a_is_named)
  a_is_plain_segment : mg "is_plain_segment" = some (.ref a_is_plain_segment)
  a_is_segment : mg "is_segment" = some (.ref a_is_segment)
  f_is_number : Tp K mg "is_number" s_is_number P_is_number
  f_is_signs : Tp K mg "is_signs" s_is_signs P_is_signs
  f_is_host : Tp K mg "is_host" s_is_host P_is_host
  f_is_segment : Tp K mg "is_segment" s_is_segment P_is_segment
  f_is_plain_segment : Tp K mg "is_plain_segment" s_is_plain_segment P_is_plain_segment
  f_is_row_of : Tp K mg "is_row_of" s_is_row_of P_is_row_of
  f_is_within : Tp K mg "is_within" s_is_within P_is_within
  f_is_methods : Tp K mg "is_methods" s_is_methods P_is_methods
  f_is_named : Tp K mg "is_named" s_is_named P_is_named
  f_is_route : Tp K mg "is_route" s_is_route P_is_route
  f_is_same : Tp K mg "is_same" s_is_same P_is_same
  f_fault_of_route : Tp K mg "fault_of_route" s_fault_of_route P_fault_of_route
  f_fault_routes : Tp K mg "fault_routes" s_fault_routes P_fault_routes
  f_is_error : Tp K mg "is_error" s_is_error P_is_error
  f_fault_errors : Tp K mg "fault_errors" s_fault_errors P_fault_errors
  f_error_row : Tp K mg "error_row" s_error_row P_error_row
  f_fits_route : Tp K mg "fits_route" s_fits_route P_fits_route
  f_longest : Tp K mg "longest" s_longest P_longest
  f_route_of : Tp K mg "route_of" s_route_of P_route_of
  f__law_draw : Tp K mg "_law_draw" s__law_draw P__law_draw
  f__law_pick : Tp K mg "_law_pick" s__law_pick P__law_pick
  f__law_route : Tp K mg "_law_route" s__law_route P__law_route
  f__law_same : Tp K mg "_law_same" s__law_same P__law_same
  f__law_routes : Tp K mg "_law_routes" s__law_routes P__law_routes
  f__law_due : Tp K mg "_law_due" s__law_due P__law_due
  f__law_policy : Tp K mg "_law_policy" s__law_policy P__law_policy
  f__law_bent : Tp K mg "_law_bent" s__law_bent P__law_bent
  f__law_faults : Tp K mg "_law_faults" s__law_faults P__law_faults
  f__law_two_faults : Tp K mg "_law_two_faults" s__law_two_faults P__law_two_faults
  f__law_errors : Tp K mg "_law_errors" s__law_errors P__law_errors
  f_law : Tp K mg "law" s_law P_law
section
variable {P : Program} {w : World} {K : PySem.W.Frag} {mg : Str → Option Value} {base : Heap} {a_is_named a_is_plain_segment a_is_segment : Addr}
theorem sc_is_number : FnScope N_is_number P_is_number (defScope s_is_number) := ⟨rfl, rfl, rfl, by decide +kernel, rfl, by decide +kernel, by decide +kernel⟩
theorem w_is_number (T : Txt K mg a_is_named a_is_plain_segment a_is_segment) {f : Addr} {cdv : Value} {A : Around} {outer : List Env} {s : Shared} {H : Hp} {E : XK} (hr : Room 0 (A.deeper (envOfC "is_number" (defScope s_is_number) s.heap.objs.size f cdv))) :
    VSs (cxOf CX0 P w K mg base N_is_number "is_number" (defScope s_is_number) f cdv A outer s H E).nox (defBody s_is_number) (t_is_number ) :=
  (vss_one (vs_ret (ve_and (ve_callB vc_isi (by rfl) T.b_isinstance (by decide +kernel) (va_cons (vv 0) (va_cons (ve_bltn (v := .ty "int") (by rfl) T.b_int (by decide +kernel) rfl) va_nil))) (ve_one (ve_not (ve_callB vc_isi (by rfl) T.b_isinstance (by decide +kernel) (va_cons (vv 0) (va_cons (ve_bltn (v := .ty "bool") (by rfl) T.b_bool (by decide +kernel) rfl) va_nil))))))))

theorem df_is_number (T : Txt K mg a_is_named a_is_plain_segment a_is_segment) {S : SpD} (len : ∀ xs M Q, S xs M Q → xs.length = 1) (hs : ∀ xs M Q, S xs M Q → t_is_number  { nx := fun _ M' => Q (.d .none) M', rt := Q } (startD 1 xs) M) : Df P w K mg base 1 "is_number" S :=
  T.f_is_number.df sc_is_number len (fun f cdv A outer s H E hr => w_is_number T hr) hs

theorem sc_is_signs : FnScope N_is_signs P_is_signs (defScope s_is_signs) := ⟨rfl, rfl, rfl, by decide +kernel, rfl, by decide +kernel, by decide +kernel⟩
theorem w_is_signs (T : Txt K mg a_is_named a_is_plain_segment a_is_segment) {f : Addr} {cdv : Value} {A : Around} {outer : List Env} {s : Shared} {H : Hp} {E : XK} (hr : Room 0 (A.deeper (envOfC "is_signs" (defScope s_is_signs) s.heap.objs.size f cdv))) :
    VSs (cxOf CX0 P w K mg base N_is_signs "is_signs" (defScope s_is_signs) f cdv A outer s H E).nox (defBody s_is_signs) (t_is_signs ) :=
  (vss_one (vs_ret (ve_and (ve_callB vc_isi (by rfl) T.b_isinstance (by decide +kernel) (va_cons (vv 0) (va_cons (ve_bltn (v := .ty "str") (by rfl) T.b_str (by decide +kernel) rfl) va_nil))) (ve_one (ve_callB (vc_all rfl) (by rfl) T.b_all (by decide +kernel) (va_cons (ve_lc (own := [(("sign" : Str), 1)]) rfl sc_is_signs.nd (by decide) (vi_seq (vv 0)) (blkOk_by (own := [(("sign" : Str), 1)]) (N := N_is_signs) (sc := defScope s_is_signs) (by decide +kernel)) (fun _ _ _ _ _ => (vg_name (i := 1) sc_is_signs.nd rfl (by first | exact Or.inl rfl | exact Or.inr rfl))) (fun _ _ _ _ _ => vts_nil) (fun _ _ _ _ _ => (ve_cmp (vo_in (hu65 hr)) (vv 1) (ve_kc T.c_SIGNS (by rfl)) (by rfl)))) va_nil))))))

theorem df_is_signs (T : Txt K mg a_is_named a_is_plain_segment a_is_segment) {S : SpD} (len : ∀ xs M Q, S xs M Q → xs.length = 1) (hs : ∀ xs M Q, S xs M Q → t_is_signs  { nx := fun _ M' => Q (.d .none) M', rt := Q } (startD 2 xs) M) : Df P w K mg base 1 "is_signs" S :=
  T.f_is_signs.df sc_is_signs len (fun f cdv A outer s H E hr => w_is_signs T hr) hs

theorem sc_is_host : FnScope N_is_host P_is_host (defScope s_is_host) := ⟨rfl, rfl, rfl, by decide +kernel, rfl, by decide +kernel, by decide +kernel⟩
theorem w_is_host (T : Txt K mg a_is_named a_is_plain_segment a_is_segment) {f : Addr} {cdv : Value} {A : Around} {outer : List Env} {s : Shared} {H : Hp} {E : XK} (hr : Room 0 (A.deeper (envOfC "is_host" (defScope s_is_host) s.heap.objs.size f cdv))) :
    VSs (cxOf CX0 P w K mg base N_is_host "is_host" (defScope s_is_host) f cdv A outer s H E).nox (defBody s_is_host) (t_is_host ) :=
  (vss_cons (vs_if (vt_w (vw_or (vt_not (vt_tru (ve_callB vc_isi (by rfl) T.b_isinstance (by decide +kernel) (va_cons (vv 0) (va_cons (ve_bltn (v := .ty "str") (by rfl) T.b_str (by decide +kernel) rfl) va_nil))))) (vw_or1 (vt_not (vt_chain vo_le vo_le ve_int (ve_callB vc_len (by rfl) T.b_len (by decide +kernel) (va_cons (vv 0) va_nil)) (ve_kc T.c_MOST_HOST (by rfl))))))) (vss_one (vs_ret ve_bl)) vss_nil)
  (vss_one (vs_ret (ve_callB (vc_all rfl) (by rfl) T.b_all (by decide +kernel) (va_cons (ve_lc (own := [(("sign" : Str), 1)]) rfl sc_is_host.nd (by decide) (vi_seq (vv 0)) (blkOk_by (own := [(("sign" : Str), 1)]) (N := N_is_host) (sc := defScope s_is_host) (by decide +kernel)) (fun _ _ _ _ _ => (vg_name (i := 1) sc_is_host.nd rfl (by first | exact Or.inl rfl | exact Or.inr rfl))) (fun _ _ _ _ _ => vts_nil) (fun _ _ _ _ _ => (ve_cmp (vo_in (hu65 hr)) (vv 1) (ve_kc T.c_HOST_SIGNS (by rfl)) (by rfl)))) va_nil)))))

theorem df_is_host (T : Txt K mg a_is_named a_is_plain_segment a_is_segment) {S : SpD} (len : ∀ xs M Q, S xs M Q → xs.length = 1) (hs : ∀ xs M Q, S xs M Q → t_is_host  { nx := fun _ M' => Q (.d .none) M', rt := Q } (startD 2 xs) M) : Df P w K mg base 1 "is_host" S :=
  T.f_is_host.df sc_is_host len (fun f cdv A outer s H E hr => w_is_host T hr) hs

theorem sc_is_segment : FnScope N_is_segment P_is_segment (defScope s_is_segment) := ⟨rfl, rfl, rfl, by decide +kernel, rfl, by decide +kernel, by decide +kernel⟩
theorem w_is_segment (T : Txt K mg a_is_named a_is_plain_segment a_is_segment) {S_is_signs : SpD} (D_is_signs : Df P w K mg base 1 "is_signs" S_is_signs) {f : Addr} {cdv : Value} {A : Around} {outer : List Env} {s : Shared} {H : Hp} {E : XK} (hr : Room 1 (A.deeper (envOfC "is_segment" (defScope s_is_segment) s.heap.objs.size f cdv))) :
    VSs (cxOf CX0 P w K mg base N_is_segment "is_segment" (defScope s_is_segment) f cdv A outer s H E).nox (defBody s_is_segment) (t_is_segment S_is_signs) :=
  (vss_cons (vs_if (vt_w (vw_or (vt_not (vt_tru (ve_call D_is_signs (hr.mono (by decide)) (by rfl) (va_cons (vv 0) va_nil)))) (vw_or1 (vt_not (vt_chain vo_le vo_le ve_int (ve_callB vc_len (by rfl) T.b_len (by decide +kernel) (va_cons (vv 0) va_nil)) (ve_kc T.c_MOST_SEGMENT (by rfl))))))) (vss_one (vs_ret ve_bl)) vss_nil)
  (vss_one (vs_ret (ve_and (ve_cmp (vo_notin (hu65 hr)) ve_str (vv 0) (by rfl)) (ve_and (ve_cmp (vo_notin (hu65 hr)) ve_str (vv 0) (by rfl)) (ve_one (ve_cmp (vo_notin (hu65 hr)) (vv 0) (ve_tup (va_cons ve_str (va_cons ve_str va_nil))) (by rfl))))))))

theorem df_is_segment (T : Txt K mg a_is_named a_is_plain_segment a_is_segment) {S_is_signs : SpD} (D_is_signs : Df P w K mg base 1 "is_signs" S_is_signs) {S : SpD} (len : ∀ xs M Q, S xs M Q → xs.length = 1) (hs : ∀ xs M Q, S xs M Q → t_is_segment S_is_signs { nx := fun _ M' => Q (.d .none) M', rt := Q } (startD 1 xs) M) : Df P w K mg base 2 "is_segment" S :=
  T.f_is_segment.df sc_is_segment len (fun f cdv A outer s H E hr => w_is_segment T D_is_signs hr) hs

theorem sc_is_plain_segment : FnScope N_is_plain_segment P_is_plain_segment (defScope s_is_plain_segment) := ⟨rfl, rfl, rfl, by decide +kernel, rfl, by decide +kernel, by decide +kernel⟩
theorem w_is_plain_segment (T : Txt K mg a_is_named a_is_plain_segment a_is_segment) {S_is_segment : SpD} (D_is_segment : Df P w K mg base 2 "is_segment" S_is_segment) {f : Addr} {cdv : Value} {A : Around} {outer : List Env} {s : Shared} {H : Hp} {E : XK} (hr : Room 2 (A.deeper (envOfC "is_plain_segment" (defScope s_is_plain_segment) s.heap.objs.size f cdv))) :
    VSs (cxOf CX0 P w K mg base N_is_plain_segment "is_plain_segment" (defScope s_is_plain_segment) f cdv A outer s H E).nox (defBody s_is_plain_segment) (t_is_plain_segment S_is_segment) :=
  (vss_one (vs_ret (ve_and (ve_call D_is_segment (hr.mono (by decide)) (by rfl) (va_cons (vv 0) va_nil)) (ve_and (ve_cmp vo_le (ve_callB vc_len (by rfl) T.b_len (by decide +kernel) (va_cons (vv 0) va_nil)) (ve_kc T.c_MOST_PLAIN (by rfl)) (nomark _)) (ve_one (ve_callB (vc_all rfl) (by rfl) T.b_all (by decide +kernel) (va_cons (ve_lc (own := [(("sign" : Str), 1)]) rfl sc_is_plain_segment.nd (by decide) (vi_seq (vv 0)) (blkOk_by (own := [(("sign" : Str), 1)]) (N := N_is_plain_segment) (sc := defScope s_is_plain_segment) (by decide +kernel)) (fun _ _ _ _ _ => (vg_name (i := 1) sc_is_plain_segment.nd rfl (by first | exact Or.inl rfl | exact Or.inr rfl))) (fun _ _ _ _ _ => vts_nil) (fun _ _ _ _ _ => (ve_cmp (vo_in (hu65 hr)) (vv 1) (ve_kc T.c_PLAIN (by rfl)) (by rfl)))) va_nil)))))))

theorem df_is_plain_segment (T : Txt K mg a_is_named a_is_plain_segment a_is_segment) {S_is_segment : SpD} (D_is_segment : Df P w K mg base 2 "is_segment" S_is_segment) {S : SpD} (len : ∀ xs M Q, S xs M Q → xs.length = 1) (hs : ∀ xs M Q, S xs M Q → t_is_plain_segment S_is_segment { nx := fun _ M' => Q (.d .none) M', rt := Q } (startD 2 xs) M) : Df P w K mg base 3 "is_plain_segment" S :=
  T.f_is_plain_segment.df sc_is_plain_segment len (fun f cdv A outer s H E hr => w_is_plain_segment T D_is_segment hr) hs

theorem sc_is_row_of : FnScope N_is_row_of P_is_row_of (defScope s_is_row_of) := ⟨rfl, rfl, rfl, by decide +kernel, rfl, by decide +kernel, by decide +kernel⟩
theorem w_is_row_of (T : Txt K mg a_is_named a_is_plain_segment a_is_segment) {Fs : Addr → Option SpD} (A_Fs : ∀ f S, Fs f = some S → Hd P w K mg base 3 f S) {f : Addr} {cdv : Value} {A : Around} {outer : List Env} {s : Shared} {H : Hp} {E : XK} (hr : Room 3 (A.deeper (envOfC "is_row_of" (defScope s_is_row_of) s.heap.objs.size f cdv))) :
    VSs (cxOf CX0 P w K mg base N_is_row_of "is_row_of" (defScope s_is_row_of) f cdv A outer s H E).nox (defBody s_is_row_of) (t_is_row_of Fs) :=
  (vss_one (vs_ret (ve_and (ve_callB vc_isi (by rfl) T.b_isinstance (by decide +kernel) (va_cons (vv 0) (va_cons (ve_bltn (v := .ty "tuple") (by rfl) T.b_tuple (by decide +kernel) rfl) va_nil))) (ve_and (ve_cmp vo_le (ve_callB vc_len (by rfl) T.b_len (by decide +kernel) (va_cons (vv 0) va_nil)) (vv 1) (nomark _)) (ve_one (ve_callB (vc_all rfl) (by rfl) T.b_all (by decide +kernel) (va_cons (ve_lc (own := [(("one" : Str), 3)]) rfl sc_is_row_of.nd (by decide) (vi_seq (vv 0)) (blkOk_by (own := [(("one" : Str), 3)]) (N := N_is_row_of) (sc := defScope s_is_row_of) (by decide +kernel)) (fun _ _ _ _ _ => (vg_name (i := 3) sc_is_row_of.nd rfl (by first | exact Or.inl rfl | exact Or.inr rfl))) (fun _ _ _ _ _ => vts_nil) (fun _ _ _ _ _ => (ve_callA A_Fs (hr.mono (by decide)) rfl (by first | exact Or.inl rfl | exact Or.inr (Or.inl rfl) | exact Or.inr (Or.inr rfl)) (va_cons (vv 3) va_nil)))) va_nil)))))))

theorem df_is_row_of (T : Txt K mg a_is_named a_is_plain_segment a_is_segment) {Fs : Addr → Option SpD} (A_Fs : ∀ f S, Fs f = some S → Hd P w K mg base 3 f S) {S : SpD} (len : ∀ xs M Q, S xs M Q → xs.length = 3) (hs : ∀ xs M Q, S xs M Q → t_is_row_of Fs { nx := fun _ M' => Q (.d .none) M', rt := Q } (startD 4 xs) M) : Df P w K mg base 4 "is_row_of" S :=
  T.f_is_row_of.df sc_is_row_of len (fun f cdv A outer s H E hr => w_is_row_of T A_Fs hr) hs

theorem sc_is_within : FnScope N_is_within P_is_within (defScope s_is_within) := ⟨rfl, rfl, rfl, by decide +kernel, rfl, by decide +kernel, by decide +kernel⟩
theorem w_is_within (T : Txt K mg a_is_named a_is_plain_segment a_is_segment) {S_is_number : SpD} (D_is_number : Df P w K mg base 1 "is_number" S_is_number) {f : Addr} {cdv : Value} {A : Around} {outer : List Env} {s : Shared} {H : Hp} {E : XK} (hr : Room 1 (A.deeper (envOfC "is_within" (defScope s_is_within) s.heap.objs.size f cdv))) :
    VSs (cxOf CX0 P w K mg base N_is_within "is_within" (defScope s_is_within) f cdv A outer s H E).nox (defBody s_is_within) (t_is_within S_is_number) :=
  (vss_one (vs_ret (ve_and (ve_call D_is_number (hr.mono (by decide)) (by rfl) (va_cons (vv 0) va_nil)) (ve_one (ve_chain vo_le vo_le (vv 1) (vv 0) (vv 2))))))

theorem df_is_within (T : Txt K mg a_is_named a_is_plain_segment a_is_segment) {S_is_number : SpD} (D_is_number : Df P w K mg base 1 "is_number" S_is_number) {S : SpD} (len : ∀ xs M Q, S xs M Q → xs.length = 3) (hs : ∀ xs M Q, S xs M Q → t_is_within S_is_number { nx := fun _ M' => Q (.d .none) M', rt := Q } (startD 3 xs) M) : Df P w K mg base 2 "is_within" S :=
  T.f_is_within.df sc_is_within len (fun f cdv A outer s H E hr => w_is_within T D_is_number hr) hs

theorem sc_is_methods : FnScope N_is_methods P_is_methods (defScope s_is_methods) := ⟨rfl, rfl, rfl, by decide +kernel, rfl, by decide +kernel, by decide +kernel⟩
theorem w_is_methods (T : Txt K mg a_is_named a_is_plain_segment a_is_segment) {f : Addr} {cdv : Value} {A : Around} {outer : List Env} {s : Shared} {H : Hp} {E : XK} (hr : Room 0 (A.deeper (envOfC "is_methods" (defScope s_is_methods) s.heap.objs.size f cdv))) :
    VSs (cxOf CX0 P w K mg base N_is_methods "is_methods" (defScope s_is_methods) f cdv A outer s H E).nox (defBody s_is_methods) (t_is_methods ) :=
  (vss_cons (vs_set (i := 1) sc_is_methods.nd rfl (by first | exact Or.inl rfl | exact Or.inr rfl) (ve_lc (own := [(("row" : Str), 3)]) rfl sc_is_methods.nd (by decide) (vi_seq (ve_kc T.c_METHODS (by rfl))) (blkOk_by (own := [(("row" : Str), 3)]) (N := N_is_methods) (sc := defScope s_is_methods) (by decide +kernel)) (fun _ _ _ _ _ => (vg_name (i := 3) sc_is_methods.nd rfl (by first | exact Or.inl rfl | exact Or.inr rfl))) (fun _ _ _ _ _ => vts_nil) (fun _ _ _ _ _ => (ve_ix (vv 3) ve_int))))
  (vss_cons (vs_if (vt_w (vw_or (vt_not (vt_tru (ve_callB vc_isi (by rfl) T.b_isinstance (by decide +kernel) (va_cons (vv 0) (va_cons (ve_bltn (v := .ty "tuple") (by rfl) T.b_tuple (by decide +kernel) rfl) va_nil))))) (vw_or1 (vt_cmp (vo_eq hr.units) (ve_callB vc_len (by rfl) T.b_len (by decide +kernel) (va_cons (vv 0) va_nil)) ve_int (nomark _))))) (vss_one (vs_ret ve_bl)) vss_nil)
  (vss_cons (vs_if (vt_not (vt_tru (ve_callB (vc_all rfl) (by rfl) T.b_all (by decide +kernel) (va_cons (ve_lc (own := [(("one" : Str), 4)]) rfl sc_is_methods.nd (by decide) (vi_seq (vv 0)) (blkOk_by (own := [(("one" : Str), 4)]) (N := N_is_methods) (sc := defScope s_is_methods) (by decide +kernel)) (fun _ _ _ _ _ => (vg_name (i := 4) sc_is_methods.nd rfl (by first | exact Or.inl rfl | exact Or.inr rfl))) (fun _ _ _ _ _ => vts_nil) (fun _ _ _ _ _ => (ve_and (ve_callB vc_isi (by rfl) T.b_isinstance (by decide +kernel) (va_cons (vv 4) (va_cons (ve_bltn (v := .ty "str") (by rfl) T.b_str (by decide +kernel) rfl) va_nil))) (ve_one (ve_cmp (vo_in (hu65 hr)) (vv 4) (vv 1) (by rfl)))))) va_nil)))) (vss_one (vs_ret ve_bl)) vss_nil)
  (vss_cons (vs_set (i := 2) sc_is_methods.nd rfl (by first | exact Or.inl rfl | exact Or.inr rfl) (ve_lc (own := [(("one" : Str), 4)]) rfl sc_is_methods.nd (by decide) (vi_seq (vv 0)) (blkOk_by (own := [(("one" : Str), 4)]) (N := N_is_methods) (sc := defScope s_is_methods) (by decide +kernel)) (fun _ _ _ _ _ => (vg_name (i := 4) sc_is_methods.nd rfl (by first | exact Or.inl rfl | exact Or.inr rfl))) (fun _ _ _ _ _ => vts_nil) (fun _ _ _ _ _ => (ve_bm PySem.F.plainAttrs_list PySem.F.slot_list_index PySem.F.type_list_index (vm_index (hu65 hr)) (vv 1) (va_cons (vv 4) va_nil)))))
  (vss_one (vs_ret (ve_callB (vc_all rfl) (by rfl) T.b_all (by decide +kernel) (va_cons (ve_lc (own := [(("index" : Str), 5)]) rfl sc_is_methods.nd (by decide) (vi_rg2 (by rfl) T.b_range (va_cons ve_int (va_cons (ve_callB vc_len (by rfl) T.b_len (by decide +kernel) (va_cons (vv 2) va_nil)) va_nil))) (blkOk_by (own := [(("index" : Str), 5)]) (N := N_is_methods) (sc := defScope s_is_methods) (by decide +kernel)) (fun _ _ _ _ _ => (vg_name (i := 5) sc_is_methods.nd rfl (by first | exact Or.inl rfl | exact Or.inr rfl))) (fun _ _ _ _ _ => vts_nil) (fun _ _ _ _ _ => (ve_cmp vo_lt (ve_ix (vv 2) (ve_op vo_sub (vv 5) ve_int)) (ve_ix (vv 2) (vv 5)) (nomark _)))) va_nil))))))))

theorem df_is_methods (T : Txt K mg a_is_named a_is_plain_segment a_is_segment) {S : SpD} (len : ∀ xs M Q, S xs M Q → xs.length = 1) (hs : ∀ xs M Q, S xs M Q → t_is_methods  { nx := fun _ M' => Q (.d .none) M', rt := Q } (startD 6 xs) M) : Df P w K mg base 1 "is_methods" S :=
  T.f_is_methods.df sc_is_methods len (fun f cdv A outer s H E hr => w_is_methods T hr) hs

theorem sc_is_named : FnScope N_is_named P_is_named (defScope s_is_named) := ⟨rfl, rfl, rfl, by decide +kernel, rfl, by decide +kernel, by decide +kernel⟩
theorem w_is_named (T : Txt K mg a_is_named a_is_plain_segment a_is_segment) {f : Addr} {cdv : Value} {A : Around} {outer : List Env} {s : Shared} {H : Hp} {E : XK} (hr : Room 0 (A.deeper (envOfC "is_named" (defScope s_is_named) s.heap.objs.size f cdv))) :
    VSs (cxOf CX0 P w K mg base N_is_named "is_named" (defScope s_is_named) f cdv A outer s H E).nox (defBody s_is_named) (t_is_named ) :=
  (vss_one (vs_ret (ve_callB vc_isi (by rfl) T.b_isinstance (by decide +kernel) (va_cons (vv 0) (va_cons (ve_bltn (v := .ty "str") (by rfl) T.b_str (by decide +kernel) rfl) va_nil)))))

theorem df_is_named (T : Txt K mg a_is_named a_is_plain_segment a_is_segment) {S : SpD} (len : ∀ xs M Q, S xs M Q → xs.length = 1) (hs : ∀ xs M Q, S xs M Q → t_is_named  { nx := fun _ M' => Q (.d .none) M', rt := Q } (startD 1 xs) M) : Df P w K mg base 1 "is_named" S :=
  T.f_is_named.df sc_is_named len (fun f cdv A outer s H E hr => w_is_named T hr) hs

theorem sc_is_route : FnScope N_is_route P_is_route (defScope s_is_route) := ⟨rfl, rfl, rfl, by decide +kernel, rfl, by decide +kernel, by decide +kernel⟩
theorem w_is_route (T : Txt K mg a_is_named a_is_plain_segment a_is_segment) {S_is_within S_is_row_of S_is_named S_is_host S_is_methods : SpD} (D_is_within : Df P w K mg base 2 "is_within" S_is_within) (D_is_row_of : Df P w K mg base 4 "is_row_of" S_is_row_of) (D_is_named : Df P w K mg base 1 "is_named" S_is_named) (D_is_host : Df P w K mg base 1 "is_host" S_is_host) (D_is_methods : Df P w K mg base 1 "is_methods" S_is_methods) {f : Addr} {cdv : Value} {A : Around} {outer : List Env} {s : Shared} {H : Hp} {E : XK} (hr : Room 4 (A.deeper (envOfC "is_route" (defScope s_is_route) s.heap.objs.size f cdv))) :
    VSs (cxOf CX0 P w K mg base N_is_route "is_route" (defScope s_is_route) f cdv A outer s H E).nox (defBody s_is_route) (t_is_route S_is_within S_is_row_of S_is_named S_is_host S_is_methods a_is_named a_is_plain_segment a_is_segment) :=
  (vss_cons (vs_if (vt_w (vw_or (vt_not (vt_tru (ve_callB vc_isi (by rfl) T.b_isinstance (by decide +kernel) (va_cons (vv 0) (va_cons (ve_bltn (v := .ty "tuple") (by rfl) T.b_tuple (by decide +kernel) rfl) va_nil))))) (vw_or1 (vt_cmp (vo_ne hr.units) (ve_callB vc_len (by rfl) T.b_len (by decide +kernel) (va_cons (vv 0) va_nil)) ve_int (nomark _))))) (vss_one (vs_ret ve_bl)) vss_nil)
  (vss_cons (vs_asg (vv 0) (vg_tup rfl (.cons (i := 1) sc_is_route.nd rfl (by first | exact Or.inl rfl | exact Or.inr rfl) (by first | exact .inl rfl | exact .inr rfl) rfl (.cons (i := 2) sc_is_route.nd rfl (by first | exact Or.inl rfl | exact Or.inr rfl) (by first | exact .inl rfl | exact .inr rfl) rfl (.cons (i := 3) sc_is_route.nd rfl (by first | exact Or.inl rfl | exact Or.inr rfl) (by first | exact .inl rfl | exact .inr rfl) rfl (.cons (i := 4) sc_is_route.nd rfl (by first | exact Or.inl rfl | exact Or.inr rfl) (by first | exact .inl rfl | exact .inr rfl) rfl (.cons (i := 5) sc_is_route.nd rfl (by first | exact Or.inl rfl | exact Or.inr rfl) (by first | exact .inl rfl | exact .inr rfl) rfl (.cons (i := 6) sc_is_route.nd rfl (by first | exact Or.inl rfl | exact Or.inr rfl) (by first | exact .inl rfl | exact .inr rfl) rfl (.cons (i := 7) sc_is_route.nd rfl (by first | exact Or.inl rfl | exact Or.inr rfl) (by first | exact .inl rfl | exact .inr rfl) rfl (.cons (i := 8) sc_is_route.nd rfl (by first | exact Or.inl rfl | exact Or.inr rfl) (by first | exact .inl rfl | exact .inr rfl) rfl (.cons (i := 9) sc_is_route.nd rfl (by first | exact Or.inl rfl | exact Or.inr rfl) (by first | exact .inl rfl | exact .inr rfl) rfl .nil)))))))))))
  (vss_cons (vs_if (vt_w (vw_or (vt_w (vw_and (vt_cmp (vo_ne hr.units) (vv 1) ve_str (nomark _)) (vw_and1 (vt_not (vt_tru (ve_call D_is_host (hr.mono (by decide)) (by rfl) (va_cons (vv 1) va_nil))))))) (vw_or (vt_not (vt_tru (ve_call D_is_row_of (hr.mono (by decide)) (by rfl) (va_cons (vv 2) (va_cons (ve_kc T.c_MOST_PREFIX (by rfl)) (va_cons (ve_df T.a_is_segment (by rfl)) va_nil)))))) (vw_or1 (vt_not (vt_tru (ve_call D_is_methods (hr.mono (by decide)) (by rfl) (va_cons (vv 3) va_nil)))))))) (vss_one (vs_ret ve_bl)) vss_nil)
  (vss_cons (vs_if (vt_w (vw_or (vt_not (vt_tru (ve_call D_is_named (hr.mono (by decide)) (by rfl) (va_cons (vv 4) va_nil)))) (vw_or (vt_not (vt_tru (ve_call D_is_within (hr.mono (by decide)) (by rfl) (va_cons (vv 5) (va_cons ve_int (va_cons (ve_callB vc_len (by rfl) T.b_len (by decide +kernel) (va_cons (vv 2) va_nil)) va_nil)))))) (vw_or1 (vt_not (vt_tru (ve_call D_is_row_of (hr.mono (by decide)) (by rfl) (va_cons (vv 6) (va_cons (ve_kc T.c_MOST_PUT (by rfl)) (va_cons (ve_df T.a_is_plain_segment (by rfl)) va_nil)))))))))) (vss_one (vs_ret ve_bl)) vss_nil)
  (vss_cons (vs_if (vt_w (vw_or (vt_not (vt_tru (ve_call D_is_row_of (hr.mono (by decide)) (by rfl) (va_cons (vv 7) (va_cons (ve_kc T.c_MOST_NAMES (by rfl)) (va_cons (ve_df T.a_is_named (by rfl)) va_nil)))))) (vw_or1 (vt_cmp (vo_ne hr.units) (ve_lenSet rfl (by rfl) T.b_len (by rfl) T.b_set (vv 7)) (ve_callB vc_len (by rfl) T.b_len (by decide +kernel) (va_cons (vv 7) va_nil)) (nomark _))))) (vss_one (vs_ret ve_bl)) vss_nil)
  (vss_one (vs_ret (ve_and (ve_call D_is_within (hr.mono (by decide)) (by rfl) (va_cons (vv 8) (va_cons ve_int (va_cons (ve_kc T.c_MOST_WAIT (by rfl)) va_nil)))) (ve_one (ve_call D_is_within (hr.mono (by decide)) (by rfl) (va_cons (vv 9) (va_cons ve_int (va_cons (ve_kc T.c_MOST_TRIES (by rfl)) va_nil)))))))))))))

theorem df_is_route (T : Txt K mg a_is_named a_is_plain_segment a_is_segment) {S_is_within S_is_row_of S_is_named S_is_host S_is_methods : SpD} (D_is_within : Df P w K mg base 2 "is_within" S_is_within) (D_is_row_of : Df P w K mg base 4 "is_row_of" S_is_row_of) (D_is_named : Df P w K mg base 1 "is_named" S_is_named) (D_is_host : Df P w K mg base 1 "is_host" S_is_host) (D_is_methods : Df P w K mg base 1 "is_methods" S_is_methods) {S : SpD} (len : ∀ xs M Q, S xs M Q → xs.length = 1) (hs : ∀ xs M Q, S xs M Q → t_is_route S_is_within S_is_row_of S_is_named S_is_host S_is_methods a_is_named a_is_plain_segment a_is_segment { nx := fun _ M' => Q (.d .none) M', rt := Q } (startD 10 xs) M) : Df P w K mg base 5 "is_route" S :=
  T.f_is_route.df sc_is_route len (fun f cdv A outer s H E hr => w_is_route T D_is_within D_is_row_of D_is_named D_is_host D_is_methods hr) hs

theorem sc_is_same : FnScope N_is_same P_is_same (defScope s_is_same) := ⟨rfl, rfl, rfl, by decide +kernel, rfl, by decide +kernel, by decide +kernel⟩
theorem w_is_same (T : Txt K mg a_is_named a_is_plain_segment a_is_segment) {f : Addr} {cdv : Value} {A : Around} {outer : List Env} {s : Shared} {H : Hp} {E : XK} (hr : Room 0 (A.deeper (envOfC "is_same" (defScope s_is_same) s.heap.objs.size f cdv))) :
    VSs (cxOf CX0 P w K mg base N_is_same "is_same" (defScope s_is_same) f cdv A outer s H E).nox (defBody s_is_same) (t_is_same ) :=
  (vss_one (vs_ret (ve_and (ve_cmp (vo_eq hr.units) (ve_slice (vv 0) vp_none (vp_some ve_int)) (ve_slice (vv 1) vp_none (vp_some ve_int)) (nomark _)) (ve_one (ve_callB (vc_any rfl) (by rfl) T.b_any (by decide +kernel) (va_cons (ve_lc (own := [(("method" : Str), 2)]) rfl sc_is_same.nd (by decide) (vi_seq (ve_ix (vv 0) ve_int)) (blkOk_by (own := [(("method" : Str), 2)]) (N := N_is_same) (sc := defScope s_is_same) (by decide +kernel)) (fun _ _ _ _ _ => (vg_name (i := 2) sc_is_same.nd rfl (by first | exact Or.inl rfl | exact Or.inr rfl))) (fun _ _ _ _ _ => vts_nil) (fun _ _ _ _ _ => (ve_cmp (vo_in (hu65 hr)) (vv 2) (ve_ix (vv 1) ve_int) (by rfl)))) va_nil))))))

theorem df_is_same (T : Txt K mg a_is_named a_is_plain_segment a_is_segment) {S : SpD} (len : ∀ xs M Q, S xs M Q → xs.length = 2) (hs : ∀ xs M Q, S xs M Q → t_is_same  { nx := fun _ M' => Q (.d .none) M', rt := Q } (startD 3 xs) M) : Df P w K mg base 1 "is_same" S :=
  T.f_is_same.df sc_is_same len (fun f cdv A outer s H E hr => w_is_same T hr) hs

theorem sc_fault_of_route : FnScope N_fault_of_route P_fault_of_route (defScope s_fault_of_route) := ⟨rfl, rfl, rfl, by decide +kernel, rfl, by decide +kernel, by decide +kernel⟩
theorem w_fault_of_route (T : Txt K mg a_is_named a_is_plain_segment a_is_segment) {S_is_same : SpD} (D_is_same : Df P w K mg base 1 "is_same" S_is_same) {f : Addr} {cdv : Value} {A : Around} {outer : List Env} {s : Shared} {H : Hp} {E : XK} (hr : Room 1 (A.deeper (envOfC "fault_of_route" (defScope s_fault_of_route) s.heap.objs.size f cdv))) :
    VSs (cxOf CX0 P w K mg base N_fault_of_route "fault_of_route" (defScope s_fault_of_route) f cdv A outer s H E).nox (defBody s_fault_of_route) (t_fault_of_route S_is_same) :=
  (vss_cons (vs_set (i := 4) sc_fault_of_route.nd rfl (by first | exact Or.inl rfl | exact Or.inr rfl) (ve_ix (vv 0) (vv 1)))
  (vss_cons (vs_if (vt_cmp (vo_notin (hu65 hr)) (ve_ix (vv 4) ve_int) (vv 2) (by rfl)) (vss_one (vs_ret ve_str)) vss_nil)
  (vss_cons (vs_if (vt_not (vt_tru (ve_callB (vc_all rfl) (by rfl) T.b_all (by decide +kernel) (va_cons (ve_lc (own := [(("name" : Str), 5)]) rfl sc_fault_of_route.nd (by decide) (vi_seq (ve_ix (vv 4) ve_int)) (blkOk_by (own := [(("name" : Str), 5)]) (N := N_fault_of_route) (sc := defScope s_fault_of_route) (by decide +kernel)) (fun _ _ _ _ _ => (vg_name (i := 5) sc_fault_of_route.nd rfl (by first | exact Or.inl rfl | exact Or.inr rfl))) (fun _ _ _ _ _ => vts_nil) (fun _ _ _ _ _ => (ve_cmp (vo_in (hu65 hr)) (vv 5) (vv 3) (by rfl)))) va_nil)))) (vss_one (vs_ret ve_str)) vss_nil)
  (vss_one (vs_ret (ve_if (vt_tru (ve_callB (vc_any rfl) (by rfl) T.b_any (by decide +kernel) (va_cons (ve_lc (own := [(("other" : Str), 6)]) rfl sc_fault_of_route.nd (by decide) (vi_seq (ve_slice (vv 0) vp_none (vp_some (vv 1)))) (blkOk_by (own := [(("other" : Str), 6)]) (N := N_fault_of_route) (sc := defScope s_fault_of_route) (by decide +kernel)) (fun _ _ _ _ _ => (vg_name (i := 6) sc_fault_of_route.nd rfl (by first | exact Or.inl rfl | exact Or.inr rfl))) (fun _ _ _ _ _ => vts_nil) (fun _ _ _ _ _ => (ve_call D_is_same (hr.mono (by decide)) (by rfl) (va_cons (vv 4) (va_cons (vv 6) va_nil))))) va_nil))) ve_str ve_str))))))

theorem df_fault_of_route (T : Txt K mg a_is_named a_is_plain_segment a_is_segment) {S_is_same : SpD} (D_is_same : Df P w K mg base 1 "is_same" S_is_same) {S : SpD} (len : ∀ xs M Q, S xs M Q → xs.length = 4) (hs : ∀ xs M Q, S xs M Q → t_fault_of_route S_is_same { nx := fun _ M' => Q (.d .none) M', rt := Q } (startD 7 xs) M) : Df P w K mg base 2 "fault_of_route" S :=
  T.f_fault_of_route.df sc_fault_of_route len (fun f cdv A outer s H E hr => w_fault_of_route T D_is_same hr) hs

theorem sc_fault_routes : FnScope N_fault_routes P_fault_routes (defScope s_fault_routes) := ⟨rfl, rfl, rfl, by decide +kernel, rfl, by decide +kernel, by decide +kernel⟩
theorem w_fault_routes (T : Txt K mg a_is_named a_is_plain_segment a_is_segment) {S_fault_of_route S_is_route : SpD} (D_fault_of_route : Df P w K mg base 2 "fault_of_route" S_fault_of_route) (D_is_route : Df P w K mg base 5 "is_route" S_is_route) {f : Addr} {cdv : Value} {A : Around} {outer : List Env} {s : Shared} {H : Hp} {E : XK} (hr : Room 5 (A.deeper (envOfC "fault_routes" (defScope s_fault_routes) s.heap.objs.size f cdv))) :
    VSs (cxOf CX0 P w K mg base N_fault_routes "fault_routes" (defScope s_fault_routes) f cdv A outer s H E).nox (defBody s_fault_routes) (t_fault_routes S_fault_of_route S_is_route) :=
  (vss_cons (vs_set (i := 1) sc_fault_routes.nd rfl (by first | exact Or.inl rfl | exact Or.inr rfl) (ve_dget (hu1 hr) (vv 0) ve_str))
  (vss_cons (vs_if (vt_w (vw_or (vt_not (vt_tru (ve_callB vc_isi (by rfl) T.b_isinstance (by decide +kernel) (va_cons (vv 1) (va_cons (ve_bltn (v := .ty "tuple") (by rfl) T.b_tuple (by decide +kernel) rfl) va_nil))))) (vw_or1 (vt_cmp vo_gt (ve_callB vc_len (by rfl) T.b_len (by decide +kernel) (va_cons (vv 1) va_nil)) (ve_kc T.c_MOST_ROUTES (by rfl)) (nomark _))))) (vss_one (vs_ret (ve_tup (va_cons ve_str (va_cons ve_non va_nil))))) vss_nil)
  (vss_cons (vs_for PassesOwn.never rfl (vi_rg1 (by rfl) T.b_range (va_cons (ve_callB vc_len (by rfl) T.b_len (by decide +kernel) (va_cons (vv 1) va_nil)) va_nil)) (vg_name (i := 2) sc_fault_routes.nd rfl (by first | exact Or.inl rfl | exact Or.inr rfl)) (vss_one (vs_if (vt_not (vt_tru (ve_call D_is_route (hr.mono (by decide)) (by rfl) (va_cons (ve_ix (vv 1) (vv 2)) va_nil)))) (vss_one (vs_ret (ve_tup (va_cons ve_str (va_cons (vv 2) va_nil))))) vss_nil)))
  (vss_cons (vs_set (i := 3) sc_fault_routes.nd rfl (by first | exact Or.inl rfl | exact Or.inr rfl) (ve_lc (own := [(("row" : Str), 7)]) rfl sc_fault_routes.nd (by decide) (vi_seq (ve_dget (hu1 hr) (vv 0) ve_str)) (blkOk_by (own := [(("row" : Str), 7)]) (N := N_fault_routes) (sc := defScope s_fault_routes) (by decide +kernel)) (fun _ _ _ _ _ => (vg_name (i := 7) sc_fault_routes.nd rfl (by first | exact Or.inl rfl | exact Or.inr rfl))) (fun _ _ _ _ _ => vts_nil) (fun _ _ _ _ _ => (ve_ix (vv 7) ve_int))))
  (vss_cons (vs_set (i := 4) sc_fault_routes.nd rfl (by first | exact Or.inl rfl | exact Or.inr rfl) (ve_lc (own := [(("row" : Str), 7)]) rfl sc_fault_routes.nd (by decide) (vi_seq (ve_dget (hu1 hr) (vv 0) ve_str)) (blkOk_by (own := [(("row" : Str), 7)]) (N := N_fault_routes) (sc := defScope s_fault_routes) (by decide +kernel)) (fun _ _ _ _ _ => (vg_name (i := 7) sc_fault_routes.nd rfl (by first | exact Or.inl rfl | exact Or.inr rfl))) (fun _ _ _ _ _ => vts_nil) (fun _ _ _ _ _ => (ve_ix (vv 7) ve_int))))
  (vss_cons (vs_setLc (i := 5) (own := [(("index" : Str), 2)]) rfl sc_fault_routes.nd rfl rfl (sw_true rfl rfl rfl (by decide +kernel)) (by decide) (vi_rg1 (by rfl) T.b_range (va_cons (ve_callB vc_len (by rfl) T.b_len (by decide +kernel) (va_cons (vv 1) va_nil)) va_nil)) (blkOk_by (own := [(("index" : Str), 2)]) (N := N_fault_routes) (sc := defScope s_fault_routes) (by decide +kernel)) (fun _ _ _ _ _ => (vg_name (i := 2) sc_fault_routes.nd rfl (by first | exact Or.inl rfl | exact Or.inr rfl))) (fun _ _ _ _ _ => vts_nil) (fun _ _ _ _ _ => (ve_call D_fault_of_route (hr.mono (by decide)) (by rfl) (va_cons (vv 1) (va_cons (vv 2) (va_cons (vv 3) (va_cons (vv 4) va_nil)))))))
  (vss_cons (vs_for PassesOwn.never rfl (vi_seq (ve_tup (va_cons ve_str (va_cons ve_str (va_cons ve_str va_nil))))) (vg_name (i := 6) sc_fault_routes.nd rfl (by first | exact Or.inl rfl | exact Or.inr rfl)) (vss_one (vs_if (vt_cmp (vo_in (hu65 hr)) (vv 6) (vv 5) (by rfl)) (vss_one (vs_ret (ve_tup (va_cons (vv 6) (va_cons (ve_bm PySem.F.plainAttrs_list PySem.F.slot_list_index PySem.F.type_list_index (vm_index (hu65 hr)) (vv 5) (va_cons (vv 6) va_nil)) va_nil))))) vss_nil)))
  (vss_one (vs_ret ve_non)))))))))

theorem df_fault_routes (T : Txt K mg a_is_named a_is_plain_segment a_is_segment) {S_fault_of_route S_is_route : SpD} (D_fault_of_route : Df P w K mg base 2 "fault_of_route" S_fault_of_route) (D_is_route : Df P w K mg base 5 "is_route" S_is_route) {S : SpD} (len : ∀ xs M Q, S xs M Q → xs.length = 1) (hs : ∀ xs M Q, S xs M Q → t_fault_routes S_fault_of_route S_is_route { nx := fun _ M' => Q (.d .none) M', rt := Q } (startD 8 xs) M) : Df P w K mg base 6 "fault_routes" S :=
  T.f_fault_routes.df sc_fault_routes len (fun f cdv A outer s H E hr => w_fault_routes T D_fault_of_route D_is_route hr) hs

theorem sc_is_error : FnScope N_is_error P_is_error (defScope s_is_error) := ⟨rfl, rfl, rfl, by decide +kernel, rfl, by decide +kernel, by decide +kernel⟩
theorem w_is_error (T : Txt K mg a_is_named a_is_plain_segment a_is_segment) {S_is_signs S_is_within : SpD} (D_is_signs : Df P w K mg base 1 "is_signs" S_is_signs) (D_is_within : Df P w K mg base 2 "is_within" S_is_within) {f : Addr} {cdv : Value} {A : Around} {outer : List Env} {s : Shared} {H : Hp} {E : XK} (hr : Room 2 (A.deeper (envOfC "is_error" (defScope s_is_error) s.heap.objs.size f cdv))) :
    VSs (cxOf CX0 P w K mg base N_is_error "is_error" (defScope s_is_error) f cdv A outer s H E).nox (defBody s_is_error) (t_is_error S_is_signs S_is_within) :=
  (vss_cons (vs_if (vt_w (vw_or (vt_not (vt_tru (ve_callB vc_isi (by rfl) T.b_isinstance (by decide +kernel) (va_cons (vv 0) (va_cons (ve_bltn (v := .ty "tuple") (by rfl) T.b_tuple (by decide +kernel) rfl) va_nil))))) (vw_or (vt_cmp (vo_ne hr.units) (ve_callB vc_len (by rfl) T.b_len (by decide +kernel) (va_cons (vv 0) va_nil)) ve_int (nomark _)) (vw_or (vt_cmp (vo_ne hr.units) (ve_ix (vv 0) ve_int) (vv 1) (nomark _)) (vw_or1 (vt_not (vt_tru (ve_call D_is_within (hr.mono (by decide)) (by rfl) (va_cons (ve_ix (vv 0) ve_int) (va_cons ve_int (va_cons ve_int va_nil))))))))))) (vss_one (vs_ret ve_bl)) vss_nil)
  (vss_one (vs_ret (ve_and (ve_call D_is_signs (hr.mono (by decide)) (by rfl) (va_cons (ve_ix (vv 0) ve_int) va_nil)) (ve_one (ve_cmp vo_le (ve_callB vc_len (by rfl) T.b_len (by decide +kernel) (va_cons (ve_ix (vv 0) ve_int) va_nil)) (ve_kc T.c_MOST_TEXT (by rfl)) (nomark _)))))))

theorem df_is_error (T : Txt K mg a_is_named a_is_plain_segment a_is_segment) {S_is_signs S_is_within : SpD} (D_is_signs : Df P w K mg base 1 "is_signs" S_is_signs) (D_is_within : Df P w K mg base 2 "is_within" S_is_within) {S : SpD} (len : ∀ xs M Q, S xs M Q → xs.length = 2) (hs : ∀ xs M Q, S xs M Q → t_is_error S_is_signs S_is_within { nx := fun _ M' => Q (.d .none) M', rt := Q } (startD 2 xs) M) : Df P w K mg base 3 "is_error" S :=
  T.f_is_error.df sc_is_error len (fun f cdv A outer s H E hr => w_is_error T D_is_signs D_is_within hr) hs

theorem sc_fault_errors : FnScope N_fault_errors P_fault_errors (defScope s_fault_errors) := ⟨rfl, rfl, rfl, by decide +kernel, rfl, by decide +kernel, by decide +kernel⟩
theorem w_fault_errors (T : Txt K mg a_is_named a_is_plain_segment a_is_segment) {S_is_error : SpD} (D_is_error : Df P w K mg base 3 "is_error" S_is_error) {f : Addr} {cdv : Value} {A : Around} {outer : List Env} {s : Shared} {H : Hp} {E : XK} (hr : Room 3 (A.deeper (envOfC "fault_errors" (defScope s_fault_errors) s.heap.objs.size f cdv))) :
    VSs (cxOf CX0 P w K mg base N_fault_errors "fault_errors" (defScope s_fault_errors) f cdv A outer s H E).nox (defBody s_fault_errors) (t_fault_errors S_is_error) :=
  (vss_cons (vs_set (i := 1) sc_fault_errors.nd rfl (by first | exact Or.inl rfl | exact Or.inr rfl) (ve_dget (hu1 hr) (vv 0) ve_str))
  (vss_cons (vs_if (vt_w (vw_or (vt_not (vt_tru (ve_callB vc_isi (by rfl) T.b_isinstance (by decide +kernel) (va_cons (vv 1) (va_cons (ve_bltn (v := .ty "tuple") (by rfl) T.b_tuple (by decide +kernel) rfl) va_nil))))) (vw_or1 (vt_cmp (vo_ne hr.units) (ve_callB vc_len (by rfl) T.b_len (by decide +kernel) (va_cons (vv 1) va_nil)) (ve_callB vc_len (by rfl) T.b_len (by decide +kernel) (va_cons (ve_kc T.c_ERROR_WORDS (by rfl)) va_nil)) (nomark _))))) (vss_one (vs_ret (ve_tup (va_cons ve_str (va_cons ve_non va_nil))))) vss_nil)
  (vss_cons (vs_for PassesOwn.never rfl (vi_rg1 (by rfl) T.b_range (va_cons (ve_callB vc_len (by rfl) T.b_len (by decide +kernel) (va_cons (vv 1) va_nil)) va_nil)) (vg_name (i := 2) sc_fault_errors.nd rfl (by first | exact Or.inl rfl | exact Or.inr rfl)) (vss_one (vs_if (vt_not (vt_tru (ve_call D_is_error (hr.mono (by decide)) (by rfl) (va_cons (ve_ix (vv 1) (vv 2)) (va_cons (ve_ix (ve_kc T.c_ERROR_WORDS (by rfl)) (vv 2)) va_nil))))) (vss_one (vs_ret (ve_tup (va_cons ve_str (va_cons (vv 2) va_nil))))) vss_nil)))
  (vss_one (vs_ret ve_non)))))

theorem df_fault_errors (T : Txt K mg a_is_named a_is_plain_segment a_is_segment) {S_is_error : SpD} (D_is_error : Df P w K mg base 3 "is_error" S_is_error) {S : SpD} (len : ∀ xs M Q, S xs M Q → xs.length = 1) (hs : ∀ xs M Q, S xs M Q → t_fault_errors S_is_error { nx := fun _ M' => Q (.d .none) M', rt := Q } (startD 3 xs) M) : Df P w K mg base 4 "fault_errors" S :=
  T.f_fault_errors.df sc_fault_errors len (fun f cdv A outer s H E hr => w_fault_errors T D_is_error hr) hs

theorem sc_error_row : FnScope N_error_row P_error_row (defScope s_error_row) := ⟨rfl, rfl, rfl, by decide +kernel, rfl, by decide +kernel, by decide +kernel⟩
theorem w_error_row (T : Txt K mg a_is_named a_is_plain_segment a_is_segment) {f : Addr} {cdv : Value} {A : Around} {outer : List Env} {s : Shared} {H : Hp} {E : XK} (hr : Room 0 (A.deeper (envOfC "error_row" (defScope s_error_row) s.heap.objs.size f cdv))) :
    VSs (cxOf CX0 P w K mg base N_error_row "error_row" (defScope s_error_row) f cdv A outer s H E).nox (defBody s_error_row) (t_error_row ) :=
  (vss_one (vs_ret (ve_slice (ve_ix (vv 0) (ve_xidx T.x_ERROR_WORDS (by rfl) (vv 1))) (vp_some ve_int) vp_none)))

theorem df_error_row (T : Txt K mg a_is_named a_is_plain_segment a_is_segment) {S : SpD} (len : ∀ xs M Q, S xs M Q → xs.length = 2) (hs : ∀ xs M Q, S xs M Q → t_error_row  { nx := fun _ M' => Q (.d .none) M', rt := Q } (startD 2 xs) M) : Df P w K mg base 1 "error_row" S :=
  T.f_error_row.df sc_error_row len (fun f cdv A outer s H E hr => w_error_row T hr) hs

theorem sc_fits_route : FnScope N_fits_route P_fits_route (defScope s_fits_route) := ⟨rfl, rfl, rfl, by decide +kernel, rfl, by decide +kernel, by decide +kernel⟩
theorem w_fits_route (T : Txt K mg a_is_named a_is_plain_segment a_is_segment) {f : Addr} {cdv : Value} {A : Around} {outer : List Env} {s : Shared} {H : Hp} {E : XK} (hr : Room 0 (A.deeper (envOfC "fits_route" (defScope s_fits_route) s.heap.objs.size f cdv))) :
    VSs (cxOf CX0 P w K mg base N_fits_route "fits_route" (defScope s_fits_route) f cdv A outer s H E).nox (defBody s_fits_route) (t_fits_route ) :=
  (vss_one (vs_ret (ve_and (ve_cmp (vo_in (hu65 hr)) (ve_ix (vv 0) ve_int) (ve_tup (va_cons (vv 2) (va_cons ve_str va_nil))) (by rfl)) (ve_and (ve_cmp (vo_in (hu65 hr)) (vv 1) (ve_ix (vv 0) ve_int) (by rfl)) (ve_one (ve_cmp (vo_eq hr.units) (ve_callTy vc_tuple (by rfl) T.b_tuple (by decide +kernel) (va_cons (ve_slice (vv 3) vp_none (vp_some (ve_callB vc_len (by rfl) T.b_len (by decide +kernel) (va_cons (ve_ix (vv 0) ve_int) va_nil)))) va_nil)) (ve_ix (vv 0) ve_int) (nomark _)))))))

theorem df_fits_route (T : Txt K mg a_is_named a_is_plain_segment a_is_segment) {S : SpD} (len : ∀ xs M Q, S xs M Q → xs.length = 4) (hs : ∀ xs M Q, S xs M Q → t_fits_route  { nx := fun _ M' => Q (.d .none) M', rt := Q } (startD 4 xs) M) : Df P w K mg base 1 "fits_route" S :=
  T.f_fits_route.df sc_fits_route len (fun f cdv A outer s H E hr => w_fits_route T hr) hs

theorem sc_longest : FnScope N_longest P_longest (defScope s_longest) := ⟨rfl, rfl, rfl, by decide +kernel, rfl, by decide +kernel, by decide +kernel⟩
theorem w_longest (T : Txt K mg a_is_named a_is_plain_segment a_is_segment) {S_fits_route : SpD} (D_fits_route : Df P w K mg base 1 "fits_route" S_fits_route) {f : Addr} {cdv : Value} {A : Around} {outer : List Env} {s : Shared} {H : Hp} {E : XK} (hr : Room 1 (A.deeper (envOfC "longest" (defScope s_longest) s.heap.objs.size f cdv))) :
    VSs (cxOf CX0 P w K mg base N_longest "longest" (defScope s_longest) f cdv A outer s H E).nox (defBody s_longest) (t_longest S_fits_route) :=
  (vss_cons (vs_set (i := 4) sc_longest.nd rfl (by first | exact Or.inl rfl | exact Or.inr rfl) ve_non)
  (vss_cons (vs_for PassesOwn.never rfl (vi_rg1 (by rfl) T.b_range (va_cons (ve_callB vc_len (by rfl) T.b_len (by decide +kernel) (va_cons (vv 0) va_nil)) va_nil)) (vg_name (i := 5) sc_longest.nd rfl (by first | exact Or.inl rfl | exact Or.inr rfl)) (vss_cons (vs_set (i := 6) sc_longest.nd rfl (by first | exact Or.inl rfl | exact Or.inr rfl) (ve_ix (vv 0) (vv 5)))
  (vss_one (vs_if (vt_w (vw_and (vt_cmp (vo_eq hr.units) (ve_ix (vv 6) ve_int) (vv 2) (nomark _)) (vw_and1 (vt_tru (ve_call D_fits_route (hr.mono (by decide)) (by rfl) (va_cons (vv 6) (va_cons (vv 1) (va_cons (vv 2) (va_cons (vv 3) va_nil))))))))) (vss_one (vs_if (vt_w (vw_or (vt_cmp vo_is (vv 4) ve_non (nomark _)) (vw_or1 (vt_cmp vo_gt (ve_callB vc_len (by rfl) T.b_len (by decide +kernel) (va_cons (ve_ix (vv 6) ve_int) va_nil)) (ve_callB vc_len (by rfl) T.b_len (by decide +kernel) (va_cons (ve_ix (ve_ix (vv 0) (vv 4)) ve_int) va_nil)) (nomark _))))) (vss_one (vs_set (i := 4) sc_longest.nd rfl (by first | exact Or.inl rfl | exact Or.inr rfl) (vv 5))) vss_nil)) vss_nil))))
  (vss_one (vs_ret (vv 4)))))

theorem df_longest (T : Txt K mg a_is_named a_is_plain_segment a_is_segment) {S_fits_route : SpD} (D_fits_route : Df P w K mg base 1 "fits_route" S_fits_route) {S : SpD} (len : ∀ xs M Q, S xs M Q → xs.length = 4) (hs : ∀ xs M Q, S xs M Q → t_longest S_fits_route { nx := fun _ M' => Q (.d .none) M', rt := Q } (startD 7 xs) M) : Df P w K mg base 2 "longest" S :=
  T.f_longest.df sc_longest len (fun f cdv A outer s H E hr => w_longest T D_fits_route hr) hs

theorem sc_route_of : FnScope N_route_of P_route_of (defScope s_route_of) := ⟨rfl, rfl, rfl, by decide +kernel, rfl, by decide +kernel, by decide +kernel⟩
theorem w_route_of (T : Txt K mg a_is_named a_is_plain_segment a_is_segment) {S_longest : SpD} (D_longest : Df P w K mg base 2 "longest" S_longest) {f : Addr} {cdv : Value} {A : Around} {outer : List Env} {s : Shared} {H : Hp} {E : XK} (hr : Room 2 (A.deeper (envOfC "route_of" (defScope s_route_of) s.heap.objs.size f cdv))) :
    VSs (cxOf CX0 P w K mg base N_route_of "route_of" (defScope s_route_of) f cdv A outer s H E).nox (defBody s_route_of) (t_route_of S_longest) :=
  (vss_cons (vs_set (i := 4) sc_route_of.nd rfl (by first | exact Or.inl rfl | exact Or.inr rfl) (ve_call D_longest (hr.mono (by decide)) (by rfl) (va_cons (vv 0) (va_cons (vv 1) (va_cons (vv 2) (va_cons (vv 3) va_nil))))))
  (vss_one (vs_ret (ve_if (vt_cmp vo_is (vv 4) ve_non (nomark _)) (ve_call D_longest (hr.mono (by decide)) (by rfl) (va_cons (vv 0) (va_cons (vv 1) (va_cons ve_str (va_cons (vv 3) va_nil))))) (vv 4)))))

theorem df_route_of (T : Txt K mg a_is_named a_is_plain_segment a_is_segment) {S_longest : SpD} (D_longest : Df P w K mg base 2 "longest" S_longest) {S : SpD} (len : ∀ xs M Q, S xs M Q → xs.length = 4) (hs : ∀ xs M Q, S xs M Q → t_route_of S_longest { nx := fun _ M' => Q (.d .none) M', rt := Q } (startD 5 xs) M) : Df P w K mg base 3 "route_of" S :=
  T.f_route_of.df sc_route_of len (fun f cdv A outer s H E hr => w_route_of T D_longest hr) hs

theorem sc__law_draw : FnScope N__law_draw P__law_draw (defScope s__law_draw) := ⟨rfl, rfl, rfl, by decide +kernel, rfl, by decide +kernel, by decide +kernel⟩
theorem w__law_draw (T : Txt K mg a_is_named a_is_plain_segment a_is_segment) {f : Addr} {cdv : Value} {A : Around} {outer : List Env} {s : Shared} {H : Hp} {E : XK} (hr : Room 0 (A.deeper (envOfC "_law_draw" (defScope s__law_draw) s.heap.objs.size f cdv))) :
    VSs (cxOf CX0 P w K mg base N__law_draw "_law_draw" (defScope s__law_draw) f cdv A outer s H E).nox (defBody s__law_draw) (t__law_draw ) :=
  (vss_cons (vs_if (vt_cmp (vo_eq hr.units) (ve_ix (vv 0) ve_int) ve_int (nomark _)) (vss_cons (vs_set (i := 2) sc__law_draw.nd rfl (by first | exact Or.inl rfl | exact Or.inr rfl) ve_int)
  (vss_cons (vs_if (vt_cmp vo_lt (ve_ix (vv 0) ve_int) (ve_callB vc_len (by rfl) T.b_len (by decide +kernel) (va_cons (ve_ix (vv 0) ve_int) va_nil)) (nomark _)) (vss_one (vs_set (i := 2) sc__law_draw.nd rfl (by first | exact Or.inl rfl | exact Or.inr rfl) (ve_callB vc_abs (by rfl) T.b_abs (by decide +kernel) (va_cons (ve_callTy vc_int (by rfl) T.b_int (by decide +kernel) (va_cons (ve_ix (ve_ix (vv 0) ve_int) (ve_ix (vv 0) ve_int)) va_nil)) va_nil)))) vss_nil)
  (vss_cons (vs_sub (ve_op vo_add (ve_ix (vv 0) ve_int) ve_int) (vv 0) ve_int)
  (vss_cons (vs_sub (vv 2) (vv 0) ve_int)
  (vss_one (vs_if (vt_cmp vo_lt (vv 2) (ve_op vo_pow ve_int ve_int) (nomark _)) (vss_cons (vs_set (i := 3) sc__law_draw.nd rfl (by first | exact Or.inl rfl | exact Or.inr rfl) (ve_op vo_mod (ve_callTy vc_int (by rfl) T.b_int (by decide +kernel) (va_cons (ve_op vo_add (ve_op vo_add (ve_op vo_mul (vv 2) ve_int) (ve_op vo_mul (ve_ix (vv 0) ve_int) ve_int)) ve_int) va_nil)) ve_int))
  (vss_one (vs_sub (ve_op vo_add (ve_op vo_mul (vv 3) ve_int) (ve_op vo_mod (ve_callTy vc_int (by rfl) T.b_int (by decide +kernel) (va_cons (ve_op vo_add (ve_op vo_mul (vv 3) ve_int) ve_int) va_nil)) ve_int)) (vv 0) ve_int))) vss_nil)))))) vss_nil)
  (vss_cons (vs_set (i := 4) sc__law_draw.nd rfl (by first | exact Or.inl rfl | exact Or.inr rfl) (ve_ix (vv 0) ve_int))
  (vss_cons (vs_sub (ve_op vo_fdiv (vv 4) (vv 1)) (vv 0) ve_int)
  (vss_one (vs_ret (ve_op vo_mod (ve_callTy vc_int (by rfl) T.b_int (by decide +kernel) (va_cons (vv 4) va_nil)) (vv 1)))))))

theorem df__law_draw (T : Txt K mg a_is_named a_is_plain_segment a_is_segment) {S : SpD} (len : ∀ xs M Q, S xs M Q → xs.length = 2) (hs : ∀ xs M Q, S xs M Q → t__law_draw  { nx := fun _ M' => Q (.d .none) M', rt := Q } (startD 5 xs) M) : Df P w K mg base 1 "_law_draw" S :=
  T.f__law_draw.df sc__law_draw len (fun f cdv A outer s H E hr => w__law_draw T hr) hs

theorem sc__law_pick : FnScope N__law_pick P__law_pick (defScope s__law_pick) := ⟨rfl, rfl, rfl, by decide +kernel, rfl, by decide +kernel, by decide +kernel⟩
theorem w__law_pick (T : Txt K mg a_is_named a_is_plain_segment a_is_segment) {S__law_draw : SpD} (D__law_draw : Df P w K mg base 1 "_law_draw" S__law_draw) {f : Addr} {cdv : Value} {A : Around} {outer : List Env} {s : Shared} {H : Hp} {E : XK} (hr : Room 1 (A.deeper (envOfC "_law_pick" (defScope s__law_pick) s.heap.objs.size f cdv))) :
    VSs (cxOf CX0 P w K mg base N__law_pick "_law_pick" (defScope s__law_pick) f cdv A outer s H E).nox (defBody s__law_pick) (t__law_pick S__law_draw) :=
  (vss_one (vs_ret (ve_ix (vv 1) (ve_call D__law_draw (hr.mono (by decide)) (by rfl) (va_cons (vv 0) (va_cons (ve_callB vc_len (by rfl) T.b_len (by decide +kernel) (va_cons (vv 1) va_nil)) va_nil))))))

theorem df__law_pick (T : Txt K mg a_is_named a_is_plain_segment a_is_segment) {S__law_draw : SpD} (D__law_draw : Df P w K mg base 1 "_law_draw" S__law_draw) {S : SpD} (len : ∀ xs M Q, S xs M Q → xs.length = 2) (hs : ∀ xs M Q, S xs M Q → t__law_pick S__law_draw { nx := fun _ M' => Q (.d .none) M', rt := Q } (startD 2 xs) M) : Df P w K mg base 2 "_law_pick" S :=
  T.f__law_pick.df sc__law_pick len (fun f cdv A outer s H E hr => w__law_pick T D__law_draw hr) hs

theorem sc__law_route : FnScope N__law_route P__law_route (defScope s__law_route) := ⟨rfl, rfl, rfl, by decide +kernel, rfl, by decide +kernel, by decide +kernel⟩
theorem w__law_route (T : Txt K mg a_is_named a_is_plain_segment a_is_segment) {S__law_draw S__law_pick : SpD} (D__law_draw : Df P w K mg base 1 "_law_draw" S__law_draw) (D__law_pick : Df P w K mg base 2 "_law_pick" S__law_pick) {f : Addr} {cdv : Value} {A : Around} {outer : List Env} {s : Shared} {H : Hp} {E : XK} (hr : Room 2 (A.deeper (envOfC "_law_route" (defScope s__law_route) s.heap.objs.size f cdv))) :
    VSs (cxOf CX0 P w K mg base N__law_route "_law_route" (defScope s__law_route) f cdv A outer s H E).nox (defBody s__law_route) (t__law_route S__law_draw S__law_pick) :=
  (vss_cons (vs_set (i := 1) sc__law_route.nd rfl (by first | exact Or.inl rfl | exact Or.inr rfl) (ve_call D__law_pick (hr.mono (by decide)) (by rfl) (va_cons (vv 0) (va_cons (ve_lst (va_cons ve_str (va_cons ve_str (va_cons ve_str (va_cons ve_str (va_cons ve_str va_nil)))))) va_nil))))
  (vss_cons (vs_set (i := 2) sc__law_route.nd rfl (by first | exact Or.inl rfl | exact Or.inr rfl) (ve_callTy vc_tuple (by rfl) T.b_tuple (by decide +kernel) (va_cons (ve_lc (own := [(("k" : Str), 7)]) rfl sc__law_route.nd (by decide) (vi_rg1 (by rfl) T.b_range (va_cons (ve_call D__law_pick (hr.mono (by decide)) (by rfl) (va_cons (vv 0) (va_cons (ve_lst (va_cons ve_int (va_cons ve_int (va_cons ve_int (va_cons ve_int (va_cons ve_int (va_cons ve_int (va_cons ve_int (va_cons ve_int va_nil))))))))) va_nil))) va_nil)) (blkOk_by (own := [(("k" : Str), 7)]) (N := N__law_route) (sc := defScope s__law_route) (by decide +kernel)) (fun _ _ _ _ _ => (vg_name (i := 7) sc__law_route.nd rfl (by first | exact Or.inl rfl | exact Or.inr rfl))) (fun _ _ _ _ _ => vts_nil) (fun _ _ _ _ _ => (ve_call D__law_pick (hr.mono (by decide)) (by rfl) (va_cons (vv 0) (va_cons (ve_lst (va_cons ve_str (va_cons ve_str (va_cons ve_str va_nil)))) va_nil))))) va_nil)))
  (vss_cons (vs_setLc (i := 3) (own := [(("name" : Str), 8)]) rfl sc__law_route.nd rfl rfl (sw_true rfl rfl rfl (by decide +kernel)) (by decide) (vi_seq (ve_lst (va_cons ve_str (va_cons ve_str (va_cons ve_str (va_cons ve_str (va_cons ve_str va_nil))))))) (blkOk_by (own := [(("name" : Str), 8)]) (N := N__law_route) (sc := defScope s__law_route) (by decide +kernel)) (fun _ _ _ _ _ => (vg_name (i := 8) sc__law_route.nd rfl (by first | exact Or.inl rfl | exact Or.inr rfl))) (fun _ _ _ _ _ => (vts_one (vt_cmp (vo_eq hr.units) (ve_call D__law_draw (hr.mono (by decide)) (by rfl) (va_cons (vv 0) (va_cons ve_int va_nil))) ve_int (nomark _)))) (fun _ _ _ _ _ => vv 8))
  (vss_cons (vs_if (vt_cmp (vo_eq hr.units) (vv 3) (ve_lst va_nil) (nomark _)) (vss_one (vs_set (i := 3) sc__law_route.nd rfl (by first | exact Or.inl rfl | exact Or.inr rfl) (ve_lst (va_cons ve_str va_nil)))) vss_nil)
  (vss_cons (vs_set (i := 4) sc__law_route.nd rfl (by first | exact Or.inl rfl | exact Or.inr rfl) (ve_callTy vc_tuple (by rfl) T.b_tuple (by decide +kernel) (va_cons (ve_lc (own := [(("k" : Str), 7)]) rfl sc__law_route.nd (by decide) (vi_rg1 (by rfl) T.b_range (va_cons (ve_call D__law_draw (hr.mono (by decide)) (by rfl) (va_cons (vv 0) (va_cons ve_int va_nil))) va_nil)) (blkOk_by (own := [(("k" : Str), 7)]) (N := N__law_route) (sc := defScope s__law_route) (by decide +kernel)) (fun _ _ _ _ _ => (vg_name (i := 7) sc__law_route.nd rfl (by first | exact Or.inl rfl | exact Or.inr rfl))) (fun _ _ _ _ _ => vts_nil) (fun _ _ _ _ _ => (ve_call D__law_pick (hr.mono (by decide)) (by rfl) (va_cons (vv 0) (va_cons (ve_lst (va_cons ve_str (va_cons ve_str va_nil))) va_nil))))) va_nil)))
  (vss_cons (vs_set (i := 5) sc__law_route.nd rfl (by first | exact Or.inl rfl | exact Or.inr rfl) (ve_callTy vc_tuple (by rfl) T.b_tuple (by decide +kernel) (va_cons (ve_slice (ve_lst (va_cons ve_str (va_cons ve_str (va_cons ve_str (va_cons ve_str va_nil))))) vp_none (vp_some (ve_call D__law_draw (hr.mono (by decide)) (by rfl) (va_cons (vv 0) (va_cons ve_int va_nil))))) va_nil)))
  (vss_cons (vs_set (i := 6) sc__law_route.nd rfl (by first | exact Or.inl rfl | exact Or.inr rfl) (ve_call D__law_pick (hr.mono (by decide)) (by rfl) (va_cons (vv 0) (va_cons (ve_lst (va_cons ve_str (va_cons ve_str va_nil))) va_nil))))
  (vss_one (vs_ret (ve_tup (va_cons (vv 1) (va_cons (vv 2) (va_cons (ve_callTy vc_tuple (by rfl) T.b_tuple (by decide +kernel) (va_cons (vv 3) va_nil)) (va_cons (vv 6) (va_cons (ve_call D__law_draw (hr.mono (by decide)) (by rfl) (va_cons (vv 0) (va_cons (ve_op vo_add (ve_callB vc_len (by rfl) T.b_len (by decide +kernel) (va_cons (vv 2) va_nil)) ve_int) va_nil))) (va_cons (vv 4) (va_cons (vv 5) (va_cons (ve_op vo_add ve_int (ve_call D__law_draw (hr.mono (by decide)) (by rfl) (va_cons (vv 0) (va_cons ve_int va_nil)))) (va_cons (ve_op vo_add ve_int (ve_call D__law_draw (hr.mono (by decide)) (by rfl) (va_cons (vv 0) (va_cons ve_int va_nil)))) va_nil)))))))))))))))))))

theorem df__law_route (T : Txt K mg a_is_named a_is_plain_segment a_is_segment) {S__law_draw S__law_pick : SpD} (D__law_draw : Df P w K mg base 1 "_law_draw" S__law_draw) (D__law_pick : Df P w K mg base 2 "_law_pick" S__law_pick) {S : SpD} (len : ∀ xs M Q, S xs M Q → xs.length = 1) (hs : ∀ xs M Q, S xs M Q → t__law_route S__law_draw S__law_pick { nx := fun _ M' => Q (.d .none) M', rt := Q } (startD 9 xs) M) : Df P w K mg base 3 "_law_route" S :=
  T.f__law_route.df sc__law_route len (fun f cdv A outer s H E hr => w__law_route T D__law_draw D__law_pick hr) hs

theorem sc__law_same : FnScope N__law_same P__law_same (defScope s__law_same) := ⟨rfl, rfl, rfl, by decide +kernel, rfl, by decide +kernel, by decide +kernel⟩
theorem w__law_same (T : Txt K mg a_is_named a_is_plain_segment a_is_segment) {f : Addr} {cdv : Value} {A : Around} {outer : List Env} {s : Shared} {H : Hp} {E : XK} (hr : Room 0 (A.deeper (envOfC "_law_same" (defScope s__law_same) s.heap.objs.size f cdv))) :
    VSs (cxOf CX0 P w K mg base N__law_same "_law_same" (defScope s__law_same) f cdv A outer s H E).nox (defBody s__law_same) (t__law_same ) :=
  (vss_one (vs_ret (ve_and (ve_cmp (vo_eq hr.units) (ve_ix (vv 0) ve_int) (ve_ix (vv 1) ve_int) (nomark _)) (ve_and (ve_cmp (vo_eq hr.units) (ve_ix (vv 0) ve_int) (ve_ix (vv 1) ve_int) (nomark _)) (ve_one (ve_cmp (vo_ne hr.units) (ve_lc (own := [(("name" : Str), 2)]) rfl sc__law_same.nd (by decide) (vi_seq (ve_ix (vv 0) ve_int)) (blkOk_by (own := [(("name" : Str), 2)]) (N := N__law_same) (sc := defScope s__law_same) (by decide +kernel)) (fun _ _ _ _ _ => (vg_name (i := 2) sc__law_same.nd rfl (by first | exact Or.inl rfl | exact Or.inr rfl))) (fun _ _ _ _ _ => (vts_one (vt_cmp (vo_in (hu65 hr)) (vv 2) (ve_ix (vv 1) ve_int) (by rfl)))) (fun _ _ _ _ _ => vv 2)) (ve_lst va_nil) (nomark _)))))))

theorem df__law_same (T : Txt K mg a_is_named a_is_plain_segment a_is_segment) {S : SpD} (len : ∀ xs M Q, S xs M Q → xs.length = 2) (hs : ∀ xs M Q, S xs M Q → t__law_same  { nx := fun _ M' => Q (.d .none) M', rt := Q } (startD 3 xs) M) : Df P w K mg base 1 "_law_same" S :=
  T.f__law_same.df sc__law_same len (fun f cdv A outer s H E hr => w__law_same T hr) hs

theorem sc__law_routes : FnScope N__law_routes P__law_routes (defScope s__law_routes) := ⟨rfl, rfl, rfl, by decide +kernel, rfl, by decide +kernel, by decide +kernel⟩
theorem w__law_routes (T : Txt K mg a_is_named a_is_plain_segment a_is_segment) {S__law_pick S__law_draw S__law_same S__law_route : SpD} (D__law_pick : Df P w K mg base 2 "_law_pick" S__law_pick) (D__law_draw : Df P w K mg base 1 "_law_draw" S__law_draw) (D__law_same : Df P w K mg base 1 "_law_same" S__law_same) (D__law_route : Df P w K mg base 3 "_law_route" S__law_route) {f : Addr} {cdv : Value} {A : Around} {outer : List Env} {s : Shared} {H : Hp} {E : XK} (hr : Room 3 (A.deeper (envOfC "_law_routes" (defScope s__law_routes) s.heap.objs.size f cdv))) :
    VSs (cxOf CX0 P w K mg base N__law_routes "_law_routes" (defScope s__law_routes) f cdv A outer s H E).nox (defBody s__law_routes) (t__law_routes S__law_pick S__law_draw S__law_same S__law_route) :=
  (vss_cons (vs_set (i := 1) sc__law_routes.nd rfl (by first | exact Or.inl rfl | exact Or.inr rfl) (ve_lstM va_nil))
  (vss_cons (vs_for PassesOwn.never rfl (vi_rg1 (by rfl) T.b_range (va_cons (ve_call D__law_pick (hr.mono (by decide)) (by rfl) (va_cons (vv 0) (va_cons (ve_lst (va_cons (ve_call D__law_draw (hr.mono (by decide)) (by rfl) (va_cons (vv 0) (va_cons ve_int va_nil))) (va_cons (ve_call D__law_draw (hr.mono (by decide)) (by rfl) (va_cons (vv 0) (va_cons ve_int va_nil))) (va_cons ve_int va_nil)))) va_nil))) va_nil)) (vg_name (i := 2) sc__law_routes.nd rfl (by first | exact Or.inl rfl | exact Or.inr rfl)) (vss_cons (vs_set (i := 3) sc__law_routes.nd rfl (by first | exact Or.inl rfl | exact Or.inr rfl) (ve_call D__law_route (hr.mono (by decide)) (by rfl) (va_cons (vv 0) va_nil)))
  (vss_one (vs_if (vt_w (vw_and (vt_cmp vo_lt (ve_callB vc_len (by rfl) T.b_len (by decide +kernel) (va_cons (vv 1) va_nil)) ve_int (nomark _)) (vw_and1 (vt_not (vt_tru (ve_callB (vc_any rfl) (by rfl) T.b_any (by decide +kernel) (va_cons (ve_lc (own := [(("other" : Str), 4)]) rfl sc__law_routes.nd (by decide) (vi_seq (vv 1)) (blkOk_by (own := [(("other" : Str), 4)]) (N := N__law_routes) (sc := defScope s__law_routes) (by decide +kernel)) (fun _ _ _ _ _ => (vg_name (i := 4) sc__law_routes.nd rfl (by first | exact Or.inl rfl | exact Or.inr rfl))) (fun _ _ _ _ _ => vts_nil) (fun _ _ _ _ _ => (ve_call D__law_same (hr.mono (by decide)) (by rfl) (va_cons (vv 3) (va_cons (vv 4) va_nil))))) va_nil))))))) (vss_one (vs_expr (ve_bm PySem.F.plainAttrs_list PySem.F.slot_list_append PySem.F.type_list_append vm_append (vv 1) (va_cons (vv 3) va_nil)))) vss_nil))))
  (vss_one (vs_ret (ve_frz (vv 1))))))

theorem df__law_routes (T : Txt K mg a_is_named a_is_plain_segment a_is_segment) {S__law_pick S__law_draw S__law_same S__law_route : SpD} (D__law_pick : Df P w K mg base 2 "_law_pick" S__law_pick) (D__law_draw : Df P w K mg base 1 "_law_draw" S__law_draw) (D__law_same : Df P w K mg base 1 "_law_same" S__law_same) (D__law_route : Df P w K mg base 3 "_law_route" S__law_route) {S : SpD} (len : ∀ xs M Q, S xs M Q → xs.length = 1) (hs : ∀ xs M Q, S xs M Q → t__law_routes S__law_pick S__law_draw S__law_same S__law_route { nx := fun _ M' => Q (.d .none) M', rt := Q } (startD 5 xs) M) : Df P w K mg base 4 "_law_routes" S :=
  T.f__law_routes.df sc__law_routes len (fun f cdv A outer s H E hr => w__law_routes T D__law_pick D__law_draw D__law_same D__law_route hr) hs

theorem sc__law_due : FnScope N__law_due P__law_due (defScope s__law_due) := ⟨rfl, rfl, rfl, by decide +kernel, rfl, by decide +kernel, by decide +kernel⟩
theorem w__law_due (T : Txt K mg a_is_named a_is_plain_segment a_is_segment) {f : Addr} {cdv : Value} {A : Around} {outer : List Env} {s : Shared} {H : Hp} {E : XK} (hr : Room 0 (A.deeper (envOfC "_law_due" (defScope s__law_due) s.heap.objs.size f cdv))) :
    VSs (cxOf CX0 P w K mg base N__law_due "_law_due" (defScope s__law_due) f cdv A outer s H E).nox (defBody s__law_due) (t__law_due ) :=
  (vss_cons (vs_for PassesOwn.never rfl (vi_seq (ve_tup (va_cons (vv 2) (va_cons ve_str va_nil)))) (vg_name (i := 4) sc__law_due.nd rfl (by first | exact Or.inl rfl | exact Or.inr rfl)) (vss_cons (vs_set (i := 5) sc__law_due.nd rfl (by first | exact Or.inl rfl | exact Or.inr rfl) ve_non)
  (vss_cons (vs_for PassesOwn.never rfl (vi_rg1 (by rfl) T.b_range (va_cons (ve_callB vc_len (by rfl) T.b_len (by decide +kernel) (va_cons (vv 0) va_nil)) va_nil)) (vg_name (i := 6) sc__law_due.nd rfl (by first | exact Or.inl rfl | exact Or.inr rfl)) (vss_cons (vs_set (i := 7) sc__law_due.nd rfl (by first | exact Or.inl rfl | exact Or.inr rfl) (ve_ix (vv 0) (vv 6)))
  (vss_one (vs_if (vt_w (vw_and (vt_cmp (vo_eq hr.units) (ve_ix (vv 7) ve_int) (vv 4) (nomark _)) (vw_and (vt_cmp (vo_in (hu65 hr)) (vv 1) (ve_ix (vv 7) ve_int) (by rfl)) (vw_and1 (vt_cmp (vo_eq hr.units) (ve_callTy vc_list (by rfl) T.b_list (by decide +kernel) (va_cons (ve_ix (vv 7) ve_int) va_nil)) (ve_slice (ve_callTy vc_list (by rfl) T.b_list (by decide +kernel) (va_cons (vv 3) va_nil)) vp_none (vp_some (ve_callB vc_len (by rfl) T.b_len (by decide +kernel) (va_cons (ve_ix (vv 7) ve_int) va_nil)))) (nomark _)))))) (vss_one (vs_if (vt_w (vw_or (vt_cmp vo_is (vv 5) ve_non (nomark _)) (vw_or1 (vt_cmp vo_gt (ve_callB vc_len (by rfl) T.b_len (by decide +kernel) (va_cons (ve_ix (vv 7) ve_int) va_nil)) (ve_callB vc_len (by rfl) T.b_len (by decide +kernel) (va_cons (ve_ix (ve_ix (vv 0) (vv 5)) ve_int) va_nil)) (nomark _))))) (vss_one (vs_set (i := 5) sc__law_due.nd rfl (by first | exact Or.inl rfl | exact Or.inr rfl) (vv 6))) vss_nil)) vss_nil))))
  (vss_one (vs_if (vt_cmp vo_isnot (vv 5) ve_non (nomark _)) (vss_one (vs_ret (vv 5))) vss_nil)))))
  (vss_one (vs_ret ve_non)))

theorem df__law_due (T : Txt K mg a_is_named a_is_plain_segment a_is_segment) {S : SpD} (len : ∀ xs M Q, S xs M Q → xs.length = 4) (hs : ∀ xs M Q, S xs M Q → t__law_due  { nx := fun _ M' => Q (.d .none) M', rt := Q } (startD 8 xs) M) : Df P w K mg base 1 "_law_due" S :=
  T.f__law_due.df sc__law_due len (fun f cdv A outer s H E hr => w__law_due T hr) hs

theorem sc__law_policy : FnScope N__law_policy P__law_policy (defScope s__law_policy) := ⟨rfl, rfl, rfl, by decide +kernel, rfl, by decide +kernel, by decide +kernel⟩
theorem w__law_policy (T : Txt K mg a_is_named a_is_plain_segment a_is_segment) {f : Addr} {cdv : Value} {A : Around} {outer : List Env} {s : Shared} {H : Hp} {E : XK} (hr : Room 0 (A.deeper (envOfC "_law_policy" (defScope s__law_policy) s.heap.objs.size f cdv))) :
    VSs (cxOf CX0 P w K mg base N__law_policy "_law_policy" (defScope s__law_policy) f cdv A outer s H E).nox (defBody s__law_policy) (t__law_policy ) :=
  (vss_cons (vs_set (i := 1) sc__law_policy.nd rfl (by first | exact Or.inl rfl | exact Or.inr rfl) (ve_tup (va_cons (ve_tup (va_cons ve_str (va_cons ve_int (va_cons ve_int (va_cons ve_int (va_cons ve_str va_nil)))))) va_nil)))
  (vss_cons (vs_set (i := 2) sc__law_policy.nd rfl (by first | exact Or.inl rfl | exact Or.inr rfl) (ve_tup (va_cons (ve_tup (va_cons ve_str (va_cons ve_str (va_cons (ve_tup (va_cons ve_int va_nil)) (va_cons (ve_tup va_nil) va_nil))))) (va_cons (ve_tup (va_cons ve_str (va_cons ve_str (va_cons (ve_tup (va_cons ve_int (va_cons ve_int (va_cons ve_int va_nil)))) (va_cons (ve_tup (va_cons ve_str va_nil)) va_nil))))) (va_cons (ve_tup (va_cons ve_str (va_cons ve_str (va_cons (ve_tup (va_cons ve_int va_nil)) (va_cons (ve_tup va_nil) va_nil))))) (va_cons (ve_tup (va_cons ve_str (va_cons ve_str (va_cons (ve_tup (va_cons ve_int va_nil)) (va_cons (ve_tup va_nil) va_nil))))) va_nil))))))
  (vss_one (vs_ret (ve_disp (pps_cons ve_str (ve_tup (va_cons (ve_tup (va_cons ve_str (va_cons (vv 1) (va_cons ve_str (va_cons ve_non va_nil))))) (va_cons (ve_tup (va_cons ve_str (va_cons (vv 1) (va_cons ve_str (va_cons ve_non va_nil))))) va_nil))) (pps_cons ve_str (vv 2) (pps_cons ve_str (vv 0) pps_nil))) (by rfl) (by rfl) (fun z => by cases z) (by decide))))))

theorem df__law_policy (T : Txt K mg a_is_named a_is_plain_segment a_is_segment) {S : SpD} (len : ∀ xs M Q, S xs M Q → xs.length = 1) (hs : ∀ xs M Q, S xs M Q → t__law_policy  { nx := fun _ M' => Q (.d .none) M', rt := Q } (startD 3 xs) M) : Df P w K mg base 1 "_law_policy" S :=
  T.f__law_policy.df sc__law_policy len (fun f cdv A outer s H E hr => w__law_policy T hr) hs

theorem sc__law_bent : FnScope N__law_bent P__law_bent (defScope s__law_bent) := ⟨rfl, rfl, rfl, by decide +kernel, rfl, by decide +kernel, by decide +kernel⟩
theorem w__law_bent (T : Txt K mg a_is_named a_is_plain_segment a_is_segment) {S__law_draw : SpD} (D__law_draw : Df P w K mg base 1 "_law_draw" S__law_draw) {f : Addr} {cdv : Value} {A : Around} {outer : List Env} {s : Shared} {H : Hp} {E : XK} (hr : Room 1 (A.deeper (envOfC "_law_bent" (defScope s__law_bent) s.heap.objs.size f cdv))) :
    VSs (cxOf CX0 P w K mg base N__law_bent "_law_bent" (defScope s__law_bent) f cdv A outer s H E).nox (defBody s__law_bent) (t__law_bent S__law_draw) :=
  (vss_cons (vs_asg (vv 1) (vg_tup rfl (.cons (i := 2) sc__law_bent.nd rfl (by first | exact Or.inl rfl | exact Or.inr rfl) (by first | exact .inl rfl | exact .inr rfl) rfl (.cons (i := 3) sc__law_bent.nd rfl (by first | exact Or.inl rfl | exact Or.inr rfl) (by first | exact .inl rfl | exact .inr rfl) rfl (.cons (i := 4) sc__law_bent.nd rfl (by first | exact Or.inl rfl | exact Or.inr rfl) (by first | exact .inl rfl | exact .inr rfl) rfl (.cons (i := 5) sc__law_bent.nd rfl (by first | exact Or.inl rfl | exact Or.inr rfl) (by first | exact .inl rfl | exact .inr rfl) rfl (.cons (i := 6) sc__law_bent.nd rfl (by first | exact Or.inl rfl | exact Or.inr rfl) (by first | exact .inl rfl | exact .inr rfl) rfl (.cons (i := 7) sc__law_bent.nd rfl (by first | exact Or.inl rfl | exact Or.inr rfl) (by first | exact .inl rfl | exact .inr rfl) rfl (.cons (i := 8) sc__law_bent.nd rfl (by first | exact Or.inl rfl | exact Or.inr rfl) (by first | exact .inl rfl | exact .inr rfl) rfl (.cons (i := 9) sc__law_bent.nd rfl (by first | exact Or.inl rfl | exact Or.inr rfl) (by first | exact .inl rfl | exact .inr rfl) rfl (.cons (i := 10) sc__law_bent.nd rfl (by first | exact Or.inl rfl | exact Or.inr rfl) (by first | exact .inl rfl | exact .inr rfl) rfl .nil)))))))))))
  (vss_cons (vs_set (i := 11) sc__law_bent.nd rfl (by first | exact Or.inl rfl | exact Or.inr rfl) (ve_lst (va_cons (ve_tup (va_cons ve_str (va_cons (ve_tup (va_cons ve_str (va_cons (vv 3) (va_cons (vv 4) (va_cons (vv 5) (va_cons (vv 6) (va_cons (vv 7) (va_cons (vv 8) (va_cons (vv 9) (va_cons (vv 10) va_nil)))))))))) va_nil))) (va_cons (ve_tup (va_cons ve_str (va_cons (ve_tup (va_cons ve_str (va_cons (vv 3) (va_cons (vv 4) (va_cons (vv 5) (va_cons (vv 6) (va_cons (vv 7) (va_cons (vv 8) (va_cons (vv 9) (va_cons (vv 10) va_nil)))))))))) va_nil))) (va_cons (ve_tup (va_cons ve_str (va_cons (ve_tup (va_cons (vv 2) (va_cons (ve_tup (va_cons ve_str va_nil)) (va_cons (vv 4) (va_cons (vv 5) (va_cons ve_int (va_cons (vv 7) (va_cons (vv 8) (va_cons (vv 9) (va_cons (vv 10) va_nil)))))))))) va_nil))) (va_cons (ve_tup (va_cons ve_str (va_cons (ve_tup (va_cons (vv 2) (va_cons (ve_op vo_mul (ve_tup (va_cons ve_str va_nil)) ve_int) (va_cons (vv 4) (va_cons (vv 5) (va_cons ve_int (va_cons (vv 7) (va_cons (vv 8) (va_cons (vv 9) (va_cons (vv 10) va_nil)))))))))) va_nil))) (va_cons (ve_tup (va_cons ve_str (va_cons (ve_tup (va_cons (vv 2) (va_cons (vv 3) (va_cons (ve_tup va_nil) (va_cons (vv 5) (va_cons (vv 6) (va_cons (vv 7) (va_cons (vv 8) (va_cons (vv 9) (va_cons (vv 10) va_nil)))))))))) va_nil))) (va_cons (ve_tup (va_cons ve_str (va_cons (ve_tup (va_cons (vv 2) (va_cons (vv 3) (va_cons (ve_tup (va_cons ve_str (va_cons ve_str va_nil))) (va_cons (vv 5) (va_cons (vv 6) (va_cons (vv 7) (va_cons (vv 8) (va_cons (vv 9) (va_cons (vv 10) va_nil)))))))))) va_nil))) (va_cons (ve_tup (va_cons ve_str (va_cons (ve_tup (va_cons (vv 2) (va_cons (vv 3) (va_cons (ve_tup (va_cons ve_str (va_cons ve_str va_nil))) (va_cons (vv 5) (va_cons (vv 6) (va_cons (vv 7) (va_cons (vv 8) (va_cons (vv 9) (va_cons (vv 10) va_nil)))))))))) va_nil))) (va_cons (ve_tup (va_cons ve_str (va_cons (ve_tup (va_cons (vv 2) (va_cons (vv 3) (va_cons (ve_tup (va_cons ve_str va_nil)) (va_cons (vv 5) (va_cons (vv 6) (va_cons (vv 7) (va_cons (vv 8) (va_cons (vv 9) (va_cons (vv 10) va_nil)))))))))) va_nil))) (va_cons (ve_tup (va_cons ve_str (va_cons (ve_tup (va_cons (vv 2) (va_cons (vv 3) (va_cons (vv 4) (va_cons ve_int (va_cons (vv 6) (va_cons (vv 7) (va_cons (vv 8) (va_cons (vv 9) (va_cons (vv 10) va_nil)))))))))) va_nil))) (va_cons (ve_tup (va_cons ve_str (va_cons (ve_tup (va_cons (vv 2) (va_cons (vv 3) (va_cons (vv 4) (va_cons (vv 5) (va_cons (ve_op vo_add (ve_callB vc_len (by rfl) T.b_len (by decide +kernel) (va_cons (vv 3) va_nil)) ve_int) (va_cons (vv 7) (va_cons (vv 8) (va_cons (vv 9) (va_cons (vv 10) va_nil)))))))))) va_nil))) (va_cons (ve_tup (va_cons ve_str (va_cons (ve_tup (va_cons (vv 2) (va_cons (vv 3) (va_cons (vv 4) (va_cons (vv 5) (va_cons (ve_neg ve_int) (va_cons (vv 7) (va_cons (vv 8) (va_cons (vv 9) (va_cons (vv 10) va_nil)))))))))) va_nil))) (va_cons (ve_tup (va_cons ve_str (va_cons (ve_tup (va_cons (vv 2) (va_cons (vv 3) (va_cons (vv 4) (va_cons (vv 5) (va_cons (vv 6) (va_cons (ve_tup (va_cons ve_str va_nil)) (va_cons (vv 8) (va_cons (vv 9) (va_cons (vv 10) va_nil)))))))))) va_nil))) (va_cons (ve_tup (va_cons ve_str (va_cons (ve_tup (va_cons (vv 2) (va_cons (vv 3) (va_cons (vv 4) (va_cons (vv 5) (va_cons (vv 6) (va_cons (ve_op vo_mul (ve_tup (va_cons ve_str va_nil)) ve_int) (va_cons (vv 8) (va_cons (vv 9) (va_cons (vv 10) va_nil)))))))))) va_nil))) (va_cons (ve_tup (va_cons ve_str (va_cons (ve_tup (va_cons (vv 2) (va_cons (vv 3) (va_cons (vv 4) (va_cons (vv 5) (va_cons (vv 6) (va_cons (vv 7) (va_cons (ve_tup (va_cons ve_str (va_cons ve_str va_nil))) (va_cons (vv 9) (va_cons (vv 10) va_nil)))))))))) va_nil))) (va_cons (ve_tup (va_cons ve_str (va_cons (ve_tup (va_cons (vv 2) (va_cons (vv 3) (va_cons (vv 4) (va_cons (vv 5) (va_cons (vv 6) (va_cons (vv 7) (va_cons (ve_tup (va_cons ve_str (va_cons ve_str (va_cons ve_str (va_cons ve_str (va_cons ve_str va_nil)))))) (va_cons (vv 9) (va_cons (vv 10) va_nil)))))))))) va_nil))) (va_cons (ve_tup (va_cons ve_str (va_cons (ve_tup (va_cons (vv 2) (va_cons (vv 3) (va_cons (vv 4) (va_cons (vv 5) (va_cons (vv 6) (va_cons (vv 7) (va_cons (vv 8) (va_cons ve_int (va_cons (vv 10) va_nil)))))))))) va_nil))) (va_cons (ve_tup (va_cons ve_str (va_cons (ve_tup (va_cons (vv 2) (va_cons (vv 3) (va_cons (vv 4) (va_cons (vv 5) (va_cons (vv 6) (va_cons (vv 7) (va_cons (vv 8) (va_cons ve_int (va_cons (vv 10) va_nil)))))))))) va_nil))) (va_cons (ve_tup (va_cons ve_str (va_cons (ve_tup (va_cons (vv 2) (va_cons (vv 3) (va_cons (vv 4) (va_cons (vv 5) (va_cons (vv 6) (va_cons (vv 7) (va_cons (vv 8) (va_cons (vv 9) (va_cons ve_int va_nil)))))))))) va_nil))) (va_cons (ve_tup (va_cons ve_str (va_cons (ve_tup (va_cons (vv 2) (va_cons (vv 3) (va_cons (vv 4) (va_cons (vv 5) (va_cons (vv 6) (va_cons (vv 7) (va_cons (vv 8) (va_cons (vv 9) (va_cons ve_int va_nil)))))))))) va_nil))) (va_cons (ve_tup (va_cons ve_str (va_cons (ve_tup (va_cons (vv 2) (va_cons (vv 3) (va_cons (vv 4) (va_cons (vv 5) (va_cons (vv 6) (va_cons (vv 7) (va_cons (vv 8) (va_cons ve_bl (va_cons (vv 10) va_nil)))))))))) va_nil))) (va_cons (ve_tup (va_cons ve_str (va_cons (ve_slice (vv 1) vp_none (vp_some ve_int)) va_nil))) (va_cons (ve_tup (va_cons ve_str (va_cons (ve_callTy vc_list (by rfl) T.b_list (by decide +kernel) (va_cons (vv 1) va_nil)) va_nil))) (va_cons (ve_tup (va_cons ve_str (va_cons ve_non va_nil))) (va_cons (ve_tup (va_cons ve_str (va_cons (ve_tup (va_cons (vv 2) (va_cons (vv 3) (va_cons (vv 4) (va_cons ve_str (va_cons (vv 6) (va_cons (vv 7) (va_cons (vv 8) (va_cons (vv 9) (va_cons (vv 10) va_nil)))))))))) va_nil))) (va_cons (ve_tup (va_cons ve_str (va_cons (ve_tup (va_cons (vv 2) (va_cons (vv 3) (va_cons (vv 4) (va_cons (vv 5) (va_cons (vv 6) (va_cons (vv 7) (va_cons (ve_tup (va_cons ve_str (va_cons ve_str va_nil))) (va_cons (vv 9) (va_cons (vv 10) va_nil)))))))))) va_nil))) (va_cons (ve_tup (va_cons ve_str (va_cons (vv 1) va_nil))) va_nil))))))))))))))))))))))))))))
  (vss_one (vs_ret (ve_ix (vv 11) (ve_call D__law_draw (hr.mono (by decide)) (by rfl) (va_cons (vv 0) (va_cons (ve_callB vc_len (by rfl) T.b_len (by decide +kernel) (va_cons (vv 11) va_nil)) va_nil))))))))

theorem df__law_bent (T : Txt K mg a_is_named a_is_plain_segment a_is_segment) {S__law_draw : SpD} (D__law_draw : Df P w K mg base 1 "_law_draw" S__law_draw) {S : SpD} (len : ∀ xs M Q, S xs M Q → xs.length = 2) (hs : ∀ xs M Q, S xs M Q → t__law_bent S__law_draw { nx := fun _ M' => Q (.d .none) M', rt := Q } (startD 12 xs) M) : Df P w K mg base 2 "_law_bent" S :=
  T.f__law_bent.df sc__law_bent len (fun f cdv A outer s H E hr => w__law_bent T D__law_draw hr) hs

theorem sc__law_faults : FnScope N__law_faults P__law_faults (defScope s__law_faults) := ⟨rfl, rfl, rfl, by decide +kernel, rfl, by decide +kernel, by decide +kernel⟩
theorem w__law_faults (T : Txt K mg a_is_named a_is_plain_segment a_is_segment) {S_fault_routes S__law_policy S__law_pick S__law_draw S__law_bent : SpD} (D_fault_routes : Df P w K mg base 6 "fault_routes" S_fault_routes) (D__law_policy : Df P w K mg base 1 "_law_policy" S__law_policy) (D__law_pick : Df P w K mg base 2 "_law_pick" S__law_pick) (D__law_draw : Df P w K mg base 1 "_law_draw" S__law_draw) (D__law_bent : Df P w K mg base 2 "_law_bent" S__law_bent) {f : Addr} {cdv : Value} {A : Around} {outer : List Env} {s : Shared} {H : Hp} {E : XK} (hr : Room 6 (A.deeper (envOfC "_law_faults" (defScope s__law_faults) s.heap.objs.size f cdv))) :
    VSs (cxOf CX0 P w K mg base N__law_faults "_law_faults" (defScope s__law_faults) f cdv A outer s H E).nox (defBody s__law_faults) (t__law_faults S_fault_routes S__law_policy S__law_pick S__law_draw S__law_bent) :=
  (vss_cons (vs_if (vt_cmp vo_isnot (ve_call D_fault_routes (hr.mono (by decide)) (by rfl) (va_cons (ve_call D__law_policy (hr.mono (by decide)) (by rfl) (va_cons (ve_callTy vc_tuple (by rfl) T.b_tuple (by decide +kernel) (va_cons (vv 1) va_nil)) va_nil)) va_nil)) ve_non (nomark _)) (vss_one (vs_ret ve_bl)) vss_nil)
  (vss_cons (vs_set (i := 2) sc__law_faults.nd rfl (by first | exact Or.inl rfl | exact Or.inr rfl) (ve_tup (va_cons ve_str (va_cons (ve_tup (va_cons ve_str va_nil)) (va_cons (ve_tup (va_cons ve_str (va_cons ve_str va_nil))) (va_cons ve_str (va_cons ve_int (va_cons (ve_tup (va_cons ve_str va_nil)) (va_cons (ve_tup (va_cons ve_str va_nil)) (va_cons ve_int (va_cons ve_int va_nil)))))))))))
  (vss_cons (vs_asg (ve_call D__law_bent (hr.mono (by decide)) (by rfl) (va_cons (vv 0) (va_cons (vv 2) va_nil))) (vg_tup rfl (.cons (i := 3) sc__law_faults.nd rfl (by first | exact Or.inl rfl | exact Or.inr rfl) (by first | exact .inl rfl | exact .inr rfl) rfl (.cons (i := 4) sc__law_faults.nd rfl (by first | exact Or.inl rfl | exact Or.inr rfl) (by first | exact .inl rfl | exact .inr rfl) rfl .nil))))
  (vss_cons (vs_set (i := 5) sc__law_faults.nd rfl (by first | exact Or.inl rfl | exact Or.inr rfl) (ve_call D__law_draw (hr.mono (by decide)) (by rfl) (va_cons (vv 0) (va_cons (ve_op vo_add (ve_callB vc_len (by rfl) T.b_len (by decide +kernel) (va_cons (vv 1) va_nil)) ve_int) va_nil))))
  (vss_cons (vs_set (i := 6) sc__law_faults.nd rfl (by first | exact Or.inl rfl | exact Or.inr rfl) (ve_op vo_add (ve_op vo_add (ve_slice (vv 1) vp_none (vp_some (vv 5))) (ve_lst (va_cons (vv 4) va_nil))) (ve_slice (vv 1) (vp_some (vv 5)) vp_none)))
  (vss_cons (vs_if (vt_cmp (vo_eq hr.units) (vv 3) ve_str (nomark _)) (vss_cons (vs_set (i := 6) sc__law_faults.nd rfl (by first | exact Or.inl rfl | exact Or.inr rfl) (ve_op vo_add (ve_op vo_add (ve_op vo_add (ve_slice (vv 1) vp_none (vp_some (vv 5))) (ve_lst (va_cons (vv 2) va_nil))) (ve_slice (vv 1) (vp_some (vv 5)) vp_none)) (ve_lst (va_cons (ve_tup (va_cons ve_str (va_cons (ve_tup (va_cons ve_str va_nil)) (va_cons (ve_tup (va_cons ve_str (va_cons ve_str va_nil))) (va_cons ve_str (va_cons ve_int (va_cons (ve_tup va_nil) (va_cons (ve_tup va_nil) (va_cons ve_int (va_cons ve_int va_nil)))))))))) va_nil))))
  (vss_one (vs_set (i := 5) sc__law_faults.nd rfl (by first | exact Or.inl rfl | exact Or.inr rfl) (ve_op vo_sub (ve_callB vc_len (by rfl) T.b_len (by decide +kernel) (va_cons (vv 6) va_nil)) ve_int)))) vss_nil)
  (vss_cons (vs_if (vt_cmp (vo_ne hr.units) (ve_call D_fault_routes (hr.mono (by decide)) (by rfl) (va_cons (ve_call D__law_policy (hr.mono (by decide)) (by rfl) (va_cons (ve_callTy vc_tuple (by rfl) T.b_tuple (by decide +kernel) (va_cons (vv 6) va_nil)) va_nil)) va_nil)) (ve_tup (va_cons (vv 3) (va_cons (vv 5) va_nil))) (nomark _)) (vss_one (vs_ret ve_bl)) vss_nil)
  (vss_cons (vs_set (i := 7) sc__law_faults.nd rfl (by first | exact Or.inl rfl | exact Or.inr rfl) (ve_call D__law_pick (hr.mono (by decide)) (by rfl) (va_cons (vv 0) (va_cons (ve_lst (va_cons (ve_callTy vc_list (by rfl) T.b_list (by decide +kernel) (va_cons (vv 1) va_nil)) (va_cons ve_non (va_cons (ve_if (vt_cmp (vo_ne hr.units) (vv 1) (ve_lst va_nil) (nomark _)) (ve_callTy vc_tuple (by rfl) T.b_tuple (by decide +kernel) (va_cons (ve_op vo_mul (ve_slice (vv 1) vp_none (vp_some ve_int)) ve_int) va_nil)) ve_int) (va_cons ve_str va_nil))))) va_nil))))
  (vss_one (vs_ret (ve_cmp (vo_eq hr.units) (ve_call D_fault_routes (hr.mono (by decide)) (by rfl) (va_cons (ve_call D__law_policy (hr.mono (by decide)) (by rfl) (va_cons (vv 7) va_nil)) va_nil)) (ve_tup (va_cons ve_str (va_cons ve_non va_nil))) (nomark _))))))))))))

theorem df__law_faults (T : Txt K mg a_is_named a_is_plain_segment a_is_segment) {S_fault_routes S__law_policy S__law_pick S__law_draw S__law_bent : SpD} (D_fault_routes : Df P w K mg base 6 "fault_routes" S_fault_routes) (D__law_policy : Df P w K mg base 1 "_law_policy" S__law_policy) (D__law_pick : Df P w K mg base 2 "_law_pick" S__law_pick) (D__law_draw : Df P w K mg base 1 "_law_draw" S__law_draw) (D__law_bent : Df P w K mg base 2 "_law_bent" S__law_bent) {S : SpD} (len : ∀ xs M Q, S xs M Q → xs.length = 2) (hs : ∀ xs M Q, S xs M Q → t__law_faults S_fault_routes S__law_policy S__law_pick S__law_draw S__law_bent { nx := fun _ M' => Q (.d .none) M', rt := Q } (startD 8 xs) M) : Df P w K mg base 7 "_law_faults" S :=
  T.f__law_faults.df sc__law_faults len (fun f cdv A outer s H E hr => w__law_faults T D_fault_routes D__law_policy D__law_pick D__law_draw D__law_bent hr) hs

theorem sc__law_two_faults : FnScope N__law_two_faults P__law_two_faults (defScope s__law_two_faults) := ⟨rfl, rfl, rfl, by decide +kernel, rfl, by decide +kernel, by decide +kernel⟩
theorem w__law_two_faults (T : Txt K mg a_is_named a_is_plain_segment a_is_segment) {S_fault_routes S__law_policy S__law_draw : SpD} (D_fault_routes : Df P w K mg base 6 "fault_routes" S_fault_routes) (D__law_policy : Df P w K mg base 1 "_law_policy" S__law_policy) (D__law_draw : Df P w K mg base 1 "_law_draw" S__law_draw) {f : Addr} {cdv : Value} {A : Around} {outer : List Env} {s : Shared} {H : Hp} {E : XK} (hr : Room 6 (A.deeper (envOfC "_law_two_faults" (defScope s__law_two_faults) s.heap.objs.size f cdv))) :
    VSs (cxOf CX0 P w K mg base N__law_two_faults "_law_two_faults" (defScope s__law_two_faults) f cdv A outer s H E).nox (defBody s__law_two_faults) (t__law_two_faults S_fault_routes S__law_policy S__law_draw) :=
  (vss_cons (vs_set (i := 2) sc__law_two_faults.nd rfl (by first | exact Or.inl rfl | exact Or.inr rfl) (ve_tup (va_cons ve_str (va_cons (ve_tup (va_cons ve_str va_nil)) (va_cons (ve_tup (va_cons ve_str (va_cons ve_str va_nil))) (va_cons ve_str (va_cons ve_int (va_cons (ve_tup (va_cons ve_str va_nil)) (va_cons (ve_tup (va_cons ve_str va_nil)) (va_cons ve_int (va_cons ve_int va_nil)))))))))))
  (vss_cons (vs_set (i := 3) sc__law_two_faults.nd rfl (by first | exact Or.inl rfl | exact Or.inr rfl) (ve_lst (va_cons ve_str (va_cons ve_str (va_cons ve_str va_nil)))))
  (vss_cons (vs_set (i := 4) sc__law_two_faults.nd rfl (by first | exact Or.inl rfl | exact Or.inr rfl) (ve_lst (va_cons (ve_slice (vv 2) vp_none (vp_some ve_int)) (va_cons (ve_op vo_add (ve_op vo_add (ve_slice (vv 2) vp_none (vp_some ve_int)) (ve_tup (va_cons ve_str va_nil))) (ve_slice (vv 2) (vp_some ve_int) vp_none)) (va_cons (ve_op vo_add (ve_op vo_add (ve_slice (vv 2) vp_none (vp_some ve_int)) (ve_tup (va_cons (ve_tup (va_cons ve_str (va_cons ve_str va_nil))) va_nil))) (ve_slice (vv 2) (vp_some ve_int) vp_none)) va_nil)))))
  (vss_cons (vs_set (i := 5) sc__law_two_faults.nd rfl (by first | exact Or.inl rfl | exact Or.inr rfl) (ve_call D__law_draw (hr.mono (by decide)) (by rfl) (va_cons (vv 0) (va_cons ve_int va_nil))))
  (vss_cons (vs_set (i := 6) sc__law_two_faults.nd rfl (by first | exact Or.inl rfl | exact Or.inr rfl) (ve_op vo_mod (ve_callTy vc_int (by rfl) T.b_int (by decide +kernel) (va_cons (ve_op vo_add (ve_op vo_add (vv 5) ve_int) (ve_call D__law_draw (hr.mono (by decide)) (by rfl) (va_cons (vv 0) (va_cons ve_int va_nil)))) va_nil)) ve_int))
  (vss_cons (vs_set (i := 7) sc__law_two_faults.nd rfl (by first | exact Or.inl rfl | exact Or.inr rfl) (ve_call D__law_draw (hr.mono (by decide)) (by rfl) (va_cons (vv 0) (va_cons (ve_op vo_add (ve_callB vc_len (by rfl) T.b_len (by decide +kernel) (va_cons (vv 1) va_nil)) ve_int) va_nil))))
  (vss_cons (vs_set (i := 8) sc__law_two_faults.nd rfl (by first | exact Or.inl rfl | exact Or.inr rfl) (ve_op vo_add (ve_op vo_add (ve_op vo_add (ve_slice (vv 1) vp_none (vp_some (vv 7))) (ve_lst (va_cons (ve_ix (vv 4) (vv 5)) va_nil))) (ve_slice (vv 1) (vp_some (vv 7)) vp_none)) (ve_lst (va_cons (ve_ix (vv 4) (vv 6)) va_nil))))
  (vss_cons (vs_set (i := 9) sc__law_two_faults.nd rfl (by first | exact Or.inl rfl | exact Or.inr rfl) (ve_if (vt_cmp vo_lt (vv 5) (vv 6) (nomark _)) (ve_tup (va_cons (ve_ix (vv 3) (vv 5)) (va_cons (vv 7) va_nil))) (ve_tup (va_cons (ve_ix (vv 3) (vv 6)) (va_cons (ve_op vo_sub (ve_callB vc_len (by rfl) T.b_len (by decide +kernel) (va_cons (vv 8) va_nil)) ve_int) va_nil)))))
  (vss_cons (vs_if (vt_cmp (vo_ne hr.units) (ve_call D_fault_routes (hr.mono (by decide)) (by rfl) (va_cons (ve_call D__law_policy (hr.mono (by decide)) (by rfl) (va_cons (ve_callTy vc_tuple (by rfl) T.b_tuple (by decide +kernel) (va_cons (vv 8) va_nil)) va_nil)) va_nil)) (vv 9) (nomark _)) (vss_one (vs_ret ve_bl)) vss_nil)
  (vss_cons (vs_set (i := 10) sc__law_two_faults.nd rfl (by first | exact Or.inl rfl | exact Or.inr rfl) (ve_op vo_add (ve_op vo_add (ve_op vo_add (ve_slice (vv 1) vp_none (vp_some (vv 7))) (ve_lst (va_cons (vv 2) va_nil))) (ve_slice (vv 1) (vp_some (vv 7)) vp_none)) (ve_lst (va_cons (ve_tup (va_cons ve_str (va_cons (ve_tup (va_cons ve_str va_nil)) (va_cons (ve_tup (va_cons ve_str (va_cons ve_str va_nil))) (va_cons ve_str (va_cons ve_int (va_cons (ve_tup va_nil) (va_cons (ve_tup va_nil) (va_cons ve_int (va_cons ve_int va_nil)))))))))) (va_cons (ve_ix (vv 4) (vv 5)) va_nil)))))
  (vss_one (vs_ret (ve_cmp (vo_eq hr.units) (ve_call D_fault_routes (hr.mono (by decide)) (by rfl) (va_cons (ve_call D__law_policy (hr.mono (by decide)) (by rfl) (va_cons (ve_callTy vc_tuple (by rfl) T.b_tuple (by decide +kernel) (va_cons (vv 10) va_nil)) va_nil)) va_nil)) (ve_tup (va_cons (ve_ix (vv 3) (vv 5)) (va_cons (ve_op vo_sub (ve_callB vc_len (by rfl) T.b_len (by decide +kernel) (va_cons (vv 10) va_nil)) ve_int) va_nil))) (nomark _))))))))))))))

theorem df__law_two_faults (T : Txt K mg a_is_named a_is_plain_segment a_is_segment) {S_fault_routes S__law_policy S__law_draw : SpD} (D_fault_routes : Df P w K mg base 6 "fault_routes" S_fault_routes) (D__law_policy : Df P w K mg base 1 "_law_policy" S__law_policy) (D__law_draw : Df P w K mg base 1 "_law_draw" S__law_draw) {S : SpD} (len : ∀ xs M Q, S xs M Q → xs.length = 2) (hs : ∀ xs M Q, S xs M Q → t__law_two_faults S_fault_routes S__law_policy S__law_draw { nx := fun _ M' => Q (.d .none) M', rt := Q } (startD 11 xs) M) : Df P w K mg base 7 "_law_two_faults" S :=
  T.f__law_two_faults.df sc__law_two_faults len (fun f cdv A outer s H E hr => w__law_two_faults T D_fault_routes D__law_policy D__law_draw hr) hs

theorem sc__law_errors : FnScope N__law_errors P__law_errors (defScope s__law_errors) := ⟨rfl, rfl, rfl, by decide +kernel, rfl, by decide +kernel, by decide +kernel⟩
theorem w__law_errors (T : Txt K mg a_is_named a_is_plain_segment a_is_segment) {S_fault_errors S__law_draw S_error_row S__law_pick : SpD} (D_fault_errors : Df P w K mg base 4 "fault_errors" S_fault_errors) (D__law_draw : Df P w K mg base 1 "_law_draw" S__law_draw) (D_error_row : Df P w K mg base 1 "error_row" S_error_row) (D__law_pick : Df P w K mg base 2 "_law_pick" S__law_pick) {f : Addr} {cdv : Value} {A : Around} {outer : List Env} {s : Shared} {H : Hp} {E : XK} (hr : Room 4 (A.deeper (envOfC "_law_errors" (defScope s__law_errors) s.heap.objs.size f cdv))) :
    VSs (cxOf CX0 P w K mg base N__law_errors "_law_errors" (defScope s__law_errors) f cdv A outer s H E).nox (defBody s__law_errors) (t__law_errors S_fault_errors S__law_draw S_error_row S__law_pick) :=
  (vss_cons (vs_set (i := 1) sc__law_errors.nd rfl (by first | exact Or.inl rfl | exact Or.inr rfl) (ve_lst (va_cons ve_str (va_cons ve_str (va_cons ve_str (va_cons ve_str (va_cons ve_str (va_cons ve_str va_nil))))))))
  (vss_cons (vs_setLcM (i := 2) (own := [(("word" : Str), 3)]) rfl sc__law_errors.nd rfl rfl (sw_true rfl rfl rfl (by decide +kernel)) (by decide) (vi_seq (vv 1)) (blkOk_by (own := [(("word" : Str), 3)]) (N := N__law_errors) (sc := defScope s__law_errors) (by decide +kernel)) (fun _ _ _ _ _ => (vg_name (i := 3) sc__law_errors.nd rfl (by first | exact Or.inl rfl | exact Or.inr rfl))) (fun _ _ _ _ _ => vts_nil) (fun _ _ _ _ _ => (ve_tup (va_cons (vv 3) (va_cons (ve_op vo_add ve_int (ve_call D__law_draw (hr.mono (by decide)) (by rfl) (va_cons (vv 0) (va_cons ve_int va_nil)))) (va_cons (ve_op vo_mulS ve_str (ve_call D__law_pick (hr.mono (by decide)) (by rfl) (va_cons (vv 0) (va_cons (ve_lst (va_cons ve_int (va_cons ve_int (va_cons ve_int va_nil)))) va_nil)))) va_nil))))))
  (vss_cons (vs_if (vt_cmp vo_isnot (ve_call D_fault_errors (hr.mono (by decide)) (by rfl) (va_cons (ve_disp (pps_cons ve_str (ve_callTy vc_tuple (by rfl) T.b_tuple (by decide +kernel) (va_cons (vv 2) va_nil)) pps_nil) (by rfl) (by rfl) (fun z => by cases z) (by decide)) va_nil)) ve_non (nomark _)) (vss_one (vs_ret ve_bl)) vss_nil)
  (vss_cons (vs_set (i := 3) sc__law_errors.nd rfl (by first | exact Or.inl rfl | exact Or.inr rfl) (ve_call D__law_pick (hr.mono (by decide)) (by rfl) (va_cons (vv 0) (va_cons (vv 1) va_nil))))
  (vss_cons (vs_if (vt_cmp (vo_ne hr.units) (ve_call D_error_row (hr.mono (by decide)) (by rfl) (va_cons (ve_callTy vc_tuple (by rfl) T.b_tuple (by decide +kernel) (va_cons (vv 2) va_nil)) (va_cons (vv 3) va_nil))) (ve_slice (ve_ix (vv 2) (ve_bm PySem.F.plainAttrs_list PySem.F.slot_list_index PySem.F.type_list_index (vm_index (hu65 hr)) (vv 1) (va_cons (vv 3) va_nil))) (vp_some ve_int) vp_none) (nomark _)) (vss_one (vs_ret ve_bl)) vss_nil)
  (vss_cons (vs_set (i := 4) sc__law_errors.nd rfl (by first | exact Or.inl rfl | exact Or.inr rfl) (ve_call D__law_draw (hr.mono (by decide)) (by rfl) (va_cons (vv 0) (va_cons ve_int va_nil))))
  (vss_cons (vs_set (i := 5) sc__law_errors.nd rfl (by first | exact Or.inl rfl | exact Or.inr rfl) (ve_ix (vv 2) (vv 4)))
  (vss_cons (vs_set (i := 6) sc__law_errors.nd rfl (by first | exact Or.inl rfl | exact Or.inr rfl) (ve_lst (va_cons (ve_tup (va_cons (ve_ix (vv 5) ve_int) (va_cons ve_int (va_cons ve_str va_nil)))) (va_cons (ve_tup (va_cons (ve_ix (vv 5) ve_int) (va_cons ve_int (va_cons ve_str va_nil)))) (va_cons (ve_tup (va_cons (ve_ix (vv 5) ve_int) (va_cons ve_int (va_cons (ve_op vo_mulS ve_str ve_int) va_nil)))) (va_cons (ve_tup (va_cons (ve_ix (vv 5) ve_int) (va_cons ve_int (va_cons ve_str va_nil)))) (va_cons (ve_tup (va_cons ve_str (va_cons ve_int (va_cons ve_str va_nil)))) (va_cons (ve_slice (vv 5) vp_none (vp_some ve_int)) (va_cons (ve_callTy vc_list (by rfl) T.b_list (by decide +kernel) (va_cons (vv 5) va_nil)) (va_cons (ve_tup (va_cons (ve_ix (vv 5) ve_int) (va_cons ve_bl (va_cons ve_str va_nil)))) (va_cons ve_non va_nil)))))))))))
  (vss_cons (vs_sub (ve_ix (vv 6) (ve_call D__law_draw (hr.mono (by decide)) (by rfl) (va_cons (vv 0) (va_cons (ve_callB vc_len (by rfl) T.b_len (by decide +kernel) (va_cons (vv 6) va_nil)) va_nil)))) (vv 2) (vv 4))
  (vss_cons (vs_if (vt_cmp (vo_ne hr.units) (ve_call D_fault_errors (hr.mono (by decide)) (by rfl) (va_cons (ve_disp (pps_cons ve_str (ve_callTy vc_tuple (by rfl) T.b_tuple (by decide +kernel) (va_cons (vv 2) va_nil)) pps_nil) (by rfl) (by rfl) (fun z => by cases z) (by decide)) va_nil)) (ve_tup (va_cons ve_str (va_cons (vv 4) va_nil))) (nomark _)) (vss_one (vs_ret ve_bl)) vss_nil)
  (vss_one (vs_ret (ve_callB (vc_all rfl) (by rfl) T.b_all (by decide +kernel) (va_cons (ve_lc (own := [(("value" : Str), 7)]) rfl sc__law_errors.nd (by decide) (vi_seq (ve_tup (va_cons ve_non (va_cons (ve_tup va_nil) (va_cons (ve_callTy vc_tuple (by rfl) T.b_tuple (by decide +kernel) (va_cons (ve_slice (vv 2) vp_none (vp_some ve_int)) va_nil)) (va_cons (ve_callTy vc_list (by rfl) T.b_list (by decide +kernel) (va_cons (vv 2) va_nil)) (va_cons (ve_callTy vc_tuple (by rfl) T.b_tuple (by decide +kernel) (va_cons (ve_op vo_add (vv 2) (ve_slice (vv 2) vp_none (vp_some ve_int))) va_nil)) va_nil))))))) (blkOk_by (own := [(("value" : Str), 7)]) (N := N__law_errors) (sc := defScope s__law_errors) (by decide +kernel)) (fun _ _ _ _ _ => (vg_name (i := 7) sc__law_errors.nd rfl (by first | exact Or.inl rfl | exact Or.inr rfl))) (fun _ _ _ _ _ => vts_nil) (fun _ _ _ _ _ => (ve_cmp (vo_eq hr.units) (ve_call D_fault_errors (hr.mono (by decide)) (by rfl) (va_cons (ve_disp (pps_cons ve_str (vv 7) pps_nil) (by rfl) (by rfl) (fun z => by cases z) (by decide)) va_nil)) (ve_tup (va_cons ve_str (va_cons ve_non va_nil))) (nomark _)))) va_nil))))))))))))))

theorem df__law_errors (T : Txt K mg a_is_named a_is_plain_segment a_is_segment) {S_fault_errors S__law_draw S_error_row S__law_pick : SpD} (D_fault_errors : Df P w K mg base 4 "fault_errors" S_fault_errors) (D__law_draw : Df P w K mg base 1 "_law_draw" S__law_draw) (D_error_row : Df P w K mg base 1 "error_row" S_error_row) (D__law_pick : Df P w K mg base 2 "_law_pick" S__law_pick) {S : SpD} (len : ∀ xs M Q, S xs M Q → xs.length = 1) (hs : ∀ xs M Q, S xs M Q → t__law_errors S_fault_errors S__law_draw S_error_row S__law_pick { nx := fun _ M' => Q (.d .none) M', rt := Q } (startD 8 xs) M) : Df P w K mg base 5 "_law_errors" S :=
  T.f__law_errors.df sc__law_errors len (fun f cdv A outer s H E hr => w__law_errors T D_fault_errors D__law_draw D_error_row D__law_pick hr) hs

theorem sc_law : FnScope N_law P_law (defScope s_law) := ⟨rfl, rfl, rfl, by decide +kernel, rfl, by decide +kernel, by decide +kernel⟩
theorem w_law (T : Txt K mg a_is_named a_is_plain_segment a_is_segment) {S__law_faults S__law_two_faults S__law_errors S_fault_routes S__law_policy S_fits_route S_route_of S__law_due S__law_draw S__law_pick S__law_routes : SpD} (D__law_faults : Df P w K mg base 7 "_law_faults" S__law_faults) (D__law_two_faults : Df P w K mg base 7 "_law_two_faults" S__law_two_faults) (D__law_errors : Df P w K mg base 5 "_law_errors" S__law_errors) (D_fault_routes : Df P w K mg base 6 "fault_routes" S_fault_routes) (D__law_policy : Df P w K mg base 1 "_law_policy" S__law_policy) (D_fits_route : Df P w K mg base 1 "fits_route" S_fits_route) (D_route_of : Df P w K mg base 3 "route_of" S_route_of) (D__law_due : Df P w K mg base 1 "_law_due" S__law_due) (D__law_draw : Df P w K mg base 1 "_law_draw" S__law_draw) (D__law_pick : Df P w K mg base 2 "_law_pick" S__law_pick) (D__law_routes : Df P w K mg base 4 "_law_routes" S__law_routes) {f : Addr} {cdv : Value} {A : Around} {outer : List Env} {s : Shared} {H : Hp} {E : XK} (hr : Room 7 (A.deeper (envOfC "law" (defScope s_law) s.heap.objs.size f cdv))) :
    VSs (cxOf CX0 P w K mg base N_law "law" (defScope s_law) f cdv A outer s H E).nox (defBody s_law) (t_law S__law_faults S__law_two_faults S__law_errors S_fault_routes S__law_policy S_fits_route S_route_of S__law_due S__law_draw S__law_pick S__law_routes (Zs K)) :=
  (vss_cons (vs_set (i := 1) sc_law.nd rfl (by first | exact Or.inl rfl | exact Or.inr rfl) (ve_shut (φ := TapeP) (ve_lstM (va_cons ve_int (va_cons (ve_callTy vc_scr (by rfl) T.b_list (by decide +kernel) (va_cons (vv 0) va_nil)) (va_cons ve_int va_nil))))))
  (vss_cons (vs_set (i := 2) sc_law.nd rfl (by first | exact Or.inl rfl | exact Or.inr rfl) (ve_call D__law_routes (hr.mono (by decide)) (by rfl) (va_cons (vv 1) va_nil)))
  (vss_cons (vs_for PassesOwn.never rfl (vi_rg1 (by rfl) T.b_range (va_cons ve_int va_nil)) (vg_name (i := 3) sc_law.nd rfl (by first | exact Or.inl rfl | exact Or.inr rfl)) (vss_cons (vs_set (i := 4) sc_law.nd rfl (by first | exact Or.inl rfl | exact Or.inr rfl) (ve_call D__law_pick (hr.mono (by decide)) (by rfl) (va_cons (vv 1) (va_cons (ve_lst (va_cons ve_str (va_cons ve_str (va_cons ve_str (va_cons ve_str (va_cons ve_str va_nil)))))) va_nil))))
  (vss_cons (vs_set (i := 5) sc_law.nd rfl (by first | exact Or.inl rfl | exact Or.inr rfl) (ve_call D__law_pick (hr.mono (by decide)) (by rfl) (va_cons (vv 1) (va_cons (ve_lst (va_cons ve_str (va_cons ve_str (va_cons ve_str (va_cons ve_str (va_cons ve_str va_nil)))))) va_nil))))
  (vss_cons (vs_set (i := 6) sc_law.nd rfl (by first | exact Or.inl rfl | exact Or.inr rfl) (ve_callTy vc_tuple (by rfl) T.b_tuple (by decide +kernel) (va_cons (ve_lc (own := [(("k" : Str), 10)]) rfl sc_law.nd (by decide) (vi_rg1 (by rfl) T.b_range (va_cons (ve_call D__law_draw (hr.mono (by decide)) (by rfl) (va_cons (vv 1) (va_cons ve_int va_nil))) va_nil)) (blkOk_by (own := [(("k" : Str), 10)]) (N := N_law) (sc := defScope s_law) (by decide +kernel)) (fun _ _ _ _ _ => (vg_name (i := 10) sc_law.nd rfl (by first | exact Or.inl rfl | exact Or.inr rfl))) (fun _ _ _ _ _ => vts_nil) (fun _ _ _ _ _ => (ve_call D__law_pick (hr.mono (by decide)) (by rfl) (va_cons (vv 1) (va_cons (ve_lst (va_cons ve_str (va_cons ve_str (va_cons ve_str (va_cons ve_str va_nil))))) va_nil))))) va_nil)))
  (vss_cons (vs_if (vt_w (vw_and (vt_cmp (vo_ne hr.units) (vv 2) (ve_lst va_nil) (nomark _)) (vw_and1 (vt_cmp (vo_eq hr.units) (ve_call D__law_draw (hr.mono (by decide)) (by rfl) (va_cons (vv 1) (va_cons ve_int va_nil))) ve_int (nomark _))))) (vss_one (vs_set (i := 6) sc_law.nd rfl (by first | exact Or.inl rfl | exact Or.inr rfl) (ve_op vo_add (ve_ix (ve_call D__law_pick (hr.mono (by decide)) (by rfl) (va_cons (vv 1) (va_cons (vv 2) va_nil))) ve_int) (ve_slice (vv 6) vp_none (vp_some ve_int))))) vss_nil)
  (vss_cons (vs_if (vt_cmp (vo_ne hr.units) (ve_call D_route_of (hr.mono (by decide)) (by rfl) (va_cons (ve_callTy vc_tuple (by rfl) T.b_tuple (by decide +kernel) (va_cons (vv 2) va_nil)) (va_cons (vv 4) (va_cons (vv 5) (va_cons (vv 6) va_nil))))) (ve_call D__law_due (hr.mono (by decide)) (by rfl) (va_cons (vv 2) (va_cons (vv 4) (va_cons (vv 5) (va_cons (vv 6) va_nil))))) (nomark _)) (vss_one (vs_ret ve_bl)) vss_nil)
  (vss_one (vs_for PassesOwn.never rfl (vi_seq (vv 2)) (vg_name (i := 7) sc_law.nd rfl (by first | exact Or.inl rfl | exact Or.inr rfl)) (vss_cons (vs_set (i := 8) sc_law.nd rfl (by first | exact Or.inl rfl | exact Or.inr rfl) (ve_and (ve_cmp (vo_in (hu65 hr)) (ve_ix (vv 7) ve_int) (ve_tup (va_cons (vv 5) (va_cons ve_str va_nil))) (by rfl)) (ve_and (ve_cmp (vo_in (hu65 hr)) (vv 4) (ve_ix (vv 7) ve_int) (by rfl)) (ve_one (ve_cmp (vo_eq hr.units) (ve_slice (vv 6) vp_none (vp_some (ve_callB vc_len (by rfl) T.b_len (by decide +kernel) (va_cons (ve_ix (vv 7) ve_int) va_nil)))) (ve_ix (vv 7) ve_int) (nomark _))))))
  (vss_cons (vs_set (i := 9) sc_law.nd rfl (by first | exact Or.inl rfl | exact Or.inr rfl) (ve_call D_fits_route (hr.mono (by decide)) (by rfl) (va_cons (vv 7) (va_cons (vv 4) (va_cons (vv 5) (va_cons (vv 6) va_nil))))))
  (vss_one (vs_if (vt_w (vw_or (vt_not (vt_tru (ve_callB vc_isi (by rfl) T.b_isinstance (by decide +kernel) (va_cons (vv 9) (va_cons (ve_bltn (v := .ty "bool") (by rfl) T.b_bool (by decide +kernel) rfl) va_nil))))) (vw_or1 (vt_cmp (vo_ne hr.units) (vv 9) (vv 8) (nomark _))))) (vss_one (vs_ret ve_bl)) vss_nil))))))))))))
  (vss_cons (vs_if (vt_cmp vo_isnot (ve_call D_fault_routes (hr.mono (by decide)) (by rfl) (va_cons (ve_call D__law_policy (hr.mono (by decide)) (by rfl) (va_cons (ve_callTy vc_tuple (by rfl) T.b_tuple (by decide +kernel) (va_cons (vv 2) va_nil)) va_nil)) va_nil)) ve_non (nomark _)) (vss_one (vs_ret ve_bl)) vss_nil)
  (vss_cons (vs_set (i := 2) sc_law.nd rfl (by first | exact Or.inl rfl | exact Or.inr rfl) (ve_slice (vv 2) vp_none (vp_some ve_int)))
  (vss_one (vs_ret (ve_and (ve_call D__law_faults (hr.mono (by decide)) (by rfl) (va_cons (vv 1) (va_cons (vv 2) va_nil))) (ve_and (ve_call D__law_two_faults (hr.mono (by decide)) (by rfl) (va_cons (vv 1) (va_cons (vv 2) va_nil))) (ve_one (ve_call D__law_errors (hr.mono (by decide)) (by rfl) (va_cons (vv 1) va_nil))))))))))))

theorem df_law (T : Txt K mg a_is_named a_is_plain_segment a_is_segment) {S__law_faults S__law_two_faults S__law_errors S_fault_routes S__law_policy S_fits_route S_route_of S__law_due S__law_draw S__law_pick S__law_routes : SpD} (D__law_faults : Df P w K mg base 7 "_law_faults" S__law_faults) (D__law_two_faults : Df P w K mg base 7 "_law_two_faults" S__law_two_faults) (D__law_errors : Df P w K mg base 5 "_law_errors" S__law_errors) (D_fault_routes : Df P w K mg base 6 "fault_routes" S_fault_routes) (D__law_policy : Df P w K mg base 1 "_law_policy" S__law_policy) (D_fits_route : Df P w K mg base 1 "fits_route" S_fits_route) (D_route_of : Df P w K mg base 3 "route_of" S_route_of) (D__law_due : Df P w K mg base 1 "_law_due" S__law_due) (D__law_draw : Df P w K mg base 1 "_law_draw" S__law_draw) (D__law_pick : Df P w K mg base 2 "_law_pick" S__law_pick) (D__law_routes : Df P w K mg base 4 "_law_routes" S__law_routes) {S : SpD} (len : ∀ xs M Q, S xs M Q → xs.length = 1) (hs : ∀ xs M Q, S xs M Q → t_law S__law_faults S__law_two_faults S__law_errors S_fault_routes S__law_policy S_fits_route S_route_of S__law_due S__law_draw S__law_pick S__law_routes (Zs K) { nx := fun _ M' => Q (.d .none) M', rt := Q } (startD 11 xs) M) : Df P w K mg base 8 "law" S :=
  T.f_law.df sc_law len (fun f cdv A outer s H E hr => w_law T D__law_faults D__law_two_faults D__law_errors D_fault_routes D__law_policy D_fits_route D_route_of D__law_due D__law_draw D__law_pick D__law_routes hr) hs

end
end K47

end

section
set_option Elab.async false
set_option maxRecDepth 100000
set_option maxHeartbeats 4000000
set_option synthInstance.maxHeartbeats 4000000
set_option synthInstance.maxSize 100000
set_option linter.all false
/-! printed by wip/gen.py: the defs that only read, as functions -/
namespace K47
open PySem L2 VS

def g_is_number  : ES := qRet (qAndV (qCall (qIsiV) (qCons (qVar 0) (qCons (qW (.ty "int")) (qNil)))) (qNotV (qCall (qIsiV) (qCons (qVar 0) (qCons (qW (.ty "bool")) (qNil))))))
def e_is_number  : EC := runE (g_is_number) 1 1
theorem ss_is_number  : SS (t_is_number ) (g_is_number) := by
  unfold t_is_number g_is_number
  infer_instance

def g_is_signs  : ES := qRet (qAndV (qCall (qIsiV) (qCons (qVar 0) (qCons (qW (.ty "str")) (qNil)))) (qCall (q1 allE) (qCons (qLc (jSeq (qVar 0)) (.n 1) qYes (qOp (qInV) (qVar 1) (qC c_SIGNS)) [1]) (qNil))))
def e_is_signs  : EC := runE (g_is_signs) 2 1
theorem ss_is_signs  : SS (t_is_signs ) (g_is_signs) := by
  unfold t_is_signs g_is_signs
  infer_instance

def g_is_host  : ES := qSeq (qIfS (qOr (qNot (qTru (qCall (qIsiV) (qCons (qVar 0) (qCons (qW (.ty "str")) (qNil)))))) (qNot (qTest (qChain (qI2 fun i j => .bool (decide (i ≤ j))) (qI2 fun i j => .bool (decide (i ≤ j))) (qC (.int 1)) (qCall (q1 lenE) (qCons (qVar 0) (qNil))) (qC c_MOST_HOST))))) (qRet (qC (.bool false))) (qNext))
  (qRet (qCall (q1 allE) (qCons (qLc (jSeq (qVar 0)) (.n 1) qYes (qOp (qInV) (qVar 1) (qC c_HOST_SIGNS)) [1]) (qNil))))
def e_is_host  : EC := runE (g_is_host) 2 1
theorem ss_is_host  : SS (t_is_host ) (g_is_host) := by
  unfold t_is_host g_is_host
  infer_instance

def g_is_segment  : ES := qSeq (qIfS (qOr (qNot (qTru (qCall (e_is_signs) (qCons (qVar 0) (qNil))))) (qNot (qTest (qChain (qI2 fun i j => .bool (decide (i ≤ j))) (qI2 fun i j => .bool (decide (i ≤ j))) (qC (.int 1)) (qCall (q1 lenE) (qCons (qVar 0) (qNil))) (qC c_MOST_SEGMENT))))) (qRet (qC (.bool false))) (qNext))
  (qRet (qAndV (qOp (qNotInV) (qC (.str ("/" : Str))) (qVar 0)) (qAndV (qOp (qNotInV) (qC (.str ("\\" : Str))) (qVar 0)) (qOp (qNotInV) (qVar 0) (qTup (qCons (qC (.str ("." : Str))) (qCons (qC (.str (".." : Str))) (qNil))))))))
def e_is_segment  : EC := runE (g_is_segment) 1 1
theorem ss_is_segment  : SS (t_is_segment (SpE (e_is_signs))) (g_is_segment) := by
  unfold t_is_segment g_is_segment
  infer_instance

def g_is_plain_segment  : ES := qRet (qAndV (qCall (e_is_segment) (qCons (qVar 0) (qNil))) (qAndV (qOp (qI2 fun i j => .bool (decide (i ≤ j))) (qCall (q1 lenE) (qCons (qVar 0) (qNil))) (qC c_MOST_PLAIN)) (qCall (q1 allE) (qCons (qLc (jSeq (qVar 0)) (.n 1) qYes (qOp (qInV) (qVar 1) (qC c_PLAIN)) [1]) (qNil)))))
def e_is_plain_segment  : EC := runE (g_is_plain_segment) 2 1
theorem ss_is_plain_segment  : SS (t_is_plain_segment (SpE (e_is_segment))) (g_is_plain_segment) := by
  unfold t_is_plain_segment g_is_plain_segment
  infer_instance

def g_is_row_of (Fs : Addr → Option EC) : ES := qRet (qAndV (qCall (qIsiV) (qCons (qVar 0) (qCons (qW (.ty "tuple")) (qNil)))) (qAndV (qOp (qI2 fun i j => .bool (decide (i ≤ j))) (qCall (q1 lenE) (qCons (qVar 0) (qNil))) (qVar 1)) (qCall (q1 allE) (qCons (qLc (jSeq (qVar 0)) (.n 3) qYes (qCallA 2 Fs (qCons (qVar 3) (qNil))) [3]) (qNil)))))
def e_is_row_of (Fs : Addr → Option EC) : EC := runE (g_is_row_of Fs) 4 3
theorem ss_is_row_of (Fs : Addr → Option EC) : SS (t_is_row_of (SpT Fs)) (g_is_row_of Fs) := by
  unfold t_is_row_of g_is_row_of
  infer_instance

def g_is_within  : ES := qRet (qAndV (qCall (e_is_number) (qCons (qVar 0) (qNil))) (qChain (qI2 fun i j => .bool (decide (i ≤ j))) (qI2 fun i j => .bool (decide (i ≤ j))) (qVar 1) (qVar 0) (qVar 2)))
def e_is_within  : EC := runE (g_is_within) 3 3
theorem ss_is_within  : SS (t_is_within (SpE (e_is_number))) (g_is_within) := by
  unfold t_is_within g_is_within
  infer_instance

def g_is_methods  : ES := qSeq (qSet (qLc (jSeq (qC c_METHODS)) (.n 3) qYes (qOp qIx (qVar 3) (qC (.int 0))) [3]) 1)
  (qSeq (qIfS (qOr (qNot (qTru (qCall (qIsiV) (qCons (qVar 0) (qCons (qW (.ty "tuple")) (qNil)))))) (qTest (qOp (qEqV) (qCall (q1 lenE) (qCons (qVar 0) (qNil))) (qC (.int 0))))) (qRet (qC (.bool false))) (qNext))
  (qSeq (qIfS (qNot (qTru (qCall (q1 allE) (qCons (qLc (jSeq (qVar 0)) (.n 4) qYes (qAndV (qCall (qIsiV) (qCons (qVar 4) (qCons (qW (.ty "str")) (qNil)))) (qOp (qInV) (qVar 4) (qVar 1))) [4]) (qNil))))) (qRet (qC (.bool false))) (qNext))
  (qSeq (qSet (qLc (jSeq (qVar 0)) (.n 4) qYes (qMt "list" indexE (qVar 1) (qCons (qVar 4) (qNil))) [4]) 2)
  (qRet (qCall (q1 allE) (qCons (qLc (jRg (qCons (qC (.int 1)) (qCons (qCall (q1 lenE) (qCons (qVar 2) (qNil))) (qNil)))) (.n 5) qYes (qOp (qI2 fun i j => .bool (decide (i < j))) (qOp qIx (qVar 2) (qOp (qI2 fun i j => .int (i - j)) (qVar 5) (qC (.int 1)))) (qOp qIx (qVar 2) (qVar 5))) [5]) (qNil)))))))
def e_is_methods  : EC := runE (g_is_methods) 6 1
theorem ss_is_methods  : SS (t_is_methods ) (g_is_methods) := by
  unfold t_is_methods g_is_methods
  infer_instance

def g_is_named  : ES := qRet (qCall (qIsiV) (qCons (qVar 0) (qCons (qW (.ty "str")) (qNil))))
def e_is_named  : EC := runE (g_is_named) 1 1
theorem ss_is_named  : SS (t_is_named ) (g_is_named) := by
  unfold t_is_named g_is_named
  infer_instance

def g_is_route (Fs : Addr → Option EC) (a_is_named : Addr) (a_is_plain_segment : Addr) (a_is_segment : Addr) : ES := qSeq (qIfS (qOr (qNot (qTru (qCall (qIsiV) (qCons (qVar 0) (qCons (qW (.ty "tuple")) (qNil)))))) (qTest (qOp (qNeV) (qCall (q1 lenE) (qCons (qVar 0) (qNil))) (qC (.int 9))))) (qRet (qC (.bool false))) (qNext))
  (qSeq (qAsg (qVar 0) (.t [1, 2, 3, 4, 5, 6, 7, 8, 9]))
  (qSeq (qIfS (qOr (qAnd (qTest (qOp (qNeV) (qVar 1) (qC (.str ("*" : Str))))) (qNot (qTru (qCall (e_is_host) (qCons (qVar 1) (qNil)))))) (qOr (qNot (qTru (qCall (e_is_row_of Fs) (qCons (qVar 2) (qCons (qC c_MOST_PREFIX) (qCons (qW (.ref a_is_segment)) (qNil))))))) (qNot (qTru (qCall (e_is_methods) (qCons (qVar 3) (qNil))))))) (qRet (qC (.bool false))) (qNext))
  (qSeq (qIfS (qOr (qNot (qTru (qCall (e_is_named) (qCons (qVar 4) (qNil))))) (qOr (qNot (qTru (qCall (e_is_within) (qCons (qVar 5) (qCons (qC (.int 0)) (qCons (qCall (q1 lenE) (qCons (qVar 2) (qNil))) (qNil))))))) (qNot (qTru (qCall (e_is_row_of Fs) (qCons (qVar 6) (qCons (qC c_MOST_PUT) (qCons (qW (.ref a_is_plain_segment)) (qNil))))))))) (qRet (qC (.bool false))) (qNext))
  (qSeq (qIfS (qOr (qNot (qTru (qCall (e_is_row_of Fs) (qCons (qVar 7) (qCons (qC c_MOST_NAMES) (qCons (qW (.ref a_is_named)) (qNil))))))) (qTest (qOp (qNeV) (qLenSet (qVar 7)) (qCall (q1 lenE) (qCons (qVar 7) (qNil)))))) (qRet (qC (.bool false))) (qNext))
  (qRet (qAndV (qCall (e_is_within) (qCons (qVar 8) (qCons (qC (.int 1)) (qCons (qC c_MOST_WAIT) (qNil))))) (qCall (e_is_within) (qCons (qVar 9) (qCons (qC (.int 1)) (qCons (qC c_MOST_TRIES) (qNil)))))))))))
def e_is_route (Fs : Addr → Option EC) (a_is_named : Addr) (a_is_plain_segment : Addr) (a_is_segment : Addr) : EC := runE (g_is_route Fs a_is_named a_is_plain_segment a_is_segment) 10 1
theorem ss_is_route (Fs : Addr → Option EC) (a_is_named : Addr) (a_is_plain_segment : Addr) (a_is_segment : Addr) : SS (t_is_route (SpE (e_is_within)) (SpE (e_is_row_of Fs)) (SpE (e_is_named)) (SpE (e_is_host)) (SpE (e_is_methods)) a_is_named a_is_plain_segment a_is_segment) (g_is_route Fs a_is_named a_is_plain_segment a_is_segment) := by
  unfold t_is_route g_is_route
  infer_instance

def g_is_same  : ES := qRet (qAndV (qOp (qEqV) (qSl (qVar 0) qNoP (qPart (qC (.int 2)))) (qSl (qVar 1) qNoP (qPart (qC (.int 2))))) (qCall (q1 anyE) (qCons (qLc (jSeq (qOp qIx (qVar 0) (qC (.int 2)))) (.n 2) qYes (qOp (qInV) (qVar 2) (qOp qIx (qVar 1) (qC (.int 2)))) [2]) (qNil))))
def e_is_same  : EC := runE (g_is_same) 3 2
theorem ss_is_same  : SS (t_is_same ) (g_is_same) := by
  unfold t_is_same g_is_same
  infer_instance

def g_fault_of_route  : ES := qSeq (qSet (qOp qIx (qVar 0) (qVar 1)) 4)
  (qSeq (qIfS (qTest (qOp (qNotInV) (qOp qIx (qVar 4) (qC (.int 3))) (qVar 2))) (qRet (qC (.str ("no service" : Str)))) (qNext))
  (qSeq (qIfS (qNot (qTru (qCall (q1 allE) (qCons (qLc (jSeq (qOp qIx (qVar 4) (qC (.int 6)))) (.n 5) qYes (qOp (qInV) (qVar 5) (qVar 3)) [5]) (qNil))))) (qRet (qC (.str ("no limit" : Str)))) (qNext))
  (qRet (qIf (qTru (qCall (q1 anyE) (qCons (qLc (jSeq (qSl (qVar 0) qNoP (qPart (qVar 1)))) (.n 6) qYes (qCall (e_is_same) (qCons (qVar 4) (qCons (qVar 6) (qNil)))) [6]) (qNil)))) (qC (.str ("same route" : Str))) (qC (.str ("" : Str)))))))
def e_fault_of_route  : EC := runE (g_fault_of_route) 7 4
theorem ss_fault_of_route  : SS (t_fault_of_route (SpE (e_is_same))) (g_fault_of_route) := by
  unfold t_fault_of_route g_fault_of_route
  infer_instance

def g_fault_routes (Fs : Addr → Option EC) (a_is_named : Addr) (a_is_plain_segment : Addr) (a_is_segment : Addr) : ES := qSeq (qSet (qOp qDGet (qVar 0) (qC (.str ("routes" : Str)))) 1)
  (qSeq (qIfS (qOr (qNot (qTru (qCall (qIsiV) (qCons (qVar 1) (qCons (qW (.ty "tuple")) (qNil)))))) (qTest (qOp (qI2 fun i j => .bool (decide (j < i))) (qCall (q1 lenE) (qCons (qVar 1) (qNil))) (qC c_MOST_ROUTES)))) (qRet (qTup (qCons (qC (.str ("route" : Str))) (qCons (qC .none) (qNil))))) (qNext))
  (qSeq (qFor (jRg (qCons (qCall (q1 lenE) (qCons (qVar 1) (qNil))) (qNil))) (.n 2) (qIfS (qNot (qTru (qCall (e_is_route Fs a_is_named a_is_plain_segment a_is_segment) (qCons (qOp qIx (qVar 1) (qVar 2)) (qNil))))) (qRet (qTup (qCons (qC (.str ("route" : Str))) (qCons (qVar 2) (qNil))))) (qNext)))
  (qSeq (qSet (qLc (jSeq (qOp qDGet (qVar 0) (qC (.str ("services" : Str))))) (.n 7) qYes (qOp qIx (qVar 7) (qC (.int 0))) [7]) 3)
  (qSeq (qSet (qLc (jSeq (qOp qDGet (qVar 0) (qC (.str ("limits" : Str))))) (.n 7) qYes (qOp qIx (qVar 7) (qC (.int 0))) [7]) 4)
  (qSeq (qSet (qLc (jRg (qCons (qCall (q1 lenE) (qCons (qVar 1) (qNil))) (qNil))) (.n 2) qYes (qCall (e_fault_of_route) (qCons (qVar 1) (qCons (qVar 2) (qCons (qVar 3) (qCons (qVar 4) (qNil)))))) [2]) 5)
  (qSeq (qFor (jSeq (qTup (qCons (qC (.str ("no service" : Str))) (qCons (qC (.str ("no limit" : Str))) (qCons (qC (.str ("same route" : Str))) (qNil)))))) (.n 6) (qIfS (qTest (qOp (qInV) (qVar 6) (qVar 5))) (qRet (qTup (qCons (qVar 6) (qCons (qMt "list" indexE (qVar 5) (qCons (qVar 6) (qNil))) (qNil))))) (qNext)))
  (qRet (qC .none))))))))
def e_fault_routes (Fs : Addr → Option EC) (a_is_named : Addr) (a_is_plain_segment : Addr) (a_is_segment : Addr) : EC := runE (g_fault_routes Fs a_is_named a_is_plain_segment a_is_segment) 8 1
theorem ss_fault_routes (Fs : Addr → Option EC) (a_is_named : Addr) (a_is_plain_segment : Addr) (a_is_segment : Addr) : SS (t_fault_routes (SpE (e_fault_of_route)) (SpE (e_is_route Fs a_is_named a_is_plain_segment a_is_segment))) (g_fault_routes Fs a_is_named a_is_plain_segment a_is_segment) := by
  unfold t_fault_routes g_fault_routes
  infer_instance

def g_is_error  : ES := qSeq (qIfS (qOr (qNot (qTru (qCall (qIsiV) (qCons (qVar 0) (qCons (qW (.ty "tuple")) (qNil)))))) (qOr (qTest (qOp (qNeV) (qCall (q1 lenE) (qCons (qVar 0) (qNil))) (qC (.int 3)))) (qOr (qTest (qOp (qNeV) (qOp qIx (qVar 0) (qC (.int 0))) (qVar 1))) (qNot (qTru (qCall (e_is_within) (qCons (qOp qIx (qVar 0) (qC (.int 1))) (qCons (qC (.int 400)) (qCons (qC (.int 599)) (qNil)))))))))) (qRet (qC (.bool false))) (qNext))
  (qRet (qAndV (qCall (e_is_signs) (qCons (qOp qIx (qVar 0) (qC (.int 2))) (qNil))) (qOp (qI2 fun i j => .bool (decide (i ≤ j))) (qCall (q1 lenE) (qCons (qOp qIx (qVar 0) (qC (.int 2))) (qNil))) (qC c_MOST_TEXT))))
def e_is_error  : EC := runE (g_is_error) 2 2
theorem ss_is_error  : SS (t_is_error (SpE (e_is_signs)) (SpE (e_is_within))) (g_is_error) := by
  unfold t_is_error g_is_error
  infer_instance

def g_fault_errors  : ES := qSeq (qSet (qOp qDGet (qVar 0) (qC (.str ("errors" : Str)))) 1)
  (qSeq (qIfS (qOr (qNot (qTru (qCall (qIsiV) (qCons (qVar 1) (qCons (qW (.ty "tuple")) (qNil)))))) (qTest (qOp (qNeV) (qCall (q1 lenE) (qCons (qVar 1) (qNil))) (qCall (q1 lenE) (qCons (qC c_ERROR_WORDS) (qNil)))))) (qRet (qTup (qCons (qC (.str ("error" : Str))) (qCons (qC .none) (qNil))))) (qNext))
  (qSeq (qFor (jRg (qCons (qCall (q1 lenE) (qCons (qVar 1) (qNil))) (qNil))) (.n 2) (qIfS (qNot (qTru (qCall (e_is_error) (qCons (qOp qIx (qVar 1) (qVar 2)) (qCons (qOp qIx (qC c_ERROR_WORDS) (qVar 2)) (qNil)))))) (qRet (qTup (qCons (qC (.str ("error" : Str))) (qCons (qVar 2) (qNil))))) (qNext)))
  (qRet (qC .none))))
def e_fault_errors  : EC := runE (g_fault_errors) 3 1
theorem ss_fault_errors  : SS (t_fault_errors (SpE (e_is_error))) (g_fault_errors) := by
  unfold t_fault_errors g_fault_errors
  infer_instance

def g_error_row  : ES := qRet (qSl (qOp qIx (qVar 0) (qCIdx w_ERROR_WORDS (qVar 1))) (qPart (qC (.int 1))) qNoP)
def e_error_row  : EC := runE (g_error_row) 2 2
theorem ss_error_row  : SS (t_error_row ) (g_error_row) := by
  unfold t_error_row g_error_row
  infer_instance

def g_fits_route  : ES := qRet (qAndV (qOp (qInV) (qOp qIx (qVar 0) (qC (.int 0))) (qTup (qCons (qVar 2) (qCons (qC (.str ("*" : Str))) (qNil))))) (qAndV (qOp (qInV) (qVar 1) (qOp qIx (qVar 0) (qC (.int 2)))) (qOp (qEqV) (qCall (q1 tupE) (qCons (qSl (qVar 3) qNoP (qPart (qCall (q1 lenE) (qCons (qOp qIx (qVar 0) (qC (.int 1))) (qNil))))) (qNil))) (qOp qIx (qVar 0) (qC (.int 1))))))
def e_fits_route  : EC := runE (g_fits_route) 4 4
theorem ss_fits_route  : SS (t_fits_route ) (g_fits_route) := by
  unfold t_fits_route g_fits_route
  infer_instance

def g_longest  : ES := qSeq (qSet (qC .none) 4)
  (qSeq (qFor (jRg (qCons (qCall (q1 lenE) (qCons (qVar 0) (qNil))) (qNil))) (.n 5) (qSeq (qSet (qOp qIx (qVar 0) (qVar 5)) 6)
  (qIfS (qAnd (qTest (qOp (qEqV) (qOp qIx (qVar 6) (qC (.int 0))) (qVar 2))) (qTru (qCall (e_fits_route) (qCons (qVar 6) (qCons (qVar 1) (qCons (qVar 2) (qCons (qVar 3) (qNil)))))))) (qIfS (qOr (qTest (qOp (qIsV) (qVar 4) (qC .none))) (qTest (qOp (qI2 fun i j => .bool (decide (j < i))) (qCall (q1 lenE) (qCons (qOp qIx (qVar 6) (qC (.int 1))) (qNil))) (qCall (q1 lenE) (qCons (qOp qIx (qOp qIx (qVar 0) (qVar 4)) (qC (.int 1))) (qNil)))))) (qSet (qVar 5) 4) (qNext)) (qNext))))
  (qRet (qVar 4)))
def e_longest  : EC := runE (g_longest) 7 4
theorem ss_longest  : SS (t_longest (SpE (e_fits_route))) (g_longest) := by
  unfold t_longest g_longest
  infer_instance

def g_route_of  : ES := qSeq (qSet (qCall (e_longest) (qCons (qVar 0) (qCons (qVar 1) (qCons (qVar 2) (qCons (qVar 3) (qNil)))))) 4)
  (qRet (qIf (qTest (qOp (qIsV) (qVar 4) (qC .none))) (qCall (e_longest) (qCons (qVar 0) (qCons (qVar 1) (qCons (qC (.str ("*" : Str))) (qCons (qVar 3) (qNil)))))) (qVar 4)))
def e_route_of  : EC := runE (g_route_of) 5 4
theorem ss_route_of  : SS (t_route_of (SpE (e_longest))) (g_route_of) := by
  unfold t_route_of g_route_of
  infer_instance

def g__law_same  : ES := qRet (qAndV (qOp (qEqV) (qOp qIx (qVar 0) (qC (.int 0))) (qOp qIx (qVar 1) (qC (.int 0)))) (qAndV (qOp (qEqV) (qOp qIx (qVar 0) (qC (.int 1))) (qOp qIx (qVar 1) (qC (.int 1)))) (qOp (qNeV) (qLc (jSeq (qOp qIx (qVar 0) (qC (.int 2)))) (.n 2) (qTest (qOp (qInV) (qVar 2) (qOp qIx (qVar 1) (qC (.int 2))))) (qVar 2) [2]) (qLst (qNil)))))
def e__law_same  : EC := runE (g__law_same) 3 2
theorem ss__law_same  : SS (t__law_same ) (g__law_same) := by
  unfold t__law_same g__law_same
  infer_instance

def g__law_due  : ES := qSeq (qFor (jSeq (qTup (qCons (qVar 2) (qCons (qC (.str ("*" : Str))) (qNil))))) (.n 4) (qSeq (qSet (qC .none) 5)
  (qSeq (qFor (jRg (qCons (qCall (q1 lenE) (qCons (qVar 0) (qNil))) (qNil))) (.n 6) (qSeq (qSet (qOp qIx (qVar 0) (qVar 6)) 7)
  (qIfS (qAnd (qTest (qOp (qEqV) (qOp qIx (qVar 7) (qC (.int 0))) (qVar 4))) (qAnd (qTest (qOp (qInV) (qVar 1) (qOp qIx (qVar 7) (qC (.int 2))))) (qTest (qOp (qEqV) (qCall (q1 listE) (qCons (qOp qIx (qVar 7) (qC (.int 1))) (qNil))) (qSl (qCall (q1 listE) (qCons (qVar 3) (qNil))) qNoP (qPart (qCall (q1 lenE) (qCons (qOp qIx (qVar 7) (qC (.int 1))) (qNil))))))))) (qIfS (qOr (qTest (qOp (qIsV) (qVar 5) (qC .none))) (qTest (qOp (qI2 fun i j => .bool (decide (j < i))) (qCall (q1 lenE) (qCons (qOp qIx (qVar 7) (qC (.int 1))) (qNil))) (qCall (q1 lenE) (qCons (qOp qIx (qOp qIx (qVar 0) (qVar 5)) (qC (.int 1))) (qNil)))))) (qSet (qVar 6) 5) (qNext)) (qNext))))
  (qIfS (qTest (qOp (qNotIsV) (qVar 5) (qC .none))) (qRet (qVar 5)) (qNext)))))
  (qRet (qC .none))
def e__law_due  : EC := runE (g__law_due) 8 4
theorem ss__law_due  : SS (t__law_due ) (g__law_due) := by
  unfold t__law_due g__law_due
  infer_instance

def g__law_policy  : ES := qSeq (qSet (qTup (qCons (qTup (qCons (qC (.str ("s" : Str))) (qCons (qC (.int 167772161)) (qCons (qC (.int 80)) (qCons (qC (.int 1)) (qCons (qC (.str ("up" : Str))) (qNil))))))) (qNil))) 1)
  (qSeq (qSet (qTup (qCons (qTup (qCons (qC (.str ("few" : Str))) (qCons (qC (.str ("open" : Str))) (qCons (qTup (qCons (qC (.int 3)) (qNil))) (qCons (qTup (qNil)) (qNil)))))) (qCons (qTup (qCons (qC (.str ("slow" : Str))) (qCons (qC (.str ("bucket" : Str))) (qCons (qTup (qCons (qC (.int 1)) (qCons (qC (.int 1)) (qCons (qC (.int 5)) (qNil))))) (qCons (qTup (qCons (qC (.str ("outside" : Str))) (qNil))) (qNil)))))) (qCons (qTup (qCons (qC (.str ("mid" : Str))) (qCons (qC (.str ("open" : Str))) (qCons (qTup (qCons (qC (.int 2)) (qNil))) (qCons (qTup (qNil)) (qNil)))))) (qCons (qTup (qCons (qC (.str ("big" : Str))) (qCons (qC (.str ("open" : Str))) (qCons (qTup (qCons (qC (.int 9)) (qNil))) (qCons (qTup (qNil)) (qNil)))))) (qNil)))))) 2)
  (qRet (qDisp [(qC (.str ("services" : Str)), qTup (qCons (qTup (qCons (qC (.str ("web" : Str))) (qCons (qVar 1) (qCons (qC (.str ("turns" : Str))) (qCons (qC .none) (qNil)))))) (qCons (qTup (qCons (qC (.str ("files" : Str))) (qCons (qVar 1) (qCons (qC (.str ("least" : Str))) (qCons (qC .none) (qNil)))))) (qNil)))), (qC (.str ("limits" : Str)), qVar 2), (qC (.str ("routes" : Str)), qVar 0)])))
def e__law_policy  : EC := runE (g__law_policy) 3 1
theorem ss__law_policy  : SS (t__law_policy ) (g__law_policy) := by
  unfold t__law_policy g__law_policy
  infer_instance

end K47

end

section
set_option Elab.async false
set_option linter.all false
set_option maxRecDepth 100000
set_option maxHeartbeats 4000000
open VS
local macro_rules | `(tactic| walk_at "ev") => `(tactic| simp only [start_1, start_2, start_3, start_4, start_5, startD, List.map_cons, List.map_nil, List.length_cons, List.length_nil, List.replicate, List.cons_append, List.nil_append, Nat.reduceAdd, Nat.reduceSub, dSet, dOp, dVar, dC, dW, gotV, slot, setS, dRet, dRetN, dDrop, dNext, dCall, dCons, dNil, d1, dTest, dTru, truOf, dAnd, dOr, dNot, dAndV, dOrV, dNotV, dIf, dChain, dTup, dLst, oAll, dAll, oSome, rEqV, rNeV, oEq, peek, rIsV, rNotIsV, isNone, rI2, rII, rAddV, rMulV, rMulS, rIsiV, tyOf, gLen, lenOf, gInt, gAbs, gTuple, gList, seqD, seqOf, lsD, gIx, updM_same, updM_updM, isB_int_int, isB_bool_int, isB_str_int, isB_none_int, isB_list_int, isB_tuple_int, isB_dict_int, isB_int_bool, isB_bool_bool, isB_str_bool, isB_none_bool, isB_list_bool, isB_tuple_bool, isB_dict_bool, isB_int_str, isB_bool_str, isB_str_str, isB_none_str, isB_list_str, isB_tuple_str, isB_dict_str, isB_int_tuple, isB_bool_tuple, isB_str_tuple, isB_none_tuple, isB_list_tuple, isB_tuple_tuple, isB_dict_tuple, isB_int_list, isB_bool_list, isB_str_list, isB_none_list, isB_list_list, isB_tuple_list, isB_dict_list, tyOk_int, tyOk_bool, tyOk_str, tyOk_tuple, tyOk_list, tyOk_dict, Bool.not_true, Bool.not_false, if_true, if_false, ite_true, ite_false, Bool.false_eq_true, true_and, and_true, decide_eq_true_eq, Bool.true_eq_false, dAll_of_map, Bool.not_eq_true', decide_eq_false_iff_not, reduceIte, pu1_iff, pu2_iff, pr1_iff, pr2_iff, pr3_iff, pr4_iff, rInV, rNotInV, in_strL, in_strT, in_str2, in_str0, eqOk_int, eqOk_str, eqOk_bool, eqOk_none, eqv_ii, eqv_ss, eqv_bb, str_beq, int_beq, dAsg, bindP, bindNs, lstAt, List.length_map])
local macro_rules | `(tactic| walk_at "lf") => `(tactic| (intro K hK; walk_at "ev"; exact hK))
local macro_rules | `(tactic| walk_at "pt") => `(tactic| first
  | (with_reducible refine or_p ?_ ?_) <;> walk_at "pt"
  | (with_reducible refine and_p ?_ ?_) <;> walk_at "pt"
  | (with_reducible refine not_p ?_) <;> walk_at "pt"
  | walk_at "lf")
local macro_rules | `(tactic| walk_at "q") => `(tactic| simp only [runE, endV, start_1, start_2, start_3, start_4, start_5, startD, List.map_cons, List.map_nil, List.length_cons, List.length_nil, List.replicate, List.cons_append, List.nil_append, Nat.reduceAdd, Nat.reduceSub, Nat.reduceEqDiff, qVar, qC, qW, qOp, qTest, qTru, truOf, qAnd, qOr, qNot, qAndV, qOrV, qNotV, qIf, qChain, qNeg, qNil, qCons, qTup, qLst, qCall, q1, lenE, lenOf, absE, intE, tupE, listE, qIsiV, tyOf, qEqV, qNeV, eqE_ss, eqE_ii, qIsV, qNotIsV, isNone, qI2, qII, qInV, qNotInV, inE_strs, inE_strT, qIx, ixE, qDGet, qAddV, qMulV, qMulS, qNoP, qPart, qSl, slE, qYes, qNext, qSeq, qBreak, qCont, qDrop, qRet, qRetN, qIfS, qAsg, qSet, qAug, slot, setS, bindP, bindNs, asB, asI, asD, seqD, seqOf, lsD, dAll, dAll_of_map, Option.bind_some, Option.bind_none, Option.map_some, Option.map_none, isB_int_int, isB_bool_int, isB_str_int, isB_none_int, isB_list_int, isB_tuple_int, isB_dict_int, isB_int_bool, isB_bool_bool, isB_str_bool, isB_none_bool, isB_list_bool, isB_tuple_bool, isB_dict_bool, isB_int_str, isB_bool_str, isB_str_str, isB_none_str, isB_list_str, isB_tuple_str, isB_dict_str, isB_int_tuple, isB_bool_tuple, isB_str_tuple, isB_none_tuple, isB_list_tuple, isB_tuple_tuple, isB_dict_tuple, isB_int_list, isB_bool_list, isB_str_list, isB_none_list, isB_list_list, isB_tuple_list, isB_dict_list, tyOk_int, tyOk_bool, tyOk_str, tyOk_tuple, tyOk_list, tyOk_dict, Bool.not_true, Bool.not_false, if_true, if_false, ite_true, ite_false, Bool.false_eq_true, true_and, and_true, Bool.true_eq_false, reduceIte, Bool.and_true, Bool.true_and, Bool.and_false, Bool.false_and, decide_true, decide_false, Int.reduceLE, Int.reduceLT, Int.reduceEq, Int.reduceAdd, Int.reduceSub, Int.reduceNeg, Int.cast_ofNat_Int, List.length_map])
namespace K47
open PySem L2 VS

structure R where
  host : Str
  pre : List Str
  ms : List Str
  svc : Str
  tk : Int
  put : List Str
  lims : List Str
  wt : Int
  tr : Int
def txs (zs : List Str) : PyData := .tuple (zs.map .str)
def toD (r : R) : PyData := .tuple [.str r.host, txs r.pre, txs r.ms, .str r.svc, .int r.tk, txs r.put, txs r.lims, .int r.wt, .int r.tr]
def subsOf : List Str → List (List Str)
  | [] => [[]]
  | x :: r => subsOf r ++ (subsOf r).map (x :: ·)
def MS : List (List Str) := (subsOf ["GET", "HEAD", "PUT", "POST", "DELETE"]).filter fun z => !z.isEmpty
def LS : List (List Str) := [[], ["few"], ["few", "slow"], ["few", "slow", "mid"], ["few", "slow", "mid", "big"], ["few", "many"]]
structure Ok (r : R) : Prop where
  host : r.host ∈ (["*", "a", "b", "a.b"] : List Str)
  pre : ∀ z ∈ r.pre, z ∈ (["x", "y", "x y", "z"] : List Str)
  preL : r.pre.length ≤ 8
  ms : r.ms ∈ MS
  tk0 : 0 ≤ r.tk
  tk1 : r.tk ≤ (r.pre.length : Int)
  put : ∀ z ∈ r.put, z ∈ (["p", "q.r"] : List Str)
  putL : r.put.length ≤ 4
  lims : r.lims ∈ LS
  wt0 : 1 ≤ r.wt
  wt1 : r.wt ≤ 1000
  tr0 : 1 ≤ r.tr
  tr1 : r.tr ≤ 3
/-- what the three names that is_row_of is handed hold -/
structure FeOk (Fe : Addr → Option EC) (a b c : Addr) : Prop where
  named : Fe a = some e_is_named
  plain : Fe b = some e_is_plain_segment
  seg : Fe c = some e_is_segment
theorem e_row {Fe : Addr → Option EC} {a : Addr} {e : EC} {zs : List Str} {m : Int} (h : Fe a = some e) (hz : ∀ z ∈ zs, e [.d (.str z)] = BB true) : e_is_row_of Fe [.d (txs zs), .d (.int m), .w (.ref a)] = BB (decide ((zs.length : Int) ≤ m)) := by
  have k := qAll_map (wi := jSeq (qVar 0)) (p := .n 3) (te := qCallA 2 Fe (qCons (qVar 3) qNil)) (vs := [3]) (τ := [some (.d (txs zs)), some (.d (.int m)), some (.w (.ref a)), none]) (fun _ => true) (zs.map .str) rfl fun x hx => by
    obtain ⟨z, hz', rfl⟩ := List.mem_map.mp hx
    refine ⟨_, rfl, ?_⟩
    show (Fe a).bind _ = _
    rw [h]
    exact hz z hz'
  unfold e_is_row_of g_is_row_of
  refine run_rt rfl (ret_rt ?_)
  have e1 : (zs.map PyData.str).all (fun _ => true) = true := by simp
  rw [e1] at k
  unfold txs at k ⊢
  walk_at "q"
  by_cases hm : (zs.length : Int) ≤ m
  · rw [decide_eq_true hm, if_pos rfl]
    exact k
  · rw [decide_eq_false hm]; rfl
theorem e_within (i lo hi : Int) : e_is_within [.d (.int i), .d (.int lo), .d (.int hi)] = BB (decide (lo ≤ i) && decide (i ≤ hi)) := by
  unfold e_is_within g_is_within
  have h : e_is_number [.d (.int i)] = BB true := by unfold e_is_number g_is_number; walk_at "q"
  walk_at "q"
  rw [h]
  walk_at "q"
  by_cases hm : lo ≤ i
  · rw [decide_eq_true hm]; rfl
  · rw [decide_eq_false hm]; rfl
theorem host_ok {h : Str} (hh : h ∈ (["*", "a", "b", "a.b"] : List Str)) (n : h ≠ "*") : e_is_host [.d (.str h)] = BB true := by
  simp only [List.mem_cons, List.not_mem_nil, or_false] at hh
  rcases hh with rfl | rfl | rfl | rfl
  · exact (n rfl).elim
  · exact isV_eq (by decide +kernel)
  · exact isV_eq (by decide +kernel)
  · exact isV_eq (by decide +kernel)
theorem seg_ok {h : Str} (hh : h ∈ (["x", "y", "x y", "z"] : List Str)) : e_is_segment [.d (.str h)] = BB true := by
  simp only [List.mem_cons, List.not_mem_nil, or_false] at hh
  rcases hh with rfl | rfl | rfl | rfl <;> exact isV_eq (by decide +kernel)
theorem plain_ok {h : Str} (hh : h ∈ (["p", "q.r"] : List Str)) : e_is_plain_segment [.d (.str h)] = BB true := by
  simp only [List.mem_cons, List.not_mem_nil, or_false] at hh
  rcases hh with rfl | rfl <;> exact isV_eq (by decide +kernel)
theorem named_ok (h : Str) : e_is_named [.d (.str h)] = BB true := by
  unfold e_is_named g_is_named; walk_at "q"
def msAll : Bool := MS.all fun ms => isV (e_is_methods [.d (txs ms)]) (.bool true)
theorem msAll_t : msAll = true := by decide +kernel
theorem ms_ok {ms : List Str} (h : ms ∈ MS) : e_is_methods [.d (txs ms)] = BB true := isV_eq (List.all_eq_true.mp msAll_t ms h)
theorem ls_ok {ls : List Str} (h : ls ∈ LS) : ls.length ≤ 4 ∧ dct ls = ls.length := by
  have : (LS.all fun ls => decide (ls.length ≤ 4 ∧ dct ls = ls.length)) = true := by decide +kernel
  exact of_decide_eq_true (List.all_eq_true.mp this ls h)
variable {Fe : Addr → Option EC} {a b c : Addr}
theorem route_ok (H : FeOk Fe a b c) {r : R} (h : Ok r) : e_is_route Fe a b c [.d (toD r)] = BB true := by
  obtain ⟨host, pre, ms, svc, tk, put, lims, wt, tr⟩ := r
  have h1 := e_row (m := 8) H.seg (zs := pre) fun z hz => seg_ok (h.pre z hz)
  have h2 := ms_ok h.ms
  have h3 := named_ok svc
  have h4 := e_within tk 0 (pre.length : Int)
  have h5 := e_row (m := 4) H.plain (zs := put) fun z hz => plain_ok (h.put z hz)
  have h6 := e_row (m := 4) H.named (zs := lims) fun z hz => named_ok z
  have h7 := e_within wt 1 1000
  have h8 := e_within tr 1 3
  obtain ⟨l1, l2⟩ := ls_ok h.lims
  have hpL := h.preL
  have hput := h.putL
  have tk0 := h.tk0
  have tk1 := h.tk1
  have wt0 := h.wt0
  have wt1 := h.wt1
  have tr0 := h.tr0
  have tr1 := h.tr1
  simp only at h1 h2 h3 h4 h5 h6 h7 h8 l1 l2 hpL hput tk0 tk1 wt0 wt1 tr0 tr1
  rw [decide_eq_true (by omega)] at h1 h5 h6
  rw [decide_eq_true tk0, decide_eq_true tk1] at h4
  rw [decide_eq_true wt0, decide_eq_true wt1] at h7
  rw [decide_eq_true tr0, decide_eq_true tr1] at h8
  have hd : qLenSet (qVar 7) [some (.d (toD ⟨host, pre, ms, svc, tk, put, lims, wt, tr⟩)), some (.d (.str host)), some (.d (txs pre)), some (.d (txs ms)), some (.d (.str svc)), some (.d (.int tk)), some (.d (txs put)), some (.d (txs lims)), some (.d (.int wt)), some (.d (.int tr))] = some (.d (.int (lims.length : Nat))) := by
    show lenSetE (.d (txs lims)) = _
    show (strsOf (lims.map .str)).bind _ = _
    rw [strsOf_map]
    show (if _ then _ else _) = _
    rw [if_pos (by omega), l2]
  have hh : (eqE (.d (.str host)) (.d (.str "*"))) = some (decide (host = "*")) := eqE_ss
  have hlp : lenE (.d (txs pre)) = some (.d (.int (pre.length : Nat))) := by
    unfold txs; walk_at "q"
  have hll : lenE (.d (txs lims)) = some (.d (.int (lims.length : Nat))) := by
    unfold txs; walk_at "q"
  unfold e_is_route g_is_route
  simp only [c_MOST_PREFIX, c_MOST_PUT, c_MOST_NAMES, c_MOST_WAIT, c_MOST_TRIES]
  refine run_rt rfl ((if_skip ?_).trans ((asg_seq rfl rfl).trans ((if_skip ?_).trans ((if_skip ?_).trans ((if_skip ?_).trans (ret_rt ?_))))))
  · unfold toD; walk_at "q"
  · refine or_q (x := false) (y := false) (by
      refine (and_q (x := !decide (host = "*")) (y := false) ?_ fun e => ?_).trans (by rw [Bool.and_false])
      · refine test_q ?_
        unfold toD; walk_at "q"
      · exact not_q (x := true) (tru_q (host_ok h.host (by simpa using e)))) fun _ => or_q (x := false) (y := false) (not_q (x := true) (tru_q h1)) fun _ => not_q (x := true) (tru_q h2)
  · exact or_q (x := false) (y := false) (not_q (x := true) (tru_q h3)) fun _ => or_q (x := false) (y := false) (not_q (x := true) (tru_q (by
      refine Eq.trans ?_ h4
      unfold txs toD; walk_at "q"))) fun _ => not_q (x := true) (tru_q h5)
  · refine or_q (x := false) (y := false) (not_q (x := true) (tru_q h6)) fun _ => test_q ?_
    exact (op_q hd (y := .d (.int (lims.length : Nat))) (by unfold toD txs; walk_at "q") neV_ii).trans (by rw [decide_eq_true rfl]; rfl)
  · exact andV_q (x := true) (y := true) h7 fun _ => h8
end K47

end

section
set_option Elab.async false
set_option linter.all false
set_option maxRecDepth 100000
set_option maxHeartbeats 4000000
open VS
local macro_rules | `(tactic| walk_at "ev") => `(tactic| simp only [start_1, start_2, start_3, start_4, start_5, startD, List.map_cons, List.map_nil, List.length_cons, List.length_nil, List.replicate, List.cons_append, List.nil_append, Nat.reduceAdd, Nat.reduceSub, dSet, dOp, dVar, dC, dW, gotV, slot, setS, dRet, dRetN, dDrop, dNext, dCall, dCons, dNil, d1, dTest, dTru, truOf, dAnd, dOr, dNot, dAndV, dOrV, dNotV, dIf, dChain, dTup, dLst, oAll, dAll, oSome, rEqV, rNeV, oEq, peek, rIsV, rNotIsV, isNone, rI2, rII, rAddV, rMulV, rMulS, rIsiV, tyOf, gLen, lenOf, gInt, gAbs, gTuple, gList, seqD, seqOf, lsD, gIx, updM_same, updM_updM, isB_int_int, isB_bool_int, isB_str_int, isB_none_int, isB_list_int, isB_tuple_int, isB_dict_int, isB_int_bool, isB_bool_bool, isB_str_bool, isB_none_bool, isB_list_bool, isB_tuple_bool, isB_dict_bool, isB_int_str, isB_bool_str, isB_str_str, isB_none_str, isB_list_str, isB_tuple_str, isB_dict_str, isB_int_tuple, isB_bool_tuple, isB_str_tuple, isB_none_tuple, isB_list_tuple, isB_tuple_tuple, isB_dict_tuple, isB_int_list, isB_bool_list, isB_str_list, isB_none_list, isB_list_list, isB_tuple_list, isB_dict_list, tyOk_int, tyOk_bool, tyOk_str, tyOk_tuple, tyOk_list, tyOk_dict, Bool.not_true, Bool.not_false, if_true, if_false, ite_true, ite_false, Bool.false_eq_true, true_and, and_true, decide_eq_true_eq, Bool.true_eq_false, dAll_of_map, Bool.not_eq_true', decide_eq_false_iff_not, reduceIte, pu1_iff, pu2_iff, pr1_iff, pr2_iff, pr3_iff, pr4_iff, rInV, rNotInV, in_strL, in_strT, in_str2, in_str0, eqOk_int, eqOk_str, eqOk_bool, eqOk_none, eqv_ii, eqv_ss, eqv_bb, str_beq, int_beq, dAsg, bindP, bindNs, lstAt, List.length_map])
local macro_rules | `(tactic| walk_at "lf") => `(tactic| (intro K hK; walk_at "ev"; exact hK))
local macro_rules | `(tactic| walk_at "pt") => `(tactic| first
  | (with_reducible refine or_p ?_ ?_) <;> walk_at "pt"
  | (with_reducible refine and_p ?_ ?_) <;> walk_at "pt"
  | (with_reducible refine not_p ?_) <;> walk_at "pt"
  | walk_at "lf")
local macro_rules | `(tactic| walk_at "q") => `(tactic| simp only [runE, endV, start_1, start_2, start_3, start_4, start_5, startD, List.map_cons, List.map_nil, List.length_cons, List.length_nil, List.replicate, List.cons_append, List.nil_append, Nat.reduceAdd, Nat.reduceSub, Nat.reduceEqDiff, qVar, qC, qW, qOp, qTest, qTru, truOf, qAnd, qOr, qNot, qAndV, qOrV, qNotV, qIf, qChain, qNeg, qNil, qCons, qTup, qLst, qCall, q1, lenE, lenOf, absE, intE, tupE, listE, qIsiV, tyOf, qEqV, qNeV, eqE_ss, eqE_ii, qIsV, qNotIsV, isNone, qI2, qII, qInV, qNotInV, inE_strs, inE_strT, qIx, ixE, qDGet, qAddV, qMulV, qMulS, qNoP, qPart, qSl, slE, qYes, qNext, qSeq, qBreak, qCont, qDrop, qRet, qRetN, qIfS, qAsg, qSet, qAug, slot, setS, bindP, bindNs, asB, asI, asD, seqD, seqOf, lsD, dAll, dAll_of_map, Option.bind_some, Option.bind_none, Option.map_some, Option.map_none, isB_int_int, isB_bool_int, isB_str_int, isB_none_int, isB_list_int, isB_tuple_int, isB_dict_int, isB_int_bool, isB_bool_bool, isB_str_bool, isB_none_bool, isB_list_bool, isB_tuple_bool, isB_dict_bool, isB_int_str, isB_bool_str, isB_str_str, isB_none_str, isB_list_str, isB_tuple_str, isB_dict_str, isB_int_tuple, isB_bool_tuple, isB_str_tuple, isB_none_tuple, isB_list_tuple, isB_tuple_tuple, isB_dict_tuple, isB_int_list, isB_bool_list, isB_str_list, isB_none_list, isB_list_list, isB_tuple_list, isB_dict_list, tyOk_int, tyOk_bool, tyOk_str, tyOk_tuple, tyOk_list, tyOk_dict, Bool.not_true, Bool.not_false, if_true, if_false, ite_true, ite_false, Bool.false_eq_true, true_and, and_true, Bool.true_eq_false, reduceIte, Bool.and_true, Bool.true_and, Bool.and_false, Bool.false_and, decide_true, decide_false, Int.reduceLE, Int.reduceLT, Int.reduceEq, Int.reduceAdd, Int.reduceSub, Int.reduceNeg, Int.cast_ofNat_Int, List.length_map])
namespace K47
open PySem L2 VS
theorem txs_inj {a b : List Str} : txs a = txs b ↔ a = b := by
  unfold txs
  constructor
  · intro h
    injection h with h
    exact List.map_inj_right (f := PyData.str) (fun x y e => by injection e) |>.mp h
  · intro h; rw [h]
def same (r o : R) : Bool := decide (r.host = o.host ∧ r.pre = o.pre) && r.ms.any fun m => decide (m ∈ o.ms)
theorem head2 (r : R) : slE (.d (toD r)) none (some 2) = some (.d (.tuple [.str r.host, txs r.pre])) := rfl
theorem pl_head2 (r : R) : Pl 2 (.tuple [.str r.host, txs r.pre]) := Pl.tup fun x hx => by
  simp only [List.mem_cons, List.not_mem_nil, or_false] at hx
  rcases hx with rfl | rfl
  · exact Pl.str _
  · exact Pl.strs _
theorem e_same (r o : R) : e_is_same [.d (toD r), .d (toD o)] = BB (same r o) := by
  unfold e_is_same g_is_same
  refine run_rt rfl (ret_rt (andV_q (x := decide (r.host = o.host ∧ r.pre = o.pre)) ?_ fun _ => ?_))
  · refine (op_q (x := .d (.tuple [.str r.host, txs r.pre])) (y := .d (.tuple [.str o.host, txs o.pre])) rfl rfl (eqV_pl (pl_head2 r) (pl_head2 o) (by decide))).trans ?_
    congr 3
    simp only [PyData.tuple.injEq, List.cons.injEq, PyData.str.injEq, txs_inj, and_true]
  · exact qAnyA (fun z => .str z) (fun z => decide (z ∈ o.ms)) r.ms rfl fun z _ => ⟨_, rfl, op_q (x := .d (.str z)) (y := .d (txs o.ms)) rfl rfl (by unfold qInV txs; rw [inE_strT]; rfl)⟩
def svcs : List Str := ["web", "files"]
def limNames : List Str := ["few", "slow", "mid", "big"]
def wd (done : List R) (r : R) : Str := if r.svc ∉ svcs then "no service" else if r.lims.all (fun z => decide (z ∈ limNames)) = false then "no limit" else if done.any (same r) = true then "same route" else ""
def ofR (x : PyData) : R → Bool := fun r => decide (toD r = x)
theorem e_fault1 (Rs : List R) (i : Nat) (r : R) (h : Rs[i]? = some r) : e_fault_of_route [.d (.tuple (Rs.map toD)), .d (.int (i : Nat)), .d (.list (svcs.map .str)), .d (.list (limNames.map .str))] = some (.d (.str (wd (Rs.take i) r))) := by
  unfold e_fault_of_route g_fault_of_route
  have h0 : qIx (.d (.tuple (Rs.map toD))) (.d (.int (i : Nat))) = some (.d (toD r)) := ixE_tup (by rw [List.getElem?_map, h]; rfl)
  refine run_rt rfl ((set_seq (v := .d (toD r)) (op_q rfl rfl h0)).trans ?_)
  have h1 : qTest (qOp qNotInV (qOp qIx (qVar 4) (qC (.int 3))) (qVar 2)) (setS (startD 7 [.d (.tuple (Rs.map toD)), .d (.int (i : Nat)), .d (.list (svcs.map .str)), .d (.list (limNames.map .str))]) 4 (.d (toD r))) = some (!decide (r.svc ∈ svcs)) :=
    test_q (op_q (x := .d (.str r.svc)) (y := .d (.list (svcs.map .str))) rfl rfl (by unfold qNotInV; rw [inE_strs]; rfl))
  have h2 := qAllA (fun z => .str z) (wi := jSeq (qOp qIx (qVar 4) (qC (.int 6)))) (p := .n 5) (te := qOp qInV (qVar 5) (qVar 3)) (vs := [5]) (τ := setS (startD 7 [.d (.tuple (Rs.map toD)), .d (.int (i : Nat)), .d (.list (svcs.map .str)), .d (.list (limNames.map .str))]) 4 (.d (toD r)))
    (fun z => decide (z ∈ limNames)) r.lims rfl fun z _ => ⟨_, rfl, op_q (x := .d (.str z)) (y := .d (.list (limNames.map .str))) rfl rfl (by unfold qInV; rw [inE_strs]; rfl)⟩
  have h3 := qAnyA toD (wi := jSeq (qSl (qVar 0) qNoP (qPart (qVar 1)))) (p := .n 6) (te := qCall e_is_same (qCons (qVar 4) (qCons (qVar 6) qNil))) (vs := [6]) (τ := setS (startD 7 [.d (.tuple (Rs.map toD)), .d (.int (i : Nat)), .d (.list (svcs.map .str)), .d (.list (limNames.map .str))]) 4 (.d (toD r)))
    (same r) (Rs.take i) (by
      show itE (.d (.tuple (cutL (Rs.map toD) none (some (i : Int))))) = _
      rw [cutL_take, List.map_take]; rfl) fun o _ => ⟨_, rfl, call_q (xs := [.d (toD r), .d (toD o)]) rfl (e_same r o)⟩
  unfold wd
  by_cases c1 : r.svc ∈ svcs
  · rw [if_neg (fun n => n c1)]
    rw [decide_eq_true c1] at h1
    refine (if_skip h1).trans ?_
    cases c2 : r.lims.all (fun z => decide (z ∈ limNames)) with
    | true =>
      rw [c2] at h2
      rw [if_neg (by decide)]
      refine (if_skip (not_q (x := true) (tru_q h2))).trans (ret_rt ?_)
      show (qTru _ _).bind _ = _
      rw [tru_q h3]
      show (if (Rs.take i).any (same r) = true then _ else _) = _
      cases (Rs.take i).any (same r) <;> rfl
    | false =>
      rw [c2] at h2
      rw [if_pos rfl]
      exact if_ret (not_q (x := false) (tru_q h2)) rfl
  · rw [if_pos c1]
    rw [decide_eq_false c1] at h1
    exact if_ret h1 rfl
end K47

end

section
set_option Elab.async false
set_option linter.all false
set_option maxRecDepth 100000
set_option maxHeartbeats 4000000
open VS
local macro_rules | `(tactic| walk_at "ev") => `(tactic| simp only [start_1, start_2, start_3, start_4, start_5, startD, List.map_cons, List.map_nil, List.length_cons, List.length_nil, List.replicate, List.cons_append, List.nil_append, Nat.reduceAdd, Nat.reduceSub, dSet, dOp, dVar, dC, dW, gotV, slot, setS, dRet, dRetN, dDrop, dNext, dCall, dCons, dNil, d1, dTest, dTru, truOf, dAnd, dOr, dNot, dAndV, dOrV, dNotV, dIf, dChain, dTup, dLst, oAll, dAll, oSome, rEqV, rNeV, oEq, peek, rIsV, rNotIsV, isNone, rI2, rII, rAddV, rMulV, rMulS, rIsiV, tyOf, gLen, lenOf, gInt, gAbs, gTuple, gList, seqD, seqOf, lsD, gIx, updM_same, updM_updM, isB_int_int, isB_bool_int, isB_str_int, isB_none_int, isB_list_int, isB_tuple_int, isB_dict_int, isB_int_bool, isB_bool_bool, isB_str_bool, isB_none_bool, isB_list_bool, isB_tuple_bool, isB_dict_bool, isB_int_str, isB_bool_str, isB_str_str, isB_none_str, isB_list_str, isB_tuple_str, isB_dict_str, isB_int_tuple, isB_bool_tuple, isB_str_tuple, isB_none_tuple, isB_list_tuple, isB_tuple_tuple, isB_dict_tuple, isB_int_list, isB_bool_list, isB_str_list, isB_none_list, isB_list_list, isB_tuple_list, isB_dict_list, tyOk_int, tyOk_bool, tyOk_str, tyOk_tuple, tyOk_list, tyOk_dict, Bool.not_true, Bool.not_false, if_true, if_false, ite_true, ite_false, Bool.false_eq_true, true_and, and_true, decide_eq_true_eq, Bool.true_eq_false, dAll_of_map, Bool.not_eq_true', decide_eq_false_iff_not, reduceIte, pu1_iff, pu2_iff, pr1_iff, pr2_iff, pr3_iff, pr4_iff, rInV, rNotInV, in_strL, in_strT, in_str2, in_str0, eqOk_int, eqOk_str, eqOk_bool, eqOk_none, eqv_ii, eqv_ss, eqv_bb, str_beq, int_beq, dAsg, bindP, bindNs, lstAt, List.length_map])
local macro_rules | `(tactic| walk_at "lf") => `(tactic| (intro K hK; walk_at "ev"; exact hK))
local macro_rules | `(tactic| walk_at "pt") => `(tactic| first
  | (with_reducible refine or_p ?_ ?_) <;> walk_at "pt"
  | (with_reducible refine and_p ?_ ?_) <;> walk_at "pt"
  | (with_reducible refine not_p ?_) <;> walk_at "pt"
  | walk_at "lf")
local macro_rules | `(tactic| walk_at "q") => `(tactic| simp only [runE, endV, start_1, start_2, start_3, start_4, start_5, startD, List.map_cons, List.map_nil, List.length_cons, List.length_nil, List.replicate, List.cons_append, List.nil_append, Nat.reduceAdd, Nat.reduceSub, Nat.reduceEqDiff, qVar, qC, qW, qOp, qTest, qTru, truOf, qAnd, qOr, qNot, qAndV, qOrV, qNotV, qIf, qChain, qNeg, qNil, qCons, qTup, qLst, qCall, q1, lenE, lenOf, absE, intE, tupE, listE, qIsiV, tyOf, qEqV, qNeV, eqE_ss, eqE_ii, qIsV, qNotIsV, isNone, qI2, qII, qInV, qNotInV, inE_strs, inE_strT, qIx, ixE, qDGet, qAddV, qMulV, qMulS, qNoP, qPart, qSl, slE, qYes, qNext, qSeq, qBreak, qCont, qDrop, qRet, qRetN, qIfS, qAsg, qSet, qAug, slot, setS, bindP, bindNs, asB, asI, asD, seqD, seqOf, lsD, dAll, dAll_of_map, Option.bind_some, Option.bind_none, Option.map_some, Option.map_none, isB_int_int, isB_bool_int, isB_str_int, isB_none_int, isB_list_int, isB_tuple_int, isB_dict_int, isB_int_bool, isB_bool_bool, isB_str_bool, isB_none_bool, isB_list_bool, isB_tuple_bool, isB_dict_bool, isB_int_str, isB_bool_str, isB_str_str, isB_none_str, isB_list_str, isB_tuple_str, isB_dict_str, isB_int_tuple, isB_bool_tuple, isB_str_tuple, isB_none_tuple, isB_list_tuple, isB_tuple_tuple, isB_dict_tuple, isB_int_list, isB_bool_list, isB_str_list, isB_none_list, isB_list_list, isB_tuple_list, isB_dict_list, tyOk_int, tyOk_bool, tyOk_str, tyOk_tuple, tyOk_list, tyOk_dict, Bool.not_true, Bool.not_false, if_true, if_false, ite_true, ite_false, Bool.false_eq_true, true_and, and_true, Bool.true_eq_false, reduceIte, Bool.and_true, Bool.true_and, Bool.and_false, Bool.false_and, decide_true, decide_false, Int.reduceLE, Int.reduceLT, Int.reduceEq, Int.reduceAdd, Int.reduceSub, Int.reduceNeg, Int.cast_ofNat_Int, List.length_map])
namespace K47
open PySem L2 VS
def servers : PyData := .tuple [.tuple [.str "s", .int 167772161, .int 80, .int 1, .str "up"]]
def polS : PyData := .tuple [.tuple [.str "web", servers, .str "turns", .none], .tuple [.str "files", servers, .str "least", .none]]
def polL : PyData := .tuple [.tuple [.str "few", .str "open", .tuple [.int 3], .tuple []], .tuple [.str "slow", .str "bucket", .tuple [.int 1, .int 1, .int 5], .tuple [.str "outside"]], .tuple [.str "mid", .str "open", .tuple [.int 2], .tuple []], .tuple [.str "big", .str "open", .tuple [.int 9], .tuple []]]
def pol (x : PyData) : PyData := .dict [(.str "services", polS), (.str "limits", polL), (.str "routes", x)]
theorem e_policy (x : PyData) : e__law_policy [.d x] = some (.d (pol x)) := by rfl
/-- the words, one for each route -/
def wds : List R → List R → List Str
  | _, [] => []
  | done, r :: rs => wd done r :: wds (done ++ [r]) rs
theorem wds_append : ∀ (as bs done : List R), wds done (as ++ bs) = wds done as ++ wds (done ++ as) bs
  | [], bs, done => by simp [wds]
  | a :: as, bs, done => by
    show wd done a :: wds (done ++ [a]) (as ++ bs) = _
    rw [wds_append as bs]
    simp [wds]
theorem wds_length : ∀ (as done : List R), (wds done as).length = as.length
  | [], _ => rfl
  | a :: as, done => by simp [wds, wds_length as]
theorem wds_at : ∀ (rs done : List R) (i : Nat) (r : R), rs[i]? = some r → (wds done rs)[i]? = some (wd (done ++ rs.take i) r)
  | [], _, _, _, h => by simp at h
  | a :: as, done, 0, r, h => by
    simp at h; subst h
    simp [wds]
  | a :: as, done, i + 1, r, h => by
    have := wds_at as (done ++ [a]) i r (by simpa using h)
    simp only [wds, List.getElem?_cons_succ, List.take_succ_cons]
    rw [this]; simp
def idx (w : Str) (ws : List Str) : Option Nat := idxD (.str w) (ws.map .str)
theorem idx_none {w : Str} : ∀ {ws : List Str}, w ∉ ws → idx w ws = none
  | [], _ => rfl
  | x :: ws, h => by
    have h1 : w ≠ x := fun e => h (by rw [e]; exact List.mem_cons_self)
    have h2 : idx w ws = none := idx_none fun e => h (List.mem_cons_of_mem _ e)
    show (if PyData.eqv (.str x) (.str w) = true then some 0 else (idx w ws).map (· + 1)) = none
    rw [eqv_ss, str_beq, decide_eq_false (fun e => h1 e.symm), if_neg Bool.false_ne_true, h2]; rfl
theorem idx_at {w : Str} : ∀ {as bs : List Str}, w ∉ as → idx w (as ++ w :: bs) = some as.length
  | [], bs, _ => by
    show (if PyData.eqv (.str w) (.str w) = true then some 0 else _) = _
    rw [eqv_ss, str_beq, decide_eq_true rfl, if_pos rfl]; rfl
  | x :: as, bs, h => by
    have h1 : w ≠ x := fun e => h (by rw [e]; exact List.mem_cons_self)
    have h2 : idx w (as ++ w :: bs) = some as.length := idx_at fun e => h (List.mem_cons_of_mem _ e)
    show (if PyData.eqv (.str x) (.str w) = true then some 0 else (idx w (as ++ w :: bs)).map (· + 1)) = _
    rw [eqv_ss, str_beq, decide_eq_false (fun e => h1 e.symm), if_neg Bool.false_ne_true, h2]; rfl
theorem idx_iff {w : Str} {ws : List Str} : w ∈ ws ↔ ∃ j, idx w ws = some j := by
  constructor
  · intro h
    obtain ⟨as, bs, rfl, h2⟩ := List.eq_append_cons_of_mem h
    exact ⟨_, idx_at h2⟩
  · rintro ⟨j, h⟩
    by_cases c : w ∈ ws
    · exact c
    · rw [idx_none c] at h; cases h
variable {Fe : Addr → Option EC} {a b c : Addr}
theorem dget_routes (x : PyData) : qDGet (.d (pol x)) (.d (.str "routes")) = some (.d x) := by rfl
/-- routes that are no tuple, or too many -/
theorem fr_unfit (x : PyData) (h : ∀ ds, x = .tuple ds → 40 < ds.length) (hx : ∀ es, x ≠ .dict es) : e_fault_routes Fe a b c [.d (pol x)] = some (.d (.tuple [.str "route", .none])) := by
  unfold e_fault_routes g_fault_routes
  refine run_rt rfl ((set_seq (v := .d x) (op_q rfl rfl (dget_routes x))).trans ?_)
  refine if_ret ?_ rfl
  cases x with
  | tuple ds =>
    refine (or_q (x := false) (y := true) (not_q (x := true) (tru_q ?_)) fun _ => test_q ?_)
    · walk_at "q"
    · unfold c_MOST_ROUTES
      walk_at "q"
      have := h ds rfl
      rw [decide_eq_true (by omega)]
  | dict es => exact (hx es rfl).elim
  | _ =>
    refine (or_q (x := true) (y := true) (not_q (x := false) (tru_q ?_)) fun h => by cases h)
    walk_at "q"
theorem findSome_none {α β : Type} {f : α → Option β} {xs : List α} (h : ∀ x ∈ xs, f x = none) : xs.findSome? f = none := by
  rw [List.findSome?_eq_none_iff]; exact h
def τ0 (ds : List PyData) (o : Option DV) : Ds := [some (.d (pol (.tuple ds))), some (.d (.tuple ds)), o, none, none, none, none, none]
/-- what a turn of the first loop finds -/
def bad (Fe : Addr → Option EC) (a b c : Addr) (ds : List PyData) : DV → Option DV
  | .d (.int i) => match ds[i.toNat]? with
    | some d => if isV (e_is_route Fe a b c [.d d]) (.bool true) = true then none else some (.d (.tuple [.str "route", .int i]))
    | none => none
  | _ => none
theorem fr_loop (ds : List PyData) (hg : ∀ d ∈ ds, ∃ k, e_is_route Fe a b c [.d d] = BB k) : ∀ x ∈ rgD 0 ds.length,
    (qIfS (qNot (qTru (qCall (e_is_route Fe a b c) (qCons (qOp qIx (qVar 1) (qVar 2)) qNil)))) (qRet (qTup (qCons (qC (.str ("route" : Str))) (qCons (qVar 2) qNil)))) qNext) (τ0 ds (some x)) = some (match bad Fe a b c ds x with | some v => .rt v | none => .nx (τ0 ds (some x))) := by
  intro x hx
  rw [rgD_map] at hx
  obtain ⟨y, hy, rfl⟩ := List.mem_map.mp hx
  obtain ⟨i, hi, rfl⟩ := List.mem_map.mp hy
  rw [List.mem_range] at hi
  have e0 : (0 : Int) + (i : Nat) = (i : Nat) := by omega
  rw [e0]
  have h1 : ds[i]? = some ds[i] := List.getElem?_eq_getElem hi
  obtain ⟨k, hk⟩ := hg ds[i] (List.getElem_mem hi)
  have h2 : qCall (e_is_route Fe a b c) (qCons (qOp qIx (qVar 1) (qVar 2)) qNil) (τ0 ds (some (.d (.int (i : Nat))))) = BB k := call_q (cons_q (op_q (r := qIx) (x := .d (.tuple ds)) (y := .d (.int (i : Nat))) rfl rfl (ixE_tup h1)) rfl) hk
  have h3 : bad Fe a b c ds (.d (.int (i : Nat))) = if k = true then none else some (.d (.tuple [.str "route", .int (i : Nat)])) := by
    show (match ds[((i : Nat) : Int).toNat]? with | some d => _ | none => _) = _
    rw [Int.toNat_natCast, h1]
    show (if isV (e_is_route Fe a b c [.d ds[i]]) (.bool true) = true then _ else _) = _
    rw [hk]
    cases k <;> rfl
  rw [h3]
  cases k with
  | true => rw [ifs_f (not_q (x := true) (tru_q h2))]; rfl
  | false => rw [ifs_t (not_q (x := false) (tru_q h2))]; rfl
theorem fr_start (ds : List PyData) (hl : ds.length ≤ 40) {r : Option EO} {rest : ES} (h : rest (τ0 ds none) = r) :
    (qSeq (qSet (qOp qDGet (qVar 0) (qC (.str ("routes" : Str)))) 1) (qSeq (qIfS (qOr (qNot (qTru (qCall (qIsiV) (qCons (qVar 1) (qCons (qW (.ty "tuple")) (qNil)))))) (qTest (qOp (qI2 fun i j => .bool (decide (j < i))) (qCall (q1 lenE) (qCons (qVar 1) (qNil))) (qC c_MOST_ROUTES)))) (qRet (qTup (qCons (qC (.str ("route" : Str))) (qCons (qC .none) (qNil))))) (qNext)) rest)) (startD 8 [.d (pol (.tuple ds))]) = r := by
  refine (set_seq (v := .d (.tuple ds)) (op_q rfl rfl (dget_routes _))).trans ((if_skip ?_).trans h)
  refine (or_q (x := false) (y := false) (not_q (x := true) (tru_q ?_)) fun _ => test_q ?_)
  · walk_at "q"
  · unfold c_MOST_ROUTES
    walk_at "q"
    rw [decide_eq_false (by omega)]
theorem fr_range (ds : List PyData) (hl : ds.length ≤ 40) (o : Option DV) : (jRg (qCons (qCall (q1 lenE) (qCons (qVar 1) qNil)) qNil)) (τ0 ds o) = some (rgD 0 ds.length) := by
  show rgE [.d (.int (ds.length : Nat))] = _
  exact rgE_nat (by omega)
/-- one that is no route, all before it routes -/
theorem fr_bad (as bs : List PyData) (d : PyData) (hl : (as ++ d :: bs).length ≤ 40) (h1 : ∀ x ∈ as, e_is_route Fe a b c [.d x] = BB true) (h2 : e_is_route Fe a b c [.d d] = BB false) (h3 : ∀ x ∈ bs, ∃ k, e_is_route Fe a b c [.d x] = BB k) :
    e_fault_routes Fe a b c [.d (pol (.tuple (as ++ d :: bs)))] = some (.d (.tuple [.str "route", .int as.length])) := by
  unfold e_fault_routes g_fault_routes
  refine run_rt rfl (fr_start _ hl ?_)
  refine for_ret (fr_range _ hl none) ?_
  have hs := loop_scan (i := 2) (τ0 (as ++ d :: bs)) (fun _ _ => rfl) (bad Fe a b c (as ++ d :: bs)) _ none (fr_loop (as ++ d :: bs) fun x hx => by
    rcases List.mem_append.mp hx with g | g
    · exact ⟨_, h1 x g⟩
    · rcases List.mem_cons.mp g with rfl | g
      · exact ⟨_, h2⟩
      · exact h3 x g)
  refine hs.1 _ ?_
  have hlen : (as ++ d :: bs).length = as.length + (bs.length + 1) := by simp
  rw [rgD_map, hlen, List.range_add, List.map_append, List.map_append, List.findSome?_append]
  have hn : (((List.range as.length).map fun i => PyData.int (0 + (i : Nat))).map DV.d).findSome? (bad Fe a b c (as ++ d :: bs)) = none := by
    refine findSome_none fun x hx => ?_
    obtain ⟨y, hy, rfl⟩ := List.mem_map.mp hx
    obtain ⟨i, hi, rfl⟩ := List.mem_map.mp hy
    rw [List.mem_range] at hi
    show (match (as ++ d :: bs)[((0 : Int) + (i : Nat)).toNat]? with | some d => _ | none => _) = _
    rw [show ((0 : Int) + (i : Nat)).toNat = i by omega, List.getElem?_append_left hi, List.getElem?_eq_getElem hi]
    show (if isV (e_is_route Fe a b c [.d as[i]]) (.bool true) = true then _ else _) = _
    rw [h1 _ (List.getElem_mem hi)]; rfl
  rw [hn, List.range_succ_eq_map, Option.none_or, List.map_cons, List.map_cons, List.map_cons, List.findSome?_cons]
  have hb : bad Fe a b c (as ++ d :: bs) (.d (.int ((0 : Int) + ((as.length + 0 : Nat) : Int)))) = some (.d (.tuple [.str "route", .int as.length])) := by
    have e0 : (0 : Int) + ((as.length + 0 : Nat) : Int) = (as.length : Nat) := by omega
    rw [e0]
    show (match (as ++ d :: bs)[((as.length : Nat) : Int).toNat]? with | some d => _ | none => _) = _
    rw [Int.toNat_natCast, List.getElem?_append_right (Nat.le_refl _), Nat.sub_self]
    show (if isV (e_is_route Fe a b c [.d d]) (.bool true) = true then _ else _) = _
    rw [h2]; rfl
  simp only [hb]
/-- what the words give -/
def frOut (ws : List Str) : PyData := match idx "no service" ws with
  | some j => .tuple [.str "no service", .int (j : Nat)]
  | none => match idx "no limit" ws with
    | some j => .tuple [.str "no limit", .int (j : Nat)]
    | none => match idx "same route" ws with
      | some j => .tuple [.str "same route", .int (j : Nat)]
      | none => .none
def τ1 (Rs : List R) (o p : Option DV) : Ds := [some (.d (pol (.tuple (Rs.map toD)))), some (.d (.tuple (Rs.map toD))), o, some (.d (.list (svcs.map .str))), some (.d (.list (limNames.map .str))), some (.d (.list ((wds [] Rs).map .str))), p, none]
theorem idx_mem {w : Str} {ws : List Str} : decide (w ∈ ws) = (idx w ws).isSome := by
  by_cases h : w ∈ ws
  · obtain ⟨j, hj⟩ := idx_iff.mp h
    rw [hj, decide_eq_true h]; rfl
  · rw [idx_none h, decide_eq_false h]; rfl
theorem fr_turn (Rs : List R) (o : Option DV) (w : Str) : (qIfS (qTest (qOp (qInV) (qVar 6) (qVar 5))) (qRet (qTup (qCons (qVar 6) (qCons (qMt "list" indexE (qVar 5) (qCons (qVar 6) (qNil))) (qNil))))) (qNext)) (τ1 Rs o (some (.d (.str w)))) =
    some (match (idx w (wds [] Rs)).map fun j => DV.d (.tuple [.str w, .int (j : Nat)]) with | some v => .rt v | none => .nx (τ1 Rs o (some (.d (.str w))))) := by
  have h1 : (qTest (qOp (qInV) (qVar 6) (qVar 5))) (τ1 Rs o (some (.d (.str w)))) = some (idx w (wds [] Rs)).isSome :=
    test_q (op_q (x := .d (.str w)) (y := .d (.list ((wds [] Rs).map .str))) rfl rfl (by unfold qInV; rw [inE_strs, idx_mem]; rfl))
  cases e : idx w (wds [] Rs) with
  | none =>
    rw [e] at h1
    rw [ifs_f h1]; rfl
  | some j =>
    rw [e] at h1
    rw [ifs_t h1]
    refine ret_rt ?_
    have h2 : qMt "list" indexE (qVar 5) (qCons (qVar 6) qNil) (τ1 Rs o (some (.d (.str w)))) = some (.d (.int (j : Nat))) := by
      show (if tyE "list" (.d (.list ((wds [] Rs).map .str))) = true then indexE (.d (.list ((wds [] Rs).map .str))) [.d (.str w)] else none) = _
      rw [if_pos (by rfl)]
      show indexE (.d (.list ((wds [] Rs).map .str))) [.d (.str w)] = _
      show (if _ then (idxD (.str w) ((wds [] Rs).map .str)).map _ else none) = _
      rw [if_pos ⟨(Pl.strsL (n := 3) _).eqOk (by decide), rfl⟩]
      show (idx w (wds [] Rs)).map _ = _
      rw [e]; rfl
    show ((qCons (qVar 6) (qCons (qMt "list" indexE (qVar 5) (qCons (qVar 6) (qNil))) (qNil))) (τ1 Rs o (some (.d (.str w))))).bind _ = _
    rw [cons_q (a := qVar 6) (x := .d (.str w)) rfl (cons_q h2 rfl)]; rfl
def wAt (Rs : List R) (i : Nat) : Str := match Rs[i]? with
  | some r => wd (Rs.take i) r
  | none => ""
theorem wds_range (Rs : List R) : (List.range Rs.length).map (wAt Rs) = wds [] Rs := by
  apply List.ext_getElem?
  intro i
  rw [List.getElem?_map]
  by_cases h : i < Rs.length
  · rw [List.getElem?_range h]
    have e : Rs[i]? = some Rs[i] := List.getElem?_eq_getElem h
    rw [wds_at Rs [] i _ e]
    show some (wAt Rs i) = _
    unfold wAt
    rw [e]; rfl
  · rw [List.getElem?_eq_none (by simpa using Nat.le_of_not_lt h), List.getElem?_eq_none (by rw [wds_length]; exact Nat.le_of_not_lt h)]; rfl
theorem fr_words (Rs : List R) (hl : Rs.length ≤ 40) (o : Option DV) : qLc (jRg (qCons (qCall (q1 lenE) (qCons (qVar 1) (qNil))) (qNil))) (.n 2) qYes (qCall (e_fault_of_route) (qCons (qVar 1) (qCons (qVar 2) (qCons (qVar 3) (qCons (qVar 4) (qNil)))))) [2] [some (.d (pol (.tuple (Rs.map toD)))), some (.d (.tuple (Rs.map toD))), o, some (.d (.list (svcs.map .str))), some (.d (.list (limNames.map .str))), none, none, none] = some (.d (.list ((wds [] Rs).map .str))) := by
  rw [← wds_range, List.map_map]
  refine qLcA (fun i : Nat => .int (0 + (i : Nat))) (fun i => .str (wAt Rs i)) (List.range Rs.length) ?_ fun i hi => ?_
  · show rgE [.d (.int ((Rs.map toD).length : Nat))] = _
    rw [List.length_map, rgE_nat (by omega), rgD_map]
  · rw [List.mem_range] at hi
    refine ⟨_, rfl, ?_⟩
    have e : Rs[i]? = some Rs[i] := List.getElem?_eq_getElem hi
    have h := e_fault1 Rs i Rs[i] e
    have hw : wAt Rs i = wd (Rs.take i) Rs[i] := by unfold wAt; rw [e]
    rw [hw]
    refine call_q (xs := [.d (.tuple (Rs.map toD)), .d (.int (0 + (i : Nat))), .d (.list (svcs.map .str)), .d (.list (limNames.map .str))]) rfl ?_
    rw [show (0 : Int) + (i : Nat) = (i : Nat) by omega]
    exact h
theorem fr_good (Rs : List R) (hl : Rs.length ≤ 40) (hg : ∀ r ∈ Rs, e_is_route Fe a b c [.d (toD r)] = BB true) : e_fault_routes Fe a b c [.d (pol (.tuple (Rs.map toD)))] = some (.d (frOut (wds [] Rs))) := by
  unfold e_fault_routes g_fault_routes
  refine run_rt rfl (fr_start _ (by simpa using hl) ?_)
  have hs := loop_scan (i := 2) (τ0 (Rs.map toD)) (fun _ _ => rfl) (bad Fe a b c (Rs.map toD)) _ none (fr_loop (Rs.map toD) fun x hx => by
    obtain ⟨r, hr, rfl⟩ := List.mem_map.mp hx
    exact ⟨_, hg r hr⟩)
  obtain ⟨o, ho⟩ := hs.2 (by
    rw [rgD_map]
    refine findSome_none fun x hx => ?_
    obtain ⟨y, hy, rfl⟩ := List.mem_map.mp hx
    obtain ⟨i, hi, rfl⟩ := List.mem_map.mp hy
    rw [List.mem_range, List.length_map] at hi
    show (match (Rs.map toD)[((0 : Int) + (i : Nat)).toNat]? with | some d => _ | none => _) = _
    rw [show ((0 : Int) + (i : Nat)).toNat = i by omega, List.getElem?_map, List.getElem?_eq_getElem hi]
    show (if isV (e_is_route Fe a b c [.d (toD Rs[i])]) (.bool true) = true then _ else _) = _
    rw [hg _ (List.getElem_mem hi)]; rfl)
  refine (for_seq (fr_range _ (by simpa using hl) none) ho).trans ?_
  refine (set_seq (v := .d (.list (svcs.map .str))) (by rfl)).trans ((set_seq (v := .d (.list (limNames.map .str))) (by rfl)).trans ((set_seq (fr_words Rs hl o)).trans ?_))
  have h1 := fr_turn Rs o "no service"
  have h2 := fr_turn Rs o "no limit"
  have h3 := fr_turn Rs o "same route"
  have hw : (jSeq (qTup (qCons (qC (.str ("no service" : Str))) (qCons (qC (.str ("no limit" : Str))) (qCons (qC (.str ("same route" : Str))) (qNil)))))) (τ1 Rs o none) = some [.d (.str "no service"), .d (.str "no limit"), .d (.str "same route")] := by rfl
  show qSeq (qFor _ _ _) _ (τ1 Rs o none) = _
  generalize hb : (qIfS (qTest (qOp (qInV) (qVar 6) (qVar 5))) (qRet (qTup (qCons (qVar 6) (qCons (qMt "list" indexE (qVar 5) (qCons (qVar 6) (qNil))) (qNil))))) (qNext)) = tb at h1 h2 h3 ⊢
  unfold frOut
  cases e1 : idx "no service" (wds [] Rs) with
  | some j =>
    rw [e1] at h1
    refine for_ret hw ?_
    show (some (τ1 Rs o (some (.d (.str "no service"))))).bind _ = _
    show (tb _).bind _ = _
    rw [h1]; rfl
  | none =>
    rw [e1] at h1
    have hr : ∀ r, loopE (.n 6) tb [.d (.str "no limit"), .d (.str "same route")] (τ1 Rs o (some (.d (.str "no service")))) = r → loopE (.n 6) tb [.d (.str "no service"), .d (.str "no limit"), .d (.str "same route")] (τ1 Rs o none) = r := fun r hr => by
      show (tb (τ1 Rs o (some (.d (.str "no service"))))).bind _ = _
      rw [h1]; exact hr
    cases e2 : idx "no limit" (wds [] Rs) with
    | some j =>
      rw [e2] at h2
      refine for_ret hw (hr _ ?_)
      show (tb (τ1 Rs o (some (.d (.str "no limit"))))).bind _ = _
      rw [h2]; rfl
    | none =>
      rw [e2] at h2
      have hr2 : ∀ r, loopE (.n 6) tb [.d (.str "same route")] (τ1 Rs o (some (.d (.str "no limit")))) = r → loopE (.n 6) tb [.d (.str "no limit"), .d (.str "same route")] (τ1 Rs o (some (.d (.str "no service")))) = r := fun r hr => by
        show (tb (τ1 Rs o (some (.d (.str "no limit"))))).bind _ = _
        rw [h2]; exact hr
      cases e3 : idx "same route" (wds [] Rs) with
      | some j =>
        rw [e3] at h3
        refine for_ret hw (hr _ (hr2 _ ?_))
        show (tb (τ1 Rs o (some (.d (.str "same route"))))).bind _ = _
        rw [h3]; rfl
      | none =>
        rw [e3] at h3
        refine (for_seq (τ' := τ1 Rs o (some (.d (.str "same route")))) hw (hr _ (hr2 _ ?_))).trans rfl
        · show (tb (τ1 Rs o (some (.d (.str "same route"))))).bind _ = _
          rw [h3]; rfl
end K47

end

section
set_option Elab.async false
set_option linter.all false
set_option maxRecDepth 100000
set_option maxHeartbeats 4000000
open VS
local macro_rules | `(tactic| walk_at "ev") => `(tactic| simp only [start_1, start_2, start_3, start_4, start_5, startD, List.map_cons, List.map_nil, List.length_cons, List.length_nil, List.replicate, List.cons_append, List.nil_append, Nat.reduceAdd, Nat.reduceSub, dSet, dOp, dVar, dC, dW, gotV, slot, setS, dRet, dRetN, dDrop, dNext, dCall, dCons, dNil, d1, dTest, dTru, truOf, dAnd, dOr, dNot, dAndV, dOrV, dNotV, dIf, dChain, dTup, dLst, oAll, dAll, oSome, rEqV, rNeV, oEq, peek, rIsV, rNotIsV, isNone, rI2, rII, rAddV, rMulV, rMulS, rIsiV, tyOf, gLen, lenOf, gInt, gAbs, gTuple, gList, seqD, seqOf, lsD, gIx, updM_same, updM_updM, isB_int_int, isB_bool_int, isB_str_int, isB_none_int, isB_list_int, isB_tuple_int, isB_dict_int, isB_int_bool, isB_bool_bool, isB_str_bool, isB_none_bool, isB_list_bool, isB_tuple_bool, isB_dict_bool, isB_int_str, isB_bool_str, isB_str_str, isB_none_str, isB_list_str, isB_tuple_str, isB_dict_str, isB_int_tuple, isB_bool_tuple, isB_str_tuple, isB_none_tuple, isB_list_tuple, isB_tuple_tuple, isB_dict_tuple, isB_int_list, isB_bool_list, isB_str_list, isB_none_list, isB_list_list, isB_tuple_list, isB_dict_list, tyOk_int, tyOk_bool, tyOk_str, tyOk_tuple, tyOk_list, tyOk_dict, Bool.not_true, Bool.not_false, if_true, if_false, ite_true, ite_false, Bool.false_eq_true, true_and, and_true, decide_eq_true_eq, Bool.true_eq_false, dAll_of_map, Bool.not_eq_true', decide_eq_false_iff_not, reduceIte, pu1_iff, pu2_iff, pr1_iff, pr2_iff, pr3_iff, pr4_iff, rInV, rNotInV, in_strL, in_strT, in_str2, in_str0, eqOk_int, eqOk_str, eqOk_bool, eqOk_none, eqv_ii, eqv_ss, eqv_bb, str_beq, int_beq, dAsg, bindP, bindNs, lstAt, List.length_map])
local macro_rules | `(tactic| walk_at "lf") => `(tactic| (intro K hK; walk_at "ev"; exact hK))
local macro_rules | `(tactic| walk_at "pt") => `(tactic| first
  | (with_reducible refine or_p ?_ ?_) <;> walk_at "pt"
  | (with_reducible refine and_p ?_ ?_) <;> walk_at "pt"
  | (with_reducible refine not_p ?_) <;> walk_at "pt"
  | walk_at "lf")
local macro_rules | `(tactic| walk_at "q") => `(tactic| simp only [runE, endV, start_1, start_2, start_3, start_4, start_5, startD, List.map_cons, List.map_nil, List.length_cons, List.length_nil, List.replicate, List.cons_append, List.nil_append, Nat.reduceAdd, Nat.reduceSub, Nat.reduceEqDiff, qVar, qC, qW, qOp, qTest, qTru, truOf, qAnd, qOr, qNot, qAndV, qOrV, qNotV, qIf, qChain, qNeg, qNil, qCons, qTup, qLst, qCall, q1, lenE, lenOf, absE, intE, tupE, listE, qIsiV, tyOf, qEqV, qNeV, eqE_ss, eqE_ii, qIsV, qNotIsV, isNone, qI2, qII, qInV, qNotInV, inE_strs, inE_strT, qIx, ixE, qDGet, qAddV, qMulV, qMulS, qNoP, qPart, qSl, slE, qYes, qNext, qSeq, qBreak, qCont, qDrop, qRet, qRetN, qIfS, qAsg, qSet, qAug, slot, setS, bindP, bindNs, asB, asI, asD, seqD, seqOf, lsD, dAll, dAll_of_map, Option.bind_some, Option.bind_none, Option.map_some, Option.map_none, isB_int_int, isB_bool_int, isB_str_int, isB_none_int, isB_list_int, isB_tuple_int, isB_dict_int, isB_int_bool, isB_bool_bool, isB_str_bool, isB_none_bool, isB_list_bool, isB_tuple_bool, isB_dict_bool, isB_int_str, isB_bool_str, isB_str_str, isB_none_str, isB_list_str, isB_tuple_str, isB_dict_str, isB_int_tuple, isB_bool_tuple, isB_str_tuple, isB_none_tuple, isB_list_tuple, isB_tuple_tuple, isB_dict_tuple, isB_int_list, isB_bool_list, isB_str_list, isB_none_list, isB_list_list, isB_tuple_list, isB_dict_list, tyOk_int, tyOk_bool, tyOk_str, tyOk_tuple, tyOk_list, tyOk_dict, Bool.not_true, Bool.not_false, if_true, if_false, ite_true, ite_false, Bool.false_eq_true, true_and, and_true, Bool.true_eq_false, reduceIte, Bool.and_true, Bool.true_and, Bool.and_false, Bool.false_and, decide_true, decide_false, Int.reduceLE, Int.reduceLT, Int.reduceEq, Int.reduceAdd, Int.reduceSub, Int.reduceNeg, Int.cast_ofNat_Int, List.length_map])
namespace K47
open PySem L2 VS
def vB : Option Nat → DV
  | none => .d .none
  | some n => .d (.int (n : Nat))
def fitB (m : Str) (segs : List Str) (r : R) : Bool := decide (m ∈ r.ms) && decide (segs.take r.pre.length = r.pre)
def tst (asked m : Str) (segs : List Str) (r : R) : Bool := decide (r.host = asked) && fitB m segs r
theorem in2 (z h : Str) : qInV (.d (.str z)) (.d (.tuple [.str h, .str "*"])) = BB (decide (z = h ∨ z = "*")) := by
  unfold qInV
  have := inE_strT (z := z) (ws := [h, "*"])
  rw [show (PyData.tuple [.str h, .str "*"]) = .tuple ([h, "*"].map .str) from rfl, this]
  simp
theorem e_fits (r : R) (m h : Str) (segs : List Str) : e_fits_route [.d (toD r), .d (.str m), .d (.str h), .d (txs segs)] = BB (decide (r.host = h ∨ r.host = "*") && fitB m segs r) := by
  unfold e_fits_route g_fits_route fitB
  refine run_rt rfl (ret_rt (andV_q ?_ fun _ => andV_q ?_ fun _ => ?_))
  · exact op_q (x := .d (.str r.host)) (y := .d (.tuple [.str h, .str "*"])) rfl rfl (in2 _ _)
  · exact op_q (x := .d (.str m)) (y := .d (txs r.ms)) rfl rfl (by unfold qInV txs; rw [inE_strT]; rfl)
  · refine (op_q (x := .d (txs (segs.take r.pre.length))) (y := .d (txs r.pre)) ?_ rfl (eqV_pl (n := 1) (Pl.strs _) (Pl.strs _) (by decide))).trans ?_
    · refine call_q (xs := [.d (txs (segs.take r.pre.length))]) (cons_q ?_ rfl) ?_
      · show some (DV.d (.tuple (cutL (segs.map PyData.str) none (some (((r.pre.map PyData.str).length : Nat) : Int))))) = _
        rw [cutL_take, List.length_map]
        unfold txs
        rw [List.map_take]
      · show (dAll _).map _ = _
        unfold txs
        rw [dAll_of_map]; rfl
    · exact congrArg (fun b => some (DV.d (.bool b))) (decide_eq_decide.mpr txs_inj)
/-- what the best becomes -/
def stepB (Rs : List R) (t : R → Bool) (best : Option Nat) (i : Nat) (r : R) : Option Nat :=
  if t r = true then match best with
    | none => some i
    | some b => match Rs[b]? with
      | some q => if q.pre.length < r.pre.length then some i else some b
      | none => some b
  else best
def lg (Rs : List R) (t : R → Bool) : Nat → Option Nat
  | 0 => none
  | n + 1 => match Rs[n]? with
    | some r => stepB Rs t (lg Rs t n) n r
    | none => lg Rs t n
theorem lg_lt (Rs : List R) (t : R → Bool) : ∀ n b, lg Rs t n = some b → b < Rs.length
  | 0, b, h => by cases h
  | n + 1, b, h => by
    unfold lg at h
    cases e : Rs[n]? with
    | none => rw [e] at h; exact lg_lt Rs t n b h
    | some r =>
      rw [e] at h
      have hn : n < Rs.length := (List.getElem?_eq_some_iff.mp e).1
      have ih := lg_lt Rs t n
      simp only [stepB] at h
      split at h
      · split at h
        · cases h; exact hn
        · rename_i b' e2
          split at h
          · split at h
            · cases h; exact hn
            · cases h; exact ih _ e2
          · cases h; exact ih _ e2
      · exact ih _ h
theorem len_pre (r : R) : q1 lenE [.d (txs r.pre)] = some (.d (.int (r.pre.length : Nat))) := by
  show lenE (.d (txs r.pre)) = _
  unfold txs lenE
  show some (DV.d (.int (((r.pre.map PyData.str).length : Nat) : Int))) = _
  rw [List.length_map]
section
variable {Rs : List R} {m h : Str} {segs : List Str}
def τL (Rs : List R) (m h : Str) (segs : List Str) (b : DV) (o p : Option DV) : Ds := [some (.d (.tuple (Rs.map toD))), some (.d (.str m)), some (.d (.str h)), some (.d (txs segs)), some b, o, p]
theorem at_toD {Rs : List R} {i : Nat} {r : R} (e : Rs[i]? = some r) : ixE (.d (.tuple (Rs.map toD))) (i : Nat) = some (.d (toD r)) := ixE_tup (by rw [List.getElem?_map, e]; rfl)
theorem at_toDl {Rs : List R} {i : Nat} {r : R} (e : Rs[i]? = some r) : ixE (.d (.list (Rs.map toD))) (i : Nat) = some (.d (toD r)) := ixE_lst (by rw [List.getElem?_map, e]; rfl)
theorem long_turn (best : Option Nat) (hb : ∀ b, best = some b → b < Rs.length) (i : Nat) (r : R) (e : Rs[i]? = some r) (p : Option DV) :
    (qSeq (qSet (qOp qIx (qVar 0) (qVar 5)) 6) (qIfS (qAnd (qTest (qOp (qEqV) (qOp qIx (qVar 6) (qC (.int 0))) (qVar 2))) (qTru (qCall (e_fits_route) (qCons (qVar 6) (qCons (qVar 1) (qCons (qVar 2) (qCons (qVar 3) (qNil)))))))) (qIfS (qOr (qTest (qOp (qIsV) (qVar 4) (qC .none))) (qTest (qOp (qI2 fun i j => .bool (decide (j < i))) (qCall (q1 lenE) (qCons (qOp qIx (qVar 6) (qC (.int 1))) (qNil))) (qCall (q1 lenE) (qCons (qOp qIx (qOp qIx (qVar 0) (qVar 4)) (qC (.int 1))) (qNil)))))) (qSet (qVar 5) 4) (qNext)) (qNext)))
      (τL Rs m h segs (vB best) (some (.d (.int (i : Nat)))) p) = some (.nx (τL Rs m h segs (vB (stepB Rs (tst h m segs) best i r)) (some (.d (.int (i : Nat)))) (some (.d (toD r))))) := by
  refine (set_seq (v := .d (toD r)) (op_q (r := qIx) (x := .d (.tuple (Rs.map toD))) (y := .d (.int (i : Nat))) rfl rfl (at_toD e))).trans ?_
  have h1 : (qAnd (qTest (qOp (qEqV) (qOp qIx (qVar 6) (qC (.int 0))) (qVar 2))) (qTru (qCall (e_fits_route) (qCons (qVar 6) (qCons (qVar 1) (qCons (qVar 2) (qCons (qVar 3) (qNil)))))))) (setS (τL Rs m h segs (vB best) (some (.d (.int (i : Nat)))) p) 6 (.d (toD r))) = some (tst h m segs r) := by
    refine (and_q (test_q (op_q (x := .d (.str r.host)) (y := .d (.str h)) rfl rfl eqV_ss)) fun _ => tru_q (call_q (xs := [.d (toD r), .d (.str m), .d (.str h), .d (txs segs)]) rfl (e_fits r m h segs))).trans ?_
    unfold tst
    by_cases c : r.host = h
    · rw [decide_eq_true c, decide_eq_true (Or.inl c)]; rfl
    · rw [decide_eq_false c]; rfl
  unfold stepB
  cases c : tst h m segs r with
  | false =>
    rw [c] at h1
    rw [ifs_f h1]; rfl
  | true =>
    rw [c] at h1
    rw [ifs_t h1, if_pos rfl]
    cases best with
    | none =>
      rw [ifs_t (or_q (x := true) (y := true) (test_q (by rfl)) fun h => by cases h)]
      rfl
    | some b =>
      have hlt := hb b rfl
      have e2 : Rs[b]? = some Rs[b] := List.getElem?_eq_getElem hlt
      simp only [e2]
      have h2 : (qOr (qTest (qOp (qIsV) (qVar 4) (qC .none))) (qTest (qOp (qI2 fun i j => .bool (decide (j < i))) (qCall (q1 lenE) (qCons (qOp qIx (qVar 6) (qC (.int 1))) (qNil))) (qCall (q1 lenE) (qCons (qOp qIx (qOp qIx (qVar 0) (qVar 4)) (qC (.int 1))) (qNil)))))) (setS (τL Rs m h segs (vB (some b)) (some (.d (.int (i : Nat)))) p) 6 (.d (toD r))) = some (decide (Rs[b].pre.length < r.pre.length)) := by
        refine (or_q (x := false) (y := decide (Rs[b].pre.length < r.pre.length)) (test_q (by rfl)) fun _ => test_q ?_)
        refine (op_q (call_q (xs := [.d (txs r.pre)]) rfl (len_pre r)) (call_q (xs := [.d (txs Rs[b].pre)]) (cons_q (op_q (r := qIx) (x := .d (toD Rs[b])) (y := .d (.int 1)) (op_q (r := qIx) (x := .d (.tuple (Rs.map toD))) (y := .d (.int (b : Nat))) rfl rfl (at_toD e2)) rfl rfl) rfl) (len_pre Rs[b])) (z := .d (.bool (decide (((Rs[b].pre.length : Nat) : Int) < ((r.pre.length : Nat) : Int))))) rfl).trans ?_
        exact congrArg (fun b => some (DV.d (.bool b))) (decide_eq_decide.mpr Int.ofNat_lt)
      by_cases c2 : Rs[b].pre.length < r.pre.length
      · rw [decide_eq_true c2] at h2
        rw [ifs_t h2]
        simp only [if_pos c2]
        rfl
      · rw [decide_eq_false c2] at h2
        rw [ifs_f h2]
        simp only [if_neg c2]
        rfl
theorem e_long (hl : Rs.length ≤ 1000) : e_longest [.d (.tuple (Rs.map toD)), .d (.str m), .d (.str h), .d (txs segs)] = some (vB (lg Rs (tst h m segs) Rs.length)) := by
  unfold e_longest g_longest
  refine run_rt rfl ((set_seq (v := .d .none) rfl).trans ?_)
  have hi := loop_inv (p := .n 5) (tb := (qSeq (qSet (qOp qIx (qVar 0) (qVar 5)) 6) (qIfS (qAnd (qTest (qOp (qEqV) (qOp qIx (qVar 6) (qC (.int 0))) (qVar 2))) (qTru (qCall (e_fits_route) (qCons (qVar 6) (qCons (qVar 1) (qCons (qVar 2) (qCons (qVar 3) (qNil)))))))) (qIfS (qOr (qTest (qOp (qIsV) (qVar 4) (qC .none))) (qTest (qOp (qI2 fun i j => .bool (decide (j < i))) (qCall (q1 lenE) (qCons (qOp qIx (qVar 6) (qC (.int 1))) (qNil))) (qCall (q1 lenE) (qCons (qOp qIx (qOp qIx (qVar 0) (qVar 4)) (qC (.int 1))) (qNil)))))) (qSet (qVar 5) 4) (qNext)) (qNext))))
    (fun n τ => ∃ o p, τ = τL Rs m h segs (vB (lg Rs (tst h m segs) n)) o p) (rgD 0 Rs.length) 0 (τL Rs m h segs (.d .none) none none) ⟨none, none, rfl⟩ (by
    rintro i x τ hx ⟨o, p, rfl⟩
    rw [Nat.zero_add]
    obtain ⟨hi, rfl⟩ := rgD_at hx
    · have e : Rs[i]? = some Rs[i] := List.getElem?_eq_getElem hi
      refine ⟨_, _, rfl, .inl ?_, some (.d (.int (i : Nat))), some (.d (toD Rs[i])), rfl⟩
      have := long_turn (m := m) (h := h) (segs := segs) (lg Rs (tst h m segs) i) (lg_lt Rs _ i) i Rs[i] e p
      have e3 : lg Rs (tst h m segs) (i + 1) = stepB Rs (tst h m segs) (lg Rs (tst h m segs) i) i Rs[i] := by
        show (match Rs[i]? with | some r => stepB Rs (tst h m segs) (lg Rs (tst h m segs) i) i r | none => lg Rs (tst h m segs) i) = _
        rw [e]
      rw [e3]
      exact this)
  obtain ⟨τ', h1, o, p, rfl⟩ := hi
  refine (for_seq (xs := rgD 0 Rs.length) ?_ h1).trans ?_
  · show rgE [.d (.int ((Rs.map toD).length : Nat))] = _
    rw [List.length_map]; exact rgE_nat (by omega)
  · refine ret_rt ?_
    have : (rgD 0 Rs.length).length = Rs.length := by simp [rgD]
    rw [this, Nat.zero_add]; rfl
theorem e_route (hl : Rs.length ≤ 1000) : e_route_of [.d (.tuple (Rs.map toD)), .d (.str m), .d (.str h), .d (txs segs)] = some (vB (match lg Rs (tst h m segs) Rs.length with | some b => some b | none => lg Rs (tst "*" m segs) Rs.length)) := by
  unfold e_route_of g_route_of
  refine run_rt rfl ((set_seq (call_q (xs := [.d (.tuple (Rs.map toD)), .d (.str m), .d (.str h), .d (txs segs)]) rfl (e_long hl))).trans (ret_rt ?_))
  cases e : lg Rs (tst h m segs) Rs.length with
  | none => exact (qif_t (by rfl)).trans (call_q (xs := [.d (.tuple (Rs.map toD)), .d (.str m), .d (.str "*"), .d (txs segs)]) rfl (e_long hl))
  | some b => rfl
def τD (Rs : List R) (m h : Str) (segs : List Str) (asked : Option DV) (b o p : Option DV) : Ds := [some (.d (.list (Rs.map toD))), some (.d (.str m)), some (.d (.str h)), some (.d (txs segs)), asked, b, o, p]
theorem pl_lst {n : Nat} (zs : List Str) : Pl (n + 1) (.list (zs.map .str)) := Pl.strsL zs
theorem lst_inj {a b : List Str} : (PyData.list (a.map .str)) = .list (b.map .str) ↔ a = b := by
  constructor
  · intro h
    injection h with h
    exact List.map_inj_right (f := PyData.str) (fun x y e => by injection e) |>.mp h
  · intro h; rw [h]
theorem due_turn (asked : Str) (best : Option Nat) (hb : ∀ b, best = some b → b < Rs.length) (i : Nat) (r : R) (e : Rs[i]? = some r) (p : Option DV) :
    (qSeq (qSet (qOp qIx (qVar 0) (qVar 6)) 7) (qIfS (qAnd (qTest (qOp (qEqV) (qOp qIx (qVar 7) (qC (.int 0))) (qVar 4))) (qAnd (qTest (qOp (qInV) (qVar 1) (qOp qIx (qVar 7) (qC (.int 2))))) (qTest (qOp (qEqV) (qCall (q1 listE) (qCons (qOp qIx (qVar 7) (qC (.int 1))) (qNil))) (qSl (qCall (q1 listE) (qCons (qVar 3) (qNil))) qNoP (qPart (qCall (q1 lenE) (qCons (qOp qIx (qVar 7) (qC (.int 1))) (qNil))))))))) (qIfS (qOr (qTest (qOp (qIsV) (qVar 5) (qC .none))) (qTest (qOp (qI2 fun i j => .bool (decide (j < i))) (qCall (q1 lenE) (qCons (qOp qIx (qVar 7) (qC (.int 1))) (qNil))) (qCall (q1 lenE) (qCons (qOp qIx (qOp qIx (qVar 0) (qVar 5)) (qC (.int 1))) (qNil)))))) (qSet (qVar 6) 5) (qNext)) (qNext)))
      (τD Rs m h segs (some (.d (.str asked))) (some (vB best)) (some (.d (.int (i : Nat)))) p) = some (.nx (τD Rs m h segs (some (.d (.str asked))) (some (vB (stepB Rs (tst asked m segs) best i r))) (some (.d (.int (i : Nat)))) (some (.d (toD r))))) := by
  refine (set_seq (v := .d (toD r)) (op_q (r := qIx) (x := .d (.list (Rs.map toD))) (y := .d (.int (i : Nat))) rfl rfl (at_toDl e))).trans ?_
  have h1 : (qAnd (qTest (qOp (qEqV) (qOp qIx (qVar 7) (qC (.int 0))) (qVar 4))) (qAnd (qTest (qOp (qInV) (qVar 1) (qOp qIx (qVar 7) (qC (.int 2))))) (qTest (qOp (qEqV) (qCall (q1 listE) (qCons (qOp qIx (qVar 7) (qC (.int 1))) (qNil))) (qSl (qCall (q1 listE) (qCons (qVar 3) (qNil))) qNoP (qPart (qCall (q1 lenE) (qCons (qOp qIx (qVar 7) (qC (.int 1))) (qNil))))))))) (setS (τD Rs m h segs (some (.d (.str asked))) (some (vB best)) (some (.d (.int (i : Nat)))) p) 7 (.d (toD r))) = some (tst asked m segs r) := by
    refine (and_q (test_q (op_q (x := .d (.str r.host)) (y := .d (.str asked)) rfl rfl eqV_ss)) fun _ => and_q (test_q (op_q (x := .d (.str m)) (y := .d (txs r.ms)) rfl rfl (z := .d (.bool (decide (m ∈ r.ms)))) (by unfold qInV txs; rw [inE_strT]; rfl))) fun _ => test_q (x := decide (segs.take r.pre.length = r.pre)) ?_)
    refine (op_q (x := .d (.list (r.pre.map .str))) (y := .d (.list ((segs.take r.pre.length).map .str))) (call_q (xs := [.d (txs r.pre)]) rfl ?_) ?_ (eqV_pl (n := 1) (Pl.strsL _) (Pl.strsL _) (by decide))).trans ?_
    · show (dAll ((r.pre.map PyData.str).map .d)).map _ = _
      rw [dAll_of_map]; rfl
    · have hs : (qCall (q1 listE) (qCons (qVar 3) (qNil))) (setS (τD Rs m h segs (some (.d (.str asked))) (some (vB best)) (some (.d (.int (i : Nat)))) p) 7 (.d (toD r))) = some (.d (.list (segs.map .str))) := by
        refine call_q (xs := [.d (txs segs)]) rfl ?_
        show (dAll ((segs.map PyData.str).map .d)).map _ = _
        rw [dAll_of_map]; rfl
      show (((qCall (q1 listE) (qCons (qVar 3) (qNil))) _).bind _) = _
      rw [hs]
      show some (DV.d (.list (cutL (segs.map PyData.str) none (some (((r.pre.map PyData.str).length : Nat) : Int))))) = _
      rw [cutL_take, List.length_map, List.map_take]
    · exact congrArg (fun b => some (DV.d (.bool b))) (decide_eq_decide.mpr (lst_inj.trans ⟨Eq.symm, Eq.symm⟩))
  unfold stepB
  cases c : tst asked m segs r with
  | false =>
    rw [c] at h1
    rw [ifs_f h1]; rfl
  | true =>
    rw [c] at h1
    rw [ifs_t h1, if_pos rfl]
    cases best with
    | none =>
      rw [ifs_t (or_q (x := true) (y := true) (test_q (by rfl)) fun h => by cases h)]
      rfl
    | some b =>
      have hlt := hb b rfl
      have e2 : Rs[b]? = some Rs[b] := List.getElem?_eq_getElem hlt
      simp only [e2]
      have h2 : (qOr (qTest (qOp (qIsV) (qVar 5) (qC .none))) (qTest (qOp (qI2 fun i j => .bool (decide (j < i))) (qCall (q1 lenE) (qCons (qOp qIx (qVar 7) (qC (.int 1))) (qNil))) (qCall (q1 lenE) (qCons (qOp qIx (qOp qIx (qVar 0) (qVar 5)) (qC (.int 1))) (qNil)))))) (setS (τD Rs m h segs (some (.d (.str asked))) (some (vB (some b))) (some (.d (.int (i : Nat)))) p) 7 (.d (toD r))) = some (decide (Rs[b].pre.length < r.pre.length)) := by
        refine (or_q (x := false) (y := decide (Rs[b].pre.length < r.pre.length)) (test_q (by rfl)) fun _ => test_q ?_)
        refine (op_q (call_q (xs := [.d (txs r.pre)]) rfl (len_pre r)) (call_q (xs := [.d (txs Rs[b].pre)]) (cons_q (op_q (r := qIx) (x := .d (toD Rs[b])) (y := .d (.int 1)) (op_q (r := qIx) (x := .d (.list (Rs.map toD))) (y := .d (.int (b : Nat))) rfl rfl (at_toDl e2)) rfl rfl) rfl) (len_pre Rs[b])) (z := .d (.bool (decide (((Rs[b].pre.length : Nat) : Int) < ((r.pre.length : Nat) : Int))))) rfl).trans ?_
        exact congrArg (fun b => some (DV.d (.bool b))) (decide_eq_decide.mpr Int.ofNat_lt)
      by_cases c2 : Rs[b].pre.length < r.pre.length
      · rw [decide_eq_true c2] at h2
        rw [ifs_t h2]
        simp only [if_pos c2]
        rfl
      · rw [decide_eq_false c2] at h2
        rw [ifs_f h2]
        simp only [if_neg c2]
        rfl
/-- one asked host -/
theorem due_one (hl : Rs.length ≤ 1000) (asked : Str) (b o p : Option DV) (rest : ES) : ∃ o' p', (qSeq (qSet (qC .none) 5)
  (qSeq (qFor (jRg (qCons (qCall (q1 lenE) (qCons (qVar 0) (qNil))) (qNil))) (.n 6) (qSeq (qSet (qOp qIx (qVar 0) (qVar 6)) 7) (qIfS (qAnd (qTest (qOp (qEqV) (qOp qIx (qVar 7) (qC (.int 0))) (qVar 4))) (qAnd (qTest (qOp (qInV) (qVar 1) (qOp qIx (qVar 7) (qC (.int 2))))) (qTest (qOp (qEqV) (qCall (q1 listE) (qCons (qOp qIx (qVar 7) (qC (.int 1))) (qNil))) (qSl (qCall (q1 listE) (qCons (qVar 3) (qNil))) qNoP (qPart (qCall (q1 lenE) (qCons (qOp qIx (qVar 7) (qC (.int 1))) (qNil))))))))) (qIfS (qOr (qTest (qOp (qIsV) (qVar 5) (qC .none))) (qTest (qOp (qI2 fun i j => .bool (decide (j < i))) (qCall (q1 lenE) (qCons (qOp qIx (qVar 7) (qC (.int 1))) (qNil))) (qCall (q1 lenE) (qCons (qOp qIx (qOp qIx (qVar 0) (qVar 5)) (qC (.int 1))) (qNil)))))) (qSet (qVar 6) 5) (qNext)) (qNext)))) rest)) (τD Rs m h segs (some (.d (.str asked))) b o p) = rest (τD Rs m h segs (some (.d (.str asked))) (some (vB (lg Rs (tst asked m segs) Rs.length))) o' p') := by
  have hi := loop_inv (p := .n 6) (tb := (qSeq (qSet (qOp qIx (qVar 0) (qVar 6)) 7) (qIfS (qAnd (qTest (qOp (qEqV) (qOp qIx (qVar 7) (qC (.int 0))) (qVar 4))) (qAnd (qTest (qOp (qInV) (qVar 1) (qOp qIx (qVar 7) (qC (.int 2))))) (qTest (qOp (qEqV) (qCall (q1 listE) (qCons (qOp qIx (qVar 7) (qC (.int 1))) (qNil))) (qSl (qCall (q1 listE) (qCons (qVar 3) (qNil))) qNoP (qPart (qCall (q1 lenE) (qCons (qOp qIx (qVar 7) (qC (.int 1))) (qNil))))))))) (qIfS (qOr (qTest (qOp (qIsV) (qVar 5) (qC .none))) (qTest (qOp (qI2 fun i j => .bool (decide (j < i))) (qCall (q1 lenE) (qCons (qOp qIx (qVar 7) (qC (.int 1))) (qNil))) (qCall (q1 lenE) (qCons (qOp qIx (qOp qIx (qVar 0) (qVar 5)) (qC (.int 1))) (qNil)))))) (qSet (qVar 6) 5) (qNext)) (qNext))))
    (fun n τ => ∃ o p, τ = τD Rs m h segs (some (.d (.str asked))) (some (vB (lg Rs (tst asked m segs) n))) o p) (rgD 0 Rs.length) 0 (τD Rs m h segs (some (.d (.str asked))) (some (.d .none)) o p) ⟨o, p, rfl⟩ (by
    rintro i x τ hx ⟨o, p, rfl⟩
    rw [Nat.zero_add]
    obtain ⟨hi, rfl⟩ := rgD_at hx
    · have e : Rs[i]? = some Rs[i] := List.getElem?_eq_getElem hi
      refine ⟨_, _, rfl, .inl ?_, some (.d (.int (i : Nat))), some (.d (toD Rs[i])), rfl⟩
      have := due_turn (m := m) (h := h) (segs := segs) asked (lg Rs (tst asked m segs) i) (lg_lt Rs _ i) i Rs[i] e p
      have e3 : lg Rs (tst asked m segs) (i + 1) = stepB Rs (tst asked m segs) (lg Rs (tst asked m segs) i) i Rs[i] := by
        show (match Rs[i]? with | some r => stepB Rs (tst asked m segs) (lg Rs (tst asked m segs) i) i r | none => lg Rs (tst asked m segs) i) = _
        rw [e]
      rw [e3]
      exact this)
  obtain ⟨τ', h1, o', p', rfl⟩ := hi
  have hlen : (rgD 0 Rs.length).length = Rs.length := by simp [rgD]
  rw [hlen, Nat.zero_add] at h1
  refine ⟨o', p', (set_seq (v := .d .none) rfl).trans (for_seq (xs := rgD 0 Rs.length) ?_ h1)⟩
  show rgE [.d (.int ((Rs.map toD).length : Nat))] = _
  rw [List.length_map]; exact rgE_nat (by omega)
theorem e_due (hl : Rs.length ≤ 1000) : e__law_due [.d (.list (Rs.map toD)), .d (.str m), .d (.str h), .d (txs segs)] = some (vB (match lg Rs (tst h m segs) Rs.length with | some b => some b | none => lg Rs (tst "*" m segs) Rs.length)) := by
  unfold e__law_due g__law_due
  have hw : (jSeq (qTup (qCons (qVar 2) (qCons (qC (.str ("*" : Str))) (qNil))))) (startD 8 [.d (.list (Rs.map toD)), .d (.str m), .d (.str h), .d (txs segs)]) = some [.d (.str h), .d (.str "*")] := by rfl
  obtain ⟨o, p, h1⟩ := due_one (m := m) (h := h) (segs := segs) hl h none none none (qIfS (qTest (qOp (qNotIsV) (qVar 5) (qC .none))) (qRet (qVar 5)) (qNext))
  cases e : lg Rs (tst h m segs) Rs.length with
  | some b =>
    rw [e] at h1
    refine run_rt rfl (for_ret hw ?_)
    refine (congrArg (fun o => Option.bind o _) h1).trans ?_
    rfl
  | none =>
    rw [e] at h1
    obtain ⟨o', p', h2⟩ := due_one (m := m) (h := h) (segs := segs) hl "*" (some (vB none)) o p (qIfS (qTest (qOp (qNotIsV) (qVar 5) (qC .none))) (qRet (qVar 5)) (qNext))
    cases e' : lg Rs (tst "*" m segs) Rs.length with
    | some b =>
      rw [e'] at h2
      refine run_rt rfl (for_ret hw ?_)
      refine (congrArg (fun o => Option.bind o _) h1).trans ?_
      refine (congrArg (fun o => Option.bind o _) h2).trans ?_
      rfl
    | none =>
      rw [e'] at h2
      refine run_rt rfl ((for_seq (τ' := τD Rs m h segs (some (.d (.str "*"))) (some (vB none)) o' p') hw ?_).trans rfl)
      refine (congrArg (fun o => Option.bind o _) h1).trans ?_
      refine (congrArg (fun o => Option.bind o _) h2).trans ?_
      rfl
end
end K47

end

section
set_option Elab.async false
set_option linter.all false
set_option maxRecDepth 100000
set_option maxHeartbeats 4000000
open VS
local macro_rules | `(tactic| walk_at "ev") => `(tactic| simp only [start_1, start_2, start_3, start_4, start_5, startD, List.map_cons, List.map_nil, List.length_cons, List.length_nil, List.replicate, List.cons_append, List.nil_append, Nat.reduceAdd, Nat.reduceSub, dSet, dOp, dVar, dC, dW, gotV, slot, setS, dRet, dRetN, dDrop, dNext, dCall, dCons, dNil, d1, dTest, dTru, truOf, dAnd, dOr, dNot, dAndV, dOrV, dNotV, dIf, dChain, dTup, dLst, oAll, dAll, oSome, rEqV, rNeV, oEq, peek, rIsV, rNotIsV, isNone, rI2, rII, rAddV, rMulV, rMulS, rIsiV, tyOf, gLen, lenOf, gInt, gAbs, gTuple, gList, seqD, seqOf, lsD, gIx, updM_same, updM_updM, isB_int_int, isB_bool_int, isB_str_int, isB_none_int, isB_list_int, isB_tuple_int, isB_dict_int, isB_int_bool, isB_bool_bool, isB_str_bool, isB_none_bool, isB_list_bool, isB_tuple_bool, isB_dict_bool, isB_int_str, isB_bool_str, isB_str_str, isB_none_str, isB_list_str, isB_tuple_str, isB_dict_str, isB_int_tuple, isB_bool_tuple, isB_str_tuple, isB_none_tuple, isB_list_tuple, isB_tuple_tuple, isB_dict_tuple, isB_int_list, isB_bool_list, isB_str_list, isB_none_list, isB_list_list, isB_tuple_list, isB_dict_list, tyOk_int, tyOk_bool, tyOk_str, tyOk_tuple, tyOk_list, tyOk_dict, Bool.not_true, Bool.not_false, if_true, if_false, ite_true, ite_false, Bool.false_eq_true, true_and, and_true, decide_eq_true_eq, Bool.true_eq_false, dAll_of_map, Bool.not_eq_true', decide_eq_false_iff_not, reduceIte, pu1_iff, pu2_iff, pr1_iff, pr2_iff, pr3_iff, pr4_iff, rInV, rNotInV, in_strL, in_strT, in_str2, in_str0, eqOk_int, eqOk_str, eqOk_bool, eqOk_none, eqv_ii, eqv_ss, eqv_bb, str_beq, int_beq, dAsg, bindP, bindNs, lstAt, List.length_map])
local macro_rules | `(tactic| walk_at "lf") => `(tactic| (intro K hK; walk_at "ev"; exact hK))
local macro_rules | `(tactic| walk_at "pt") => `(tactic| first
  | (with_reducible refine or_p ?_ ?_) <;> walk_at "pt"
  | (with_reducible refine and_p ?_ ?_) <;> walk_at "pt"
  | (with_reducible refine not_p ?_) <;> walk_at "pt"
  | walk_at "lf")
local macro_rules | `(tactic| walk_at "q") => `(tactic| simp only [runE, endV, start_1, start_2, start_3, start_4, start_5, startD, List.map_cons, List.map_nil, List.length_cons, List.length_nil, List.replicate, List.cons_append, List.nil_append, Nat.reduceAdd, Nat.reduceSub, Nat.reduceEqDiff, qVar, qC, qW, qOp, qTest, qTru, truOf, qAnd, qOr, qNot, qAndV, qOrV, qNotV, qIf, qChain, qNeg, qNil, qCons, qTup, qLst, qCall, q1, lenE, lenOf, absE, intE, tupE, listE, qIsiV, tyOf, qEqV, qNeV, eqE_ss, eqE_ii, qIsV, qNotIsV, isNone, qI2, qII, qInV, qNotInV, inE_strs, inE_strT, qIx, ixE, qDGet, qAddV, qMulV, qMulS, qNoP, qPart, qSl, slE, qYes, qNext, qSeq, qBreak, qCont, qDrop, qRet, qRetN, qIfS, qAsg, qSet, qAug, slot, setS, bindP, bindNs, asB, asI, asD, seqD, seqOf, lsD, dAll, dAll_of_map, Option.bind_some, Option.bind_none, Option.map_some, Option.map_none, isB_int_int, isB_bool_int, isB_str_int, isB_none_int, isB_list_int, isB_tuple_int, isB_dict_int, isB_int_bool, isB_bool_bool, isB_str_bool, isB_none_bool, isB_list_bool, isB_tuple_bool, isB_dict_bool, isB_int_str, isB_bool_str, isB_str_str, isB_none_str, isB_list_str, isB_tuple_str, isB_dict_str, isB_int_tuple, isB_bool_tuple, isB_str_tuple, isB_none_tuple, isB_list_tuple, isB_tuple_tuple, isB_dict_tuple, isB_int_list, isB_bool_list, isB_str_list, isB_none_list, isB_list_list, isB_tuple_list, isB_dict_list, tyOk_int, tyOk_bool, tyOk_str, tyOk_tuple, tyOk_list, tyOk_dict, Bool.not_true, Bool.not_false, if_true, if_false, ite_true, ite_false, Bool.false_eq_true, true_and, and_true, Bool.true_eq_false, reduceIte, Bool.and_true, Bool.true_and, Bool.and_false, Bool.false_and, decide_true, decide_false, Int.reduceLE, Int.reduceLT, Int.reduceEq, Int.reduceAdd, Int.reduceSub, Int.reduceNeg, Int.cast_ofNat_Int, List.length_map])
namespace K47
open PySem L2 VS
/-! ### errors -/
def words : List Str := ["refused", "no route", "none", "limit", "broken", "late"]
theorem e_err (w w' : Str) (c : Int) (t : Str) (sg : Bool) (h : e_is_signs [.d (.str t)] = BB sg) : e_is_error [.d (.tuple [.str w, .int c, .str t]), .d (.str w')] = BB (decide (w = w') && (decide (400 ≤ c) && decide (c ≤ 599)) && (sg && decide ((t.length : Int) ≤ 200))) := by
  unfold e_is_error g_is_error
  have h1 : (qOr (qNot (qTru (qCall (qIsiV) (qCons (qVar 0) (qCons (qW (.ty "tuple")) (qNil)))))) (qOr (qTest (qOp (qNeV) (qCall (q1 lenE) (qCons (qVar 0) (qNil))) (qC (.int 3)))) (qOr (qTest (qOp (qNeV) (qOp qIx (qVar 0) (qC (.int 0))) (qVar 1))) (qNot (qTru (qCall (e_is_within) (qCons (qOp qIx (qVar 0) (qC (.int 1))) (qCons (qC (.int 400)) (qCons (qC (.int 599)) (qNil)))))))))) (startD 2 [.d (.tuple [.str w, .int c, .str t]), .d (.str w')]) = some (!(decide (w = w') && (decide (400 ≤ c) && decide (c ≤ 599)))) := by
    refine (or_q (x := false) (not_q (x := true) (tru_q ?_)) fun _ => or_q (x := false) (test_q ?_) fun _ => or_q (test_q (op_q (x := .d (.str w)) (y := .d (.str w')) rfl rfl neV_ss)) fun _ => not_q (tru_q (call_q (xs := [.d (.int c), .d (.int 400), .d (.int 599)]) rfl (e_within c 400 599)))).trans ?_
    · walk_at "q"
    · walk_at "q"
    · simp only [Bool.false_or, Bool.not_and]
  cases k : (decide (w = w') && (decide (400 ≤ c) && decide (c ≤ 599))) with
  | false =>
    rw [k] at h1
    exact run_rt rfl (if_ret h1 rfl)
  | true =>
    rw [k] at h1
    refine run_rt rfl ((if_skip h1).trans (ret_rt ?_))
    refine andV_q (x := sg) (y := decide ((t.length : Int) ≤ 200)) (call_q (xs := [.d (.str t)]) rfl h) fun _ => ?_
    exact op_q (x := .d (.int (t.length : Nat))) (y := .d (.int 200)) (call_q (xs := [.d (.str t)]) rfl rfl) rfl rfl
theorem err_nt (x : PyData) (w : Str) (h : ∀ ds, x ≠ .tuple ds) (h2 : ∀ es, x ≠ .dict es) : e_is_error [.d x, .d (.str w)] = BB false := by
  unfold e_is_error g_is_error
  refine run_rt rfl (if_ret (or_q (x := true) (y := true) (not_q (x := false) (tru_q ?_)) fun h => by cases h) rfl)
  cases x with
  | tuple ds => exact (h ds rfl).elim
  | dict ds => exact (h2 ds rfl).elim
  | _ => walk_at "q"
theorem err_2 (x y : PyData) (w : Str) : e_is_error [.d (.tuple [x, y]), .d (.str w)] = BB false := by
  unfold e_is_error g_is_error
  refine run_rt rfl (if_ret (or_q (x := false) (y := true) (not_q (x := true) (tru_q ?_)) fun h => or_q (x := true) (y := true) (test_q ?_) fun h => by cases h) rfl)
  · walk_at "q"
  · walk_at "q"
theorem err_true (w w' : Str) (t : PyData) : e_is_error [.d (.tuple [.str w, .bool true, t]), .d (.str w')] = BB false := by
  unfold e_is_error g_is_error
  have h : e_is_within [.d (.bool true), .d (.int 400), .d (.int 599)] = BB false := isV_eq (by decide +kernel)
  refine run_rt rfl (if_ret ((or_q (x := false) (y := true) (not_q (x := true) (tru_q ?_)) fun _ => or_q (x := false) (y := true) (test_q ?_) fun _ => (or_q (test_q (op_q (x := .d (.str w)) (y := .d (.str w')) rfl rfl neV_ss)) fun _ => not_q (x := false) (tru_q (call_q (xs := [.d (.bool true), .d (.int 400), .d (.int 599)]) rfl h))).trans (by rw [Bool.not_false, Bool.or_true]))) rfl)
  · walk_at "q"
  · walk_at "q"
def erd (x : PyData) : PyData := .dict [(.str "errors", x)]
theorem dget_errors (x : PyData) : qDGet (.d (erd x)) (.d (.str "errors")) = some (.d x) := by rfl
/-- errors that are no tuple of six -/
theorem fe_unfit (x : PyData) (h : ∀ ds, x = .tuple ds → ds.length ≠ 6) (hx : ∀ es, x ≠ .dict es) : e_fault_errors [.d (erd x)] = some (.d (.tuple [.str "error", .none])) := by
  unfold e_fault_errors g_fault_errors
  refine run_rt rfl ((set_seq (v := .d x) (op_q rfl rfl (dget_errors x))).trans ?_)
  refine if_ret ?_ rfl
  cases x with
  | tuple ds =>
    refine (or_q (x := false) (y := true) (not_q (x := true) (tru_q ?_)) fun _ => test_q ?_)
    · walk_at "q"
    · refine (op_q (x := .d (.int (ds.length : Nat))) (y := .d (.int 6)) (by walk_at "q") (by rfl) neV_ii).trans ?_
      have := h ds rfl
      rw [decide_eq_false (by omega)]; rfl
  | dict es => exact (hx es rfl).elim
  | _ =>
    refine (or_q (x := true) (y := true) (not_q (x := false) (tru_q ?_)) fun h => by cases h)
    walk_at "q"
def τE (ds : List PyData) (o : Option DV) : Ds := [some (.d (erd (.tuple ds))), some (.d (.tuple ds)), o]
def badE (g : Nat → Bool) : DV → Option DV
  | .d (.int i) => if g i.toNat = true then none else some (.d (.tuple [.str "error", .int i]))
  | _ => none
theorem fe_six (ds : List PyData) (hl : ds.length = 6) (g : Nat → Bool) (hg : ∀ (i : Nat) (d : PyData) (w : Str), ds[i]? = some d → words[i]? = some w → e_is_error [.d d, .d (.str w)] = BB (g i)) :
    (∀ v, [DV.d (.int 0), .d (.int 1), .d (.int 2), .d (.int 3), .d (.int 4), .d (.int 5)].findSome? (badE g) = some v → e_fault_errors [.d (erd (.tuple ds))] = some v) ∧
    ([DV.d (.int 0), .d (.int 1), .d (.int 2), .d (.int 3), .d (.int 4), .d (.int 5)].findSome? (badE g) = none → e_fault_errors [.d (erd (.tuple ds))] = some (.d .none)) := by
  have hs := loop_scan (i := 2) (tb := (qIfS (qNot (qTru (qCall (e_is_error) (qCons (qOp qIx (qVar 1) (qVar 2)) (qCons (qOp qIx (qC c_ERROR_WORDS) (qVar 2)) (qNil)))))) (qRet (qTup (qCons (qC (.str ("error" : Str))) (qCons (qVar 2) (qNil))))) (qNext))) (τE ds) (fun _ _ => rfl) (badE g) [DV.d (.int 0), .d (.int 1), .d (.int 2), .d (.int 3), .d (.int 4), .d (.int 5)] none (by
    intro x hx
    have : ∃ i : Nat, i < 6 ∧ x = .d (.int (i : Nat)) := by
      simp only [List.mem_cons, List.not_mem_nil, or_false] at hx
      rcases hx with rfl | rfl | rfl | rfl | rfl | rfl
      · exact ⟨0, by omega, rfl⟩
      · exact ⟨1, by omega, rfl⟩
      · exact ⟨2, by omega, rfl⟩
      · exact ⟨3, by omega, rfl⟩
      · exact ⟨4, by omega, rfl⟩
      · exact ⟨5, by omega, rfl⟩
    obtain ⟨i, hi, rfl⟩ := this
    have e1 : ds[i]? = some (ds[i]'(by omega)) := List.getElem?_eq_getElem _
    have hw : words.length = 6 := by rfl
    have e2 : words[i]? = some (words[i]'(by omega)) := List.getElem?_eq_getElem _
    have h1 := hg i _ _ e1 e2
    have h2 : qCall (e_is_error) (qCons (qOp qIx (qVar 1) (qVar 2)) (qCons (qOp qIx (qC c_ERROR_WORDS) (qVar 2)) (qNil))) (τE ds (some (.d (.int (i : Nat))))) = BB (g i) :=
      call_q (cons_q (op_q (r := qIx) (x := .d (.tuple ds)) (y := .d (.int (i : Nat))) rfl rfl (ixE_tup e1)) (cons_q (op_q (r := qIx) (x := .d (.tuple (words.map .str))) (y := .d (.int (i : Nat))) rfl rfl (ixE_tup (by rw [List.getElem?_map, e2]; rfl))) rfl)) h1
    have h3 : badE g (.d (.int (i : Nat))) = if g i = true then none else some (.d (.tuple [.str "error", .int (i : Nat)])) := rfl
    rw [h3]
    cases k : g i with
    | true => rw [k] at h2; rw [ifs_f (not_q (x := true) (tru_q h2))]; rfl
    | false => rw [k] at h2; rw [ifs_t (not_q (x := false) (tru_q h2))]; rfl)
  have start : ∀ r, (qSeq (qFor (jRg (qCons (qCall (q1 lenE) (qCons (qVar 1) (qNil))) (qNil))) (.n 2) (qIfS (qNot (qTru (qCall (e_is_error) (qCons (qOp qIx (qVar 1) (qVar 2)) (qCons (qOp qIx (qC c_ERROR_WORDS) (qVar 2)) (qNil)))))) (qRet (qTup (qCons (qC (.str ("error" : Str))) (qCons (qVar 2) (qNil))))) (qNext))) (qRet (qC .none))) (τE ds none) = some (.rt r) → e_fault_errors [.d (erd (.tuple ds))] = some r := fun r h => by
    unfold e_fault_errors g_fault_errors
    refine run_rt rfl ((set_seq (v := .d (.tuple ds)) (op_q rfl rfl (dget_errors _))).trans ((if_skip ?_).trans h))
    refine (or_q (x := false) (y := false) (not_q (x := true) (tru_q ?_)) fun _ => test_q ?_)
    · walk_at "q"
    · refine (op_q (x := .d (.int (ds.length : Nat))) (y := .d (.int 6)) (by walk_at "q") (by rfl) neV_ii).trans ?_
      rw [hl]; rfl
  have hw : (jRg (qCons (qCall (q1 lenE) (qCons (qVar 1) (qNil))) (qNil))) (τE ds none) = some [DV.d (.int 0), .d (.int 1), .d (.int 2), .d (.int 3), .d (.int 4), .d (.int 5)] := by
    show rgE [.d (.int (ds.length : Nat))] = _
    rw [hl]; rfl
  constructor
  · intro v hv
    exact start v (for_ret hw (hs.1 v hv))
  · intro hn
    obtain ⟨o, ho⟩ := hs.2 hn
    exact start _ ((for_seq hw ho).trans rfl)
theorem fe_all (ds : List PyData) (hl : ds.length = 6) (hg : ∀ (i : Nat) (d : PyData) (w : Str), ds[i]? = some d → words[i]? = some w → e_is_error [.d d, .d (.str w)] = BB true) : e_fault_errors [.d (erd (.tuple ds))] = some (.d .none) :=
  (fe_six ds hl (fun _ => true) hg).2 (by rfl)
theorem fe_at (ds : List PyData) (hl : ds.length = 6) (at_ : Nat) (ha : at_ < 6) (hg : ∀ (i : Nat) (d : PyData) (w : Str), ds[i]? = some d → words[i]? = some w → e_is_error [.d d, .d (.str w)] = BB (!decide (i = at_))) : e_fault_errors [.d (erd (.tuple ds))] = some (.d (.tuple [.str "error", .int (at_ : Nat)])) := by
  refine (fe_six ds hl (fun i => !decide (i = at_)) hg).1 _ ?_
  have : at_ = 0 ∨ at_ = 1 ∨ at_ = 2 ∨ at_ = 3 ∨ at_ = 4 ∨ at_ = 5 := by omega
  rcases this with rfl | rfl | rfl | rfl | rfl | rfl <;> rfl
theorem e_errrow (ds : List PyData) (i : Nat) (w : Str) (d : List PyData) (hw : idx w words = some i) (hd : ds[i]? = some (.tuple d)) : e_error_row [.d (.tuple ds), .d (.str w)] = some (.d (.tuple (d.drop 1))) := by
  unfold e_error_row g_error_row
  refine run_rt rfl (ret_rt ?_)
  have h1 : qCIdx w_ERROR_WORDS (qVar 1) (startD 2 [.d (.tuple ds), .d (.str w)]) = some (.d (.int (i : Nat))) := by
    show (idx w words).map _ = _
    rw [hw]; rfl
  have h2 : qOp qIx (qVar 0) (qCIdx w_ERROR_WORDS (qVar 1)) (startD 2 [.d (.tuple ds), .d (.str w)]) = some (.d (.tuple d)) := op_q (r := qIx) rfl h1 (ixE_tup hd)
  show ((qOp qIx (qVar 0) (qCIdx w_ERROR_WORDS (qVar 1)) _).bind _) = _
  rw [h2]
  show some (DV.d (.tuple (cutL d (some ((1 : Nat) : Int)) none))) = _
  rw [cutL_drop]
/-! ### _law_same -/
def lsame (r o : R) : Bool := decide (r.host = o.host) && (decide (r.pre = o.pre) && !(r.ms.filter fun m => decide (m ∈ o.ms)).isEmpty)
theorem e_lsame (r o : R) : e__law_same [.d (toD r), .d (toD o)] = BB (lsame r o) := by
  unfold e__law_same g__law_same
  refine run_rt rfl (ret_rt (andV_q (op_q (x := .d (.str r.host)) (y := .d (.str o.host)) rfl rfl eqV_ss) fun _ => andV_q ?_ fun _ => ?_))
  · refine (op_q (x := .d (txs r.pre)) (y := .d (txs o.pre)) rfl rfl (eqV_pl (n := 1) (Pl.strs _) (Pl.strs _) (by decide))).trans ?_
    exact congrArg (fun b => some (DV.d (.bool b))) (decide_eq_decide.mpr txs_inj)
  · have h1 := qLcF (fun z => .str z) (wi := jSeq (qOp qIx (qVar 0) (qC (.int 2)))) (p := .n 2) (tt := qTest (qOp (qInV) (qVar 2) (qOp qIx (qVar 1) (qC (.int 2))))) (te := qVar 2) (vs := [2]) (τ := startD 3 [.d (toD r), .d (toD o)]) (fun m => decide (m ∈ o.ms)) (fun z => .str z) r.ms rfl fun z _ => ⟨_, rfl, test_q (op_q (x := .d (.str z)) (y := .d (txs o.ms)) rfl rfl (by unfold qInV txs; rw [inE_strT]; rfl)), fun _ => rfl⟩
    refine (op_q h1 (y := .d (.list [])) rfl (neV_pl (n := 1) (Pl.strsL _) (Pl.strsL []) (by decide))).trans ?_
    refine congrArg (fun b => some (DV.d (.bool b))) ?_
    cases r.ms.filter (fun m => decide (m ∈ o.ms)) with
    | nil => rfl
    | cons x xs => simp
theorem lsame_eq (r o : R) : lsame r o = same r o := by
  unfold lsame same
  rw [← Bool.and_assoc, Bool.decide_and]
  congr 1
  rw [Bool.eq_iff_iff, Bool.not_eq_true', List.isEmpty_eq_false_iff_exists_mem, List.any_eq_true]
  simp only [List.mem_filter]
end K47

end

section
set_option Elab.async false
set_option linter.all false
set_option maxRecDepth 100000
set_option maxHeartbeats 4000000
open VS
local macro_rules | `(tactic| walk_at "ev") => `(tactic| simp only [start_1, start_2, start_3, start_4, start_5, startD, List.map_cons, List.map_nil, List.length_cons, List.length_nil, List.replicate, List.cons_append, List.nil_append, Nat.reduceAdd, Nat.reduceSub, dSet, dOp, dVar, dC, dW, gotV, slot, setS, dRet, dRetN, dDrop, dNext, dCall, dCons, dNil, d1, dTest, dTru, truOf, dAnd, dOr, dNot, dAndV, dOrV, dNotV, dIf, dChain, dTup, dLst, oAll, dAll, oSome, rEqV, rNeV, oEq, peek, rIsV, rNotIsV, isNone, rI2, rII, rAddV, rMulV, rMulS, rIsiV, tyOf, gLen, lenOf, gInt, gAbs, gTuple, gList, seqD, seqOf, lsD, gIx, updM_same, updM_updM, isB_int_int, isB_bool_int, isB_str_int, isB_none_int, isB_list_int, isB_tuple_int, isB_dict_int, isB_int_bool, isB_bool_bool, isB_str_bool, isB_none_bool, isB_list_bool, isB_tuple_bool, isB_dict_bool, isB_int_str, isB_bool_str, isB_str_str, isB_none_str, isB_list_str, isB_tuple_str, isB_dict_str, isB_int_tuple, isB_bool_tuple, isB_str_tuple, isB_none_tuple, isB_list_tuple, isB_tuple_tuple, isB_dict_tuple, isB_int_list, isB_bool_list, isB_str_list, isB_none_list, isB_list_list, isB_tuple_list, isB_dict_list, tyOk_int, tyOk_bool, tyOk_str, tyOk_tuple, tyOk_list, tyOk_dict, Bool.not_true, Bool.not_false, if_true, if_false, ite_true, ite_false, Bool.false_eq_true, true_and, and_true, decide_eq_true_eq, Bool.true_eq_false, dAll_of_map, Bool.not_eq_true', decide_eq_false_iff_not, reduceIte, pu1_iff, pu2_iff, pr1_iff, pr2_iff, pr3_iff, pr4_iff, rInV, rNotInV, in_strL, in_strT, in_str2, in_str0, eqOk_int, eqOk_str, eqOk_bool, eqOk_none, eqv_ii, eqv_ss, eqv_bb, str_beq, int_beq, dAsg, bindP, bindNs, lstAt, List.length_map])
local macro_rules | `(tactic| walk_at "lf") => `(tactic| (intro K hK; walk_at "ev"; exact hK))
local macro_rules | `(tactic| walk_at "pt") => `(tactic| first
  | (with_reducible refine or_p ?_ ?_) <;> walk_at "pt"
  | (with_reducible refine and_p ?_ ?_) <;> walk_at "pt"
  | (with_reducible refine not_p ?_) <;> walk_at "pt"
  | walk_at "lf")
local macro_rules | `(tactic| walk_at "q") => `(tactic| simp only [runE, endV, start_1, start_2, start_3, start_4, start_5, startD, List.map_cons, List.map_nil, List.length_cons, List.length_nil, List.replicate, List.cons_append, List.nil_append, Nat.reduceAdd, Nat.reduceSub, Nat.reduceEqDiff, qVar, qC, qW, qOp, qTest, qTru, truOf, qAnd, qOr, qNot, qAndV, qOrV, qNotV, qIf, qChain, qNeg, qNil, qCons, qTup, qLst, qCall, q1, lenE, lenOf, absE, intE, tupE, listE, qIsiV, tyOf, qEqV, qNeV, eqE_ss, eqE_ii, qIsV, qNotIsV, isNone, qI2, qII, qInV, qNotInV, inE_strs, inE_strT, qIx, ixE, qDGet, qAddV, qMulV, qMulS, qNoP, qPart, qSl, slE, qYes, qNext, qSeq, qBreak, qCont, qDrop, qRet, qRetN, qIfS, qAsg, qSet, qAug, slot, setS, bindP, bindNs, asB, asI, asD, seqD, seqOf, lsD, dAll, dAll_of_map, Option.bind_some, Option.bind_none, Option.map_some, Option.map_none, isB_int_int, isB_bool_int, isB_str_int, isB_none_int, isB_list_int, isB_tuple_int, isB_dict_int, isB_int_bool, isB_bool_bool, isB_str_bool, isB_none_bool, isB_list_bool, isB_tuple_bool, isB_dict_bool, isB_int_str, isB_bool_str, isB_str_str, isB_none_str, isB_list_str, isB_tuple_str, isB_dict_str, isB_int_tuple, isB_bool_tuple, isB_str_tuple, isB_none_tuple, isB_list_tuple, isB_tuple_tuple, isB_dict_tuple, isB_int_list, isB_bool_list, isB_str_list, isB_none_list, isB_list_list, isB_tuple_list, isB_dict_list, tyOk_int, tyOk_bool, tyOk_str, tyOk_tuple, tyOk_list, tyOk_dict, Bool.not_true, Bool.not_false, if_true, if_false, ite_true, ite_false, Bool.false_eq_true, true_and, and_true, Bool.true_eq_false, reduceIte, Bool.and_true, Bool.true_and, Bool.and_false, Bool.false_and, decide_true, decide_false, Int.reduceLE, Int.reduceLT, Int.reduceEq, Int.reduceAdd, Int.reduceSub, Int.reduceNeg, Int.cast_ofNat_Int, List.length_map])
namespace K47
open PySem L2 VS
abbrev EndQ (Q : DQ) : DEnds := { nx := fun _ M' => Q (.d .none) M', rt := Q }
structure Row (r : R) : Prop where
  ok : Ok r
  pre : ∀ z ∈ r.pre, z ∈ (["x", "y", "x y"] : List Str)
  svc : r.svc ∈ svcs
  lims : r.lims.all (fun z => decide (z ∈ limNames)) = true
theorem sub_mem : ∀ {l zs : List Str}, zs.Sublist l → zs ∈ subsOf l
  | [], zs, h => by
    cases h
    exact List.mem_cons_self
  | x :: l, zs, h => by
    unfold subsOf
    rw [List.mem_append]
    cases h with
    | cons _ h => exact .inl (sub_mem h)
    | cons_cons _ h => exact .inr (List.mem_map.mpr ⟨_, sub_mem h, rfl⟩)
def S_route : SpD := fun xs M Q => ∃ a, xs = [.w (.ref a)] ∧ Tape M a ∧ ∀ r, Row r → Q (.d (toD r)) M
theorem route_len : ∀ xs M Q, S_route xs M Q → xs.length = 1 := fun _ _ _ ⟨_, e, _⟩ => by rw [e]; rfl
theorem hs_route : ∀ xs M Q, S_route xs M Q → t__law_route S_draw S_pick (EndQ Q) (startD 9 xs) M := by
  rintro xs M Q ⟨a, rfl, ht, hQ⟩
  unfold t__law_route
  refine seq_k fun k e => ?_
  walk_at "ev"
  refine pick_strs (ws := ["*", "*", "a", "b", "a.b"]) ht (by decide) (by decide) fun host hhost => ?_
  subst e
  refine seq_k fun k e => ?_
  walk_at "ev"
  refine lcN_ok ht (fun ds => ∃ n : Nat, n ≤ 8 ∧ ds = rgD 0 n) (fun _ y => ∃ z ∈ (["x", "y", "x y"] : List Str), y = .str z) (fun K hK => ?_) (fun ds _ x _ => ⟨_, rfl, fun M K ht hK => ?_⟩) ?_
  · unfold iRg
    walk_at "ev"
    refine pick_ints (ws := [0, 0, 1, 1, 2, 3, 4, 8]) ht (by decide) (by decide) fun n hn => ?_
    have h8 : n ≤ 8 := by
      simp only [List.mem_cons, List.not_mem_nil, or_false] at hn
      omega
    refine ⟨by constructor <;> omega, ?_⟩
    rw [Int.toNat_natCast]
    exact hK _ ⟨n, h8, rfl⟩
  · walk_at "ev"
    exact pick_strs (ws := ["x", "y", "x y"]) ht (by decide) (by decide) fun z hz => hK _ ⟨z, hz, rfl⟩
  · rintro ds ⟨n, hn, rfl⟩ ys hp
    obtain ⟨pre, rfl, hl, hpre⟩ := paired_strs hp
    have hpl : pre.length ≤ 8 := by rw [hl]; simpa [rgD] using hn
    walk_at "ev"
    subst e
    refine seq_k fun k e => ?_
    walk_at "ev"
    refine lcS_ok ht ((["GET", "HEAD", "PUT", "POST", "DELETE"] : List Str).map .str) id (fun k h => h) (stay := fun _ => True) trivial (fun x _ => ⟨_, rfl, fun M K ht hK => ?_, fun M K ht hK => hK⟩) ?_
    · walk_at "ev"
      refine draw_nat (m := 2) ht (by decide) (by decide) fun n _ => ?_
      walk_at "ev"
      exact hK _
    · intro ys hs
      obtain ⟨ms, hms, rfl⟩ := List.sublist_map_iff.mp hs
      rw [List.map_id]
      have hmem := sub_mem hms
      subst e
      refine seq_k fun k e => ifS_k fun k1 k2 e1 e2 => ?_
      have fin : ∀ ms ∈ MS, k [some (.w (.ref a)), some (.d (.str host)), some (.d (.tuple (pre.map .str))), some (.d (.list (ms.map .str))), none, none, none, none, none] M := by
        clear e1 e2 hms hs hmem ms
        intro ms hms
        subst e
        refine seq_k fun k e => ?_
        walk_at "ev"
        refine lcN_ok ht (fun ds => ∃ n : Nat, n ≤ 4 ∧ ds = rgD 0 n) (fun _ y => ∃ z ∈ (["p", "q.r"] : List Str), y = .str z) (fun K hK => ?_) (fun ds _ x _ => ⟨_, rfl, fun M K ht hK => ?_⟩) ?_
        · unfold iRg
          walk_at "ev"
          refine draw_nat (m := 5) ht (by decide) (by decide) fun n hn => ?_
          refine ⟨by constructor <;> omega, ?_⟩
          rw [Int.toNat_natCast]
          exact hK _ ⟨n, by omega, rfl⟩
        · walk_at "ev"
          exact pick_strs (ws := ["p", "q.r"]) ht (by decide) (by decide) fun z hz => hK _ ⟨z, hz, rfl⟩
        rintro ds ⟨np, hnp, rfl⟩ ys hp
        obtain ⟨put, rfl, hl, hput⟩ := paired_strs hp
        have hputl : put.length ≤ 4 := by rw [hl]; simpa [rgD] using hnp
        walk_at "ev"
        subst e
        refine seq_k fun k e => ?_
        show dSl _ _ _ _ _ _
        unfold dSl dPart dNoP
        walk_at "ev"
        refine draw_nat (m := 5) ht (by decide) (by decide) fun nl hnl => ?_
        refine gSl_lst ?_
        rw [cutL_take]
        have hcut : ∃ ls ∈ LS, (ls.all (fun z => decide (z ∈ limNames)) = true) ∧ (([.str "few", .str "slow", .str "mid", .str "big"] : List PyData).take nl) = ls.map .str := by
          have : nl = 0 ∨ nl = 1 ∨ nl = 2 ∨ nl = 3 ∨ nl = 4 := by omega
          rcases this with rfl | rfl | rfl | rfl | rfl
          · exact ⟨[], by decide, by decide, rfl⟩
          · exact ⟨["few"], by decide, by decide, rfl⟩
          · exact ⟨["few", "slow"], by decide, by decide, rfl⟩
          · exact ⟨["few", "slow", "mid"], by decide, by decide, rfl⟩
          · exact ⟨["few", "slow", "mid", "big"], by decide, by decide, rfl⟩
        obtain ⟨lims, hlims, hlims2, hcut⟩ := hcut
        rw [hcut]
        clear hcut
        walk_at "ev"
        subst e
        refine seq_k fun k e => ?_
        walk_at "ev"
        refine pick_strs (ws := ["web", "files"]) ht (by decide) (by decide) fun svc hsvc => ?_
        subst e
        walk_at "ev"
        refine draw_int ht (by omega) (by omega) fun tk htk => ?_
        walk_at "ev"
        refine draw_nat (m := 1000) ht (by decide) (by decide) fun wt hwt => ?_
        walk_at "ev"
        refine draw_nat (m := 3) ht (by decide) (by decide) fun tr htr => ?_
        walk_at "ev"
        refine hQ ⟨host, pre, ms, svc, tk, put, lims, 1 + wt, 1 + tr⟩ ⟨⟨?_, ?_, hpl, hms, ?_, ?_, hput, hputl, hlims, ?_, ?_, ?_, ?_⟩, hpre, hsvc, hlims2⟩
        · simp only [List.mem_cons, List.not_mem_nil, or_false] at hhost ⊢
          rcases hhost with h | h | h | h | h <;> simp [h]
        · intro z hz
          have := hpre z hz
          simp only [List.mem_cons, List.not_mem_nil, or_false] at this ⊢
          rcases this with h | h | h <;> simp [h]
        all_goals (simp only; omega)
      refine st_k (v := decide (ms = [])) (test_q ((op_q rfl rfl (eqV_pl (n := 1) (Pl.strsL ms) (Pl.strsL []) (by decide))).trans (congrArg (fun b => some (DV.d (.bool b))) (decide_eq_decide.mpr (lst_inj (b := [])))))) ?_
      by_cases c : ms = []
      · rw [decide_eq_true c, if_pos rfl]
        subst e1
        walk_at "ev"
        exact fin ["GET"] (by decide)
      · rw [decide_eq_false c, if_neg Bool.false_ne_true]
        subst e2
        refine fin ms (List.mem_filter.mpr ⟨hmem, ?_⟩)
        cases ms with
        | nil => exact (c rfl).elim
        | cons _ _ => rfl
end K47

end

section
set_option Elab.async false
set_option linter.all false
set_option maxRecDepth 100000
set_option maxHeartbeats 4000000
open VS
local macro_rules | `(tactic| walk_at "ev") => `(tactic| simp only [start_1, start_2, start_3, start_4, start_5, startD, List.map_cons, List.map_nil, List.length_cons, List.length_nil, List.replicate, List.cons_append, List.nil_append, Nat.reduceAdd, Nat.reduceSub, dSet, dOp, dVar, dC, dW, gotV, slot, setS, dRet, dRetN, dDrop, dNext, dCall, dCons, dNil, d1, dTest, dTru, truOf, dAnd, dOr, dNot, dAndV, dOrV, dNotV, dIf, dChain, dTup, dLst, oAll, dAll, oSome, rEqV, rNeV, oEq, peek, rIsV, rNotIsV, isNone, rI2, rII, rAddV, rMulV, rMulS, rIsiV, tyOf, gLen, lenOf, gInt, gAbs, gTuple, gList, seqD, seqOf, lsD, gIx, updM_same, updM_updM, isB_int_int, isB_bool_int, isB_str_int, isB_none_int, isB_list_int, isB_tuple_int, isB_dict_int, isB_int_bool, isB_bool_bool, isB_str_bool, isB_none_bool, isB_list_bool, isB_tuple_bool, isB_dict_bool, isB_int_str, isB_bool_str, isB_str_str, isB_none_str, isB_list_str, isB_tuple_str, isB_dict_str, isB_int_tuple, isB_bool_tuple, isB_str_tuple, isB_none_tuple, isB_list_tuple, isB_tuple_tuple, isB_dict_tuple, isB_int_list, isB_bool_list, isB_str_list, isB_none_list, isB_list_list, isB_tuple_list, isB_dict_list, tyOk_int, tyOk_bool, tyOk_str, tyOk_tuple, tyOk_list, tyOk_dict, Bool.not_true, Bool.not_false, if_true, if_false, ite_true, ite_false, Bool.false_eq_true, true_and, and_true, decide_eq_true_eq, Bool.true_eq_false, dAll_of_map, Bool.not_eq_true', decide_eq_false_iff_not, reduceIte, pu1_iff, pu2_iff, pr1_iff, pr2_iff, pr3_iff, pr4_iff, rInV, rNotInV, in_strL, in_strT, in_str2, in_str0, eqOk_int, eqOk_str, eqOk_bool, eqOk_none, eqv_ii, eqv_ss, eqv_bb, str_beq, int_beq, dAsg, bindP, bindNs, lstAt, List.length_map])
local macro_rules | `(tactic| walk_at "lf") => `(tactic| (intro K hK; walk_at "ev"; exact hK))
local macro_rules | `(tactic| walk_at "pt") => `(tactic| first
  | (with_reducible refine or_p ?_ ?_) <;> walk_at "pt"
  | (with_reducible refine and_p ?_ ?_) <;> walk_at "pt"
  | (with_reducible refine not_p ?_) <;> walk_at "pt"
  | walk_at "lf")
local macro_rules | `(tactic| walk_at "q") => `(tactic| simp only [runE, endV, start_1, start_2, start_3, start_4, start_5, startD, List.map_cons, List.map_nil, List.length_cons, List.length_nil, List.replicate, List.cons_append, List.nil_append, Nat.reduceAdd, Nat.reduceSub, Nat.reduceEqDiff, qVar, qC, qW, qOp, qTest, qTru, truOf, qAnd, qOr, qNot, qAndV, qOrV, qNotV, qIf, qChain, qNeg, qNil, qCons, qTup, qLst, qCall, q1, lenE, lenOf, absE, intE, tupE, listE, qIsiV, tyOf, qEqV, qNeV, eqE_ss, eqE_ii, qIsV, qNotIsV, isNone, qI2, qII, qInV, qNotInV, inE_strs, inE_strT, qIx, ixE, qDGet, qAddV, qMulV, qMulS, qNoP, qPart, qSl, slE, qYes, qNext, qSeq, qBreak, qCont, qDrop, qRet, qRetN, qIfS, qAsg, qSet, qAug, slot, setS, bindP, bindNs, asB, asI, asD, seqD, seqOf, lsD, dAll, dAll_of_map, Option.bind_some, Option.bind_none, Option.map_some, Option.map_none, isB_int_int, isB_bool_int, isB_str_int, isB_none_int, isB_list_int, isB_tuple_int, isB_dict_int, isB_int_bool, isB_bool_bool, isB_str_bool, isB_none_bool, isB_list_bool, isB_tuple_bool, isB_dict_bool, isB_int_str, isB_bool_str, isB_str_str, isB_none_str, isB_list_str, isB_tuple_str, isB_dict_str, isB_int_tuple, isB_bool_tuple, isB_str_tuple, isB_none_tuple, isB_list_tuple, isB_tuple_tuple, isB_dict_tuple, isB_int_list, isB_bool_list, isB_str_list, isB_none_list, isB_list_list, isB_tuple_list, isB_dict_list, tyOk_int, tyOk_bool, tyOk_str, tyOk_tuple, tyOk_list, tyOk_dict, Bool.not_true, Bool.not_false, if_true, if_false, ite_true, ite_false, Bool.false_eq_true, true_and, and_true, Bool.true_eq_false, reduceIte, Bool.and_true, Bool.true_and, Bool.and_false, Bool.false_and, decide_true, decide_false, Int.reduceLE, Int.reduceLT, Int.reduceEq, Int.reduceAdd, Int.reduceSub, Int.reduceNeg, Int.cast_ofNat_Int, List.length_map])
namespace K47
open PySem L2 VS
/-- no two take the same request -/
def Apart (Rs : List R) : Prop := Rs.Pairwise fun o r => same r o = false
def S_routes : SpD := fun xs M Q => ∃ a, xs = [.w (.ref a)] ∧ Tape M a ∧ ∀ Rs : List R, Rs.length ≤ 40 → (∀ r ∈ Rs, Row r) → Apart Rs → Q (.d (.list (Rs.map toD))) M
theorem routes_len : ∀ xs M Q, S_routes xs M Q → xs.length = 1 := fun _ _ _ ⟨_, e, _⟩ => by rw [e]; rfl
theorem hs_routes : ∀ xs M Q, S_routes xs M Q → t__law_routes S_pick S_draw (SpE e__law_same) S_route (EndQ Q) (startD 5 xs) M := by
  rintro xs M Q ⟨a, rfl, ht, hQ⟩
  unfold t__law_routes
  refine seq_k fun k e => ?_
  walk_at "ev"
  unfold dLstM
  walk_at "ev"
  intro D hD
  subst e
  refine seq_k fun k e => ?_
  have ht1 := tape_upd (o := .lst []) ht hD
  have haD : a ≠ D := fun e => by subst e; rw [ht] at hD; cases hD
  unfold dFor iRg
  walk_at "ev"
  refine draw_nat (m := 13) ht1 (by decide) (by decide) fun n1 h1 => ?_
  walk_at "ev"
  refine draw_nat (m := 13) ht1 (by decide) (by decide) fun n2 h2 => ?_
  walk_at "ev"
  refine pick_ints (ws := [n1, n2, 120]) ht1 (by simp) (by simp) fun n hn => ?_
  have h8 : n ≤ 120 := by
    simp only [List.mem_cons, List.not_mem_nil, or_false] at hn
    omega
  refine ⟨by constructor <;> omega, ?_⟩
  rw [Int.toNat_natCast]
  refine loopD_inv (fun τ M1 => ∃ (Rs : List R) (o p q : Option DV), τ = [some (.w (.ref a)), some (.w (.ref D)), o, p, q] ∧ M1 = updM M D (.lst ((Rs.map toD).map .d)) ∧ Rs.length ≤ 40 ∧ (∀ r ∈ Rs, Row r) ∧ Apart Rs) (fun _ _ _ => trivial) ?_ _ ?_ _ _ ⟨[], none, none, none, rfl, rfl, by decide, (fun _ h => by cases h), List.Pairwise.nil⟩
  · rintro τ M1 ⟨Rs, o, p, q, rfl, rfl, hl, hr, hap⟩
    show k _ _
    subst e
    unfold dFrz
    walk_at "ev"
    have h := hQ Rs hl hr hap
    simp only [lstO, updM_same, oSome, dAll_of_map, delM_upd hD]
    exact h
  · rintro x hx τ M1 ⟨Rs, o, p, q, rfl, rfl, hl, hr, hap⟩
    refine ⟨_, rfl, fun E' er eb hnx hct => ?_⟩
    clear h1 h2 hn e hx
    have ht2 := tape_upd (o := .lst ((Rs.map toD).map .d)) ht hD
    refine seq_k fun k e => ?_
    walk_at "ev"
    refine ⟨a, rfl, ht2, fun r hrow => ?_⟩
    subst e
    refine ifS_k fun k1 k2 e1 e2 => ?_
    refine and_p (b := decide (Rs.length < 40)) (c := !(Rs.any (same r))) (fun K hK => ?_) (not_p (tru_p (anyA_p toD Rs (same r) (stay := fun M' => lstAt (M' D) = some ((Rs.map toD).map .d)) (fun K hK => ?_) ?_ fun o ho => ?_))) _ ?_
    · walk_at "ev"
      rw [decide_eq_decide.mpr (show ((Rs.length : Nat) : Int) < 40 ↔ Rs.length < 40 by omega)]
      exact hK
    · unfold iSeq
      walk_at "ev"
      unfold itOf
      simp only [updM_same, lstAt, oSome]
      exact hK
    · simp only [updM_same, lstAt]
    · refine ⟨_, rfl, fun M K hK => ?_⟩
      refine spE_k (e_lsame r o) ?_
      rw [lsame_eq]; exact hK
    · cases c : decide (Rs.length < 40) && !(Rs.any (same r)) with
      | true =>
        rw [if_pos rfl]
        subst e1
        rw [Bool.and_eq_true, Bool.not_eq_true', decide_eq_true_eq] at c
        unfold dDrop dMt mAppend
        walk_at "ev"
        unfold tyM
        refine ⟨⟨rfl, _, by rw [updM_same]; rfl⟩, ?_⟩
        simp only [updM_same, lstO, oSome, updM_updM]
        refine ⟨by simp only [List.length_map]; exact Nat.lt_of_lt_of_le c.1 (by decide), ?_⟩
        refine hnx _ _ ⟨Rs ++ [r], _, _, _, rfl, by simp, by simp; omega, fun r' h' => ?_, ?_⟩
        · rcases List.mem_append.mp h' with h' | h'
          · exact hr r' h'
          · rw [List.mem_singleton.mp h']; exact hrow
        · refine List.pairwise_append.mpr ⟨hap, List.pairwise_singleton _ _, fun o ho r' h' => ?_⟩
          rw [List.mem_singleton.mp h']
          have := c.2
          rw [List.any_eq_false] at this
          simpa using this o ho
      | false =>
        rw [if_neg Bool.false_ne_true]
        subst e2
        exact hnx _ _ ⟨Rs, _, _, _, rfl, rfl, hl, hr, hap⟩
end K47

end

section
set_option Elab.async false
set_option linter.all false
set_option maxRecDepth 100000
set_option maxHeartbeats 4000000
open VS
local macro_rules | `(tactic| walk_at "ev") => `(tactic| simp only [start_1, start_2, start_3, start_4, start_5, startD, List.map_cons, List.map_nil, List.length_cons, List.length_nil, List.replicate, List.cons_append, List.nil_append, Nat.reduceAdd, Nat.reduceSub, dSet, dOp, dVar, dC, dW, gotV, slot, setS, dRet, dRetN, dDrop, dNext, dCall, dCons, dNil, d1, dTest, dTru, truOf, dAnd, dOr, dNot, dAndV, dOrV, dNotV, dIf, dChain, dTup, dLst, oAll, dAll, oSome, rEqV, rNeV, oEq, peek, rIsV, rNotIsV, isNone, rI2, rII, rAddV, rMulV, rMulS, rIsiV, tyOf, gLen, lenOf, gInt, gAbs, gTuple, gList, seqD, seqOf, lsD, gIx, updM_same, updM_updM, isB_int_int, isB_bool_int, isB_str_int, isB_none_int, isB_list_int, isB_tuple_int, isB_dict_int, isB_int_bool, isB_bool_bool, isB_str_bool, isB_none_bool, isB_list_bool, isB_tuple_bool, isB_dict_bool, isB_int_str, isB_bool_str, isB_str_str, isB_none_str, isB_list_str, isB_tuple_str, isB_dict_str, isB_int_tuple, isB_bool_tuple, isB_str_tuple, isB_none_tuple, isB_list_tuple, isB_tuple_tuple, isB_dict_tuple, isB_int_list, isB_bool_list, isB_str_list, isB_none_list, isB_list_list, isB_tuple_list, isB_dict_list, tyOk_int, tyOk_bool, tyOk_str, tyOk_tuple, tyOk_list, tyOk_dict, Bool.not_true, Bool.not_false, if_true, if_false, ite_true, ite_false, Bool.false_eq_true, true_and, and_true, decide_eq_true_eq, Bool.true_eq_false, dAll_of_map, Bool.not_eq_true', decide_eq_false_iff_not, reduceIte, pu1_iff, pu2_iff, pr1_iff, pr2_iff, pr3_iff, pr4_iff, rInV, rNotInV, in_strL, in_strT, in_str2, in_str0, eqOk_int, eqOk_str, eqOk_bool, eqOk_none, eqv_ii, eqv_ss, eqv_bb, str_beq, int_beq, dAsg, bindP, bindNs, lstAt, List.length_map])
local macro_rules | `(tactic| walk_at "lf") => `(tactic| (intro K hK; walk_at "ev"; exact hK))
local macro_rules | `(tactic| walk_at "pt") => `(tactic| first
  | (with_reducible refine or_p ?_ ?_) <;> walk_at "pt"
  | (with_reducible refine and_p ?_ ?_) <;> walk_at "pt"
  | (with_reducible refine not_p ?_) <;> walk_at "pt"
  | walk_at "lf")
local macro_rules | `(tactic| walk_at "q") => `(tactic| simp only [runE, endV, start_1, start_2, start_3, start_4, start_5, startD, List.map_cons, List.map_nil, List.length_cons, List.length_nil, List.replicate, List.cons_append, List.nil_append, Nat.reduceAdd, Nat.reduceSub, Nat.reduceEqDiff, qVar, qC, qW, qOp, qTest, qTru, truOf, qAnd, qOr, qNot, qAndV, qOrV, qNotV, qIf, qChain, qNeg, qNil, qCons, qTup, qLst, qCall, q1, lenE, lenOf, absE, intE, tupE, listE, qIsiV, tyOf, qEqV, qNeV, eqE_ss, eqE_ii, qIsV, qNotIsV, isNone, qI2, qII, qInV, qNotInV, inE_strs, inE_strT, qIx, ixE, qDGet, qAddV, qMulV, qMulS, qNoP, qPart, qSl, slE, qYes, qNext, qSeq, qBreak, qCont, qDrop, qRet, qRetN, qIfS, qAsg, qSet, qAug, slot, setS, bindP, bindNs, asB, asI, asD, seqD, seqOf, lsD, dAll, dAll_of_map, Option.bind_some, Option.bind_none, Option.map_some, Option.map_none, isB_int_int, isB_bool_int, isB_str_int, isB_none_int, isB_list_int, isB_tuple_int, isB_dict_int, isB_int_bool, isB_bool_bool, isB_str_bool, isB_none_bool, isB_list_bool, isB_tuple_bool, isB_dict_bool, isB_int_str, isB_bool_str, isB_str_str, isB_none_str, isB_list_str, isB_tuple_str, isB_dict_str, isB_int_tuple, isB_bool_tuple, isB_str_tuple, isB_none_tuple, isB_list_tuple, isB_tuple_tuple, isB_dict_tuple, isB_int_list, isB_bool_list, isB_str_list, isB_none_list, isB_list_list, isB_tuple_list, isB_dict_list, tyOk_int, tyOk_bool, tyOk_str, tyOk_tuple, tyOk_list, tyOk_dict, Bool.not_true, Bool.not_false, if_true, if_false, ite_true, ite_false, Bool.false_eq_true, true_and, and_true, Bool.true_eq_false, reduceIte, Bool.and_true, Bool.true_and, Bool.and_false, Bool.false_and, decide_true, decide_false, Int.reduceLE, Int.reduceLT, Int.reduceEq, Int.reduceAdd, Int.reduceSub, Int.reduceNeg, Int.cast_ofNat_Int, List.length_map])
namespace K47
open PySem L2 VS
/-! ### is_route, whatever the addresses -/
theorem fm_congr {f f' : DV → Option Ds} {h h' : EE} (H : ∀ x, ∃ τ τ', f x = some τ ∧ f' x = some τ' ∧ h τ = h' τ') : ∀ xs, fmE f qYes h xs = fmE f' qYes h' xs
  | [] => rfl
  | x :: xs => by
    obtain ⟨τ, τ', h1, h2, h3⟩ := H x
    show (f x).bind _ = (f' x).bind _
    rw [h1, h2]
    show ((h τ).bind asD).bind _ = ((h' τ').bind asD).bind _
    rw [h3, fm_congr H xs]
theorem retC {a a' : EE} {τ τ' : Ds} (h : a τ = a' τ') : qRet a τ = qRet a' τ' := by
  show (a τ).map _ = (a' τ').map _
  rw [h]
theorem andVC {a a' b b' : EE} {τ τ' : Ds} (h : a τ = a' τ') (h2 : b τ = b' τ') : qAndV a b τ = qAndV a' b' τ' := by
  show ((a τ).bind asB).bind _ = ((a' τ').bind asB).bind _
  rw [h, h2]
theorem row_congr {Fe Fe' : Addr → Option EC} {a a' : Addr} (h : Fe a = Fe' a') (x y : DV) : e_is_row_of Fe [x, y, .w (.ref a)] = e_is_row_of Fe' [x, y, .w (.ref a')] := by
  unfold e_is_row_of
  show endV (g_is_row_of Fe [some x, some y, some (.w (.ref a)), none]) = endV (g_is_row_of Fe' [some x, some y, some (.w (.ref a')), none])
  have key : qLc (jSeq (qVar 0)) (.n 3) qYes (qCallA 2 Fe (qCons (qVar 3) qNil)) [3] [some x, some y, some (.w (.ref a)), none] = qLc (jSeq (qVar 0)) (.n 3) qYes (qCallA 2 Fe' (qCons (qVar 3) qNil)) [3] [some x, some y, some (.w (.ref a')), none] := by
    show (itE x).bind _ = (itE x).bind _
    cases itE x with
    | none => rfl
    | some items =>
      show (fmE _ _ _ items).map _ = (fmE _ _ _ items).map _
      exact congrArg (Option.map _) (fm_congr (fun z => ⟨_, _, rfl, rfl, by
        show (Fe a).bind _ = (Fe' a').bind _
        rw [h]; rfl⟩) items)
  refine congrArg endV (retC (andVC rfl (andVC rfl ?_)))
  show ((qLc (jSeq (qVar 0)) (.n 3) qYes (qCallA 2 Fe (qCons (qVar 3) qNil)) [3] [some x, some y, some (.w (.ref a)), none]).bind fun u => some [u]).bind (q1 allE) = ((qLc (jSeq (qVar 0)) (.n 3) qYes (qCallA 2 Fe' (qCons (qVar 3) qNil)) [3] [some x, some y, some (.w (.ref a')), none]).bind fun u => some [u]).bind (q1 allE)
  rw [key]
def Fe0 : Addr → Option EC
  | 1 => some e_is_named
  | 2 => some e_is_plain_segment
  | 3 => some e_is_segment
  | _ => none
def isRt : EC := e_is_route Fe0 1 2 3
variable {Fe : Addr → Option EC} {a b c : Addr}
theorem isRt_eq (H : FeOk Fe a b c) : e_is_route Fe a b c = isRt := by
  have key : ∀ {i : Nat} {m : PyData} {p q : Addr}, Fe p = Fe0 q → qCall (e_is_row_of Fe) (qCons (qVar i) (qCons (qC m) (qCons (qW (.ref p)) qNil))) = qCall (e_is_row_of Fe0) (qCons (qVar i) (qCons (qC m) (qCons (qW (.ref q)) qNil))) := fun {i m p q} h => by
    funext τ
    show ((slot τ i).bind fun x => some [x, .d m, .w (.ref p)]).bind _ = ((slot τ i).bind fun x => some [x, .d m, .w (.ref q)]).bind _
    cases slot τ i with
    | none => rfl
    | some x => exact row_congr h x _
  unfold isRt e_is_route g_is_route
  rw [key (q := 3) (p := c) H.seg, key (q := 2) (p := b) H.plain, key (q := 1) (p := a) H.named]
/-! ### the odd ones -/
def rT : R := ⟨"a.b", ["z"], ["GET", "PUT"], "web", 1, ["p"], ["few"], 5, 2⟩
def rNS : R := { rT with svc := "none" }
def rNL : R := { rT with lims := ["few", "many"] }
def rDup : R := ⟨"a.b", ["z"], ["HEAD", "PUT"], "files", 0, [], [], 1, 1⟩
theorem okT : Ok rT := ⟨by decide, by decide, by decide, by decide +kernel, by decide, by decide, by decide, by decide, by decide +kernel, by decide, by decide, by decide, by decide⟩
theorem okNS : Ok rNS := ⟨by decide, by decide, by decide, by decide +kernel, by decide, by decide, by decide, by decide, by decide +kernel, by decide, by decide, by decide, by decide⟩
theorem okNL : Ok rNL := ⟨by decide, by decide, by decide, by decide +kernel, by decide, by decide, by decide, by decide, by decide +kernel, by decide, by decide, by decide, by decide⟩
theorem okDup : Ok rDup := ⟨by decide, by decide, by decide, by decide +kernel, by decide, by decide, by decide, by decide, by decide +kernel, by decide, by decide, by decide, by decide⟩
/-! ### words -/
abbrev NS : Str := "no service"
abbrev NL : Str := "no limit"
abbrev SR : Str := "same route"
abbrev E0 : Str := ""
abbrev z1 : Str := "z"
abbrev zz : List Str := [z1]
theorem row_z {r : R} (h : Row r) : r.pre ≠ zz := fun e => by
  have := h.pre z1 (by rw [e]; exact List.mem_cons_self)
  revert this; decide
theorem same_ne {r o : R} (h : r.pre ≠ o.pre) : same r o = false := by
  unfold same
  rw [decide_eq_false (fun e => h e.2)]; rfl
theorem wd_row {done : List R} {r : R} (h : Row r) (hd : ∀ o ∈ done, same r o = false) : wd done r = E0 := by
  unfold wd
  rw [if_neg (fun n => n h.svc), if_neg (by rw [h.lims]; decide), if_neg]
  intro e
  obtain ⟨o, ho, hs⟩ := List.any_eq_true.mp e
  rw [hd o ho] at hs; cases hs
theorem wds_rows : ∀ (rs done : List R), (∀ r ∈ rs, Row r) → Apart rs → (∀ r ∈ rs, ∀ o ∈ done, same r o = false) → wds done rs = List.replicate rs.length E0
  | [], _, _, _, _ => rfl
  | r :: rs, done, h1, h2, h3 => by
    have h2 := List.pairwise_cons.mp h2
    show wd done r :: wds (done ++ [r]) rs = _
    rw [wd_row (h1 r List.mem_cons_self) (h3 r List.mem_cons_self), wds_rows rs (done ++ [r]) (fun x hx => h1 x (List.mem_cons_of_mem _ hx)) h2.2 fun x hx o ho => by
      rcases List.mem_append.mp ho with ho | ho
      · exact h3 x (List.mem_cons_of_mem _ hx) o ho
      · rw [List.mem_singleton.mp ho]; exact h2.1 x hx]
    rfl
theorem rep_not {w : Str} (n : Nat) (h : w ≠ E0) : w ∉ List.replicate n E0 := fun e => h (List.eq_of_mem_replicate e)
theorem out_ns {as bs : List Str} (h : NS ∉ as) : frOut (as ++ NS :: bs) = .tuple [.str NS, .int (as.length : Nat)] := by
  unfold frOut; rw [idx_at h]
theorem out_nl {as bs : List Str} (h0 : NS ∉ as ++ NL :: bs) (h : NL ∉ as) : frOut (as ++ NL :: bs) = .tuple [.str NL, .int (as.length : Nat)] := by
  unfold frOut; rw [idx_none h0, idx_at h]
theorem out_sr {as bs : List Str} (h0 : NS ∉ as ++ SR :: bs) (h1 : NL ∉ as ++ SR :: bs) (h : SR ∉ as) : frOut (as ++ SR :: bs) = .tuple [.str SR, .int (as.length : Nat)] := by
  unfold frOut; rw [idx_none h0, idx_none h1, idx_at h]
theorem out_none (n : Nat) : frOut (List.replicate n E0) = .none := by
  unfold frOut; rw [idx_none (rep_not n (by decide)), idx_none (rep_not n (by decide)), idx_none (rep_not n (by decide))]
/-- all of a list are routes -/
theorem all_routes (H : FeOk Fe a b c) {Rs : List R} (h : ∀ r ∈ Rs, Ok r) : ∀ r ∈ Rs, e_is_route Fe a b c [.d (toD r)] = BB true := fun r hr => route_ok H (h r hr)
structure Rows (Rs : List R) : Prop where
  row : ∀ r ∈ Rs, Row r
  ap : Apart Rs
theorem Rows.take {Rs : List R} (h : Rows Rs) (n : Nat) : Rows (Rs.take n) := ⟨fun r hr => h.row r (List.mem_of_mem_take hr), h.ap.sublist (List.take_sublist n Rs)⟩
theorem Rows.drop {Rs : List R} (h : Rows Rs) (n : Nat) : Rows (Rs.drop n) := ⟨fun r hr => h.row r (List.mem_of_mem_drop hr), h.ap.sublist (List.drop_sublist n Rs)⟩
theorem Rows.cross {Rs : List R} (h : Rows Rs) (n : Nat) : ∀ r ∈ Rs.drop n, ∀ o ∈ Rs.take n, same r o = false := fun r hr o ho => by
  have := h.ap
  rw [← List.take_append_drop n Rs] at this
  exact (List.pairwise_append.mp this).2.2 o ho r hr
theorem Rows.z {Rs : List R} (h : Rows Rs) {x : R} (hx : x.pre = zz) : (∀ r ∈ Rs, same r x = false) ∧ ∀ r ∈ Rs, same x r = false :=
  ⟨fun r hr => same_ne (by rw [hx]; exact row_z (h.row r hr)), fun r hr => same_ne (by rw [hx]; exact (row_z (h.row r hr)).symm)⟩
theorem any_false {done : List R} {r : R} (h : ∀ o ∈ done, same r o = false) : done.any (same r) = false := by
  rw [List.any_eq_false]; exact fun o ho => by rw [h o ho]; exact Bool.false_ne_true
theorem wd_T {done : List R} (h : ∀ o ∈ done, same rT o = false) : wd done rT = E0 := by
  unfold wd; rw [if_neg (by decide), if_neg (by decide), any_false h]; rfl
theorem wd_NS (done : List R) : wd done rNS = NS := by unfold wd; rw [if_pos (by decide)]
theorem wd_NL (done : List R) : wd done rNL = NL := by unfold wd; rw [if_neg (by decide), if_pos (by decide)]
theorem wd_Dup {done : List R} (h : rT ∈ done) : wd done rDup = SR := by
  unfold wd
  rw [if_neg (by decide), if_neg (by decide), if_pos (List.any_eq_true.mpr ⟨rT, h, by decide⟩)]
theorem Rows.take_replicate {Rs : List R} (h : Rows Rs) (n : Nat) (hn : n ≤ Rs.length) : wds [] (Rs.take n) = List.replicate n E0 := by
  rw [wds_rows _ [] (h.take n).row (h.take n).ap (fun _ _ _ h => by cases h), List.length_take, Nat.min_eq_left hn]
/-- the words of rows[:at] + [x] + rows[at:], x at z -/
theorem wds_mid {Rs : List R} (h : Rows Rs) (n : Nat) (hn : n ≤ Rs.length) (x : R) (hx : x.pre = zz) (rest : List R) :
    wds [] (Rs.take n ++ x :: (Rs.drop n ++ rest)) = List.replicate n E0 ++ wd (Rs.take n) x :: (List.replicate (Rs.length - n) E0 ++ wds (Rs.take n ++ x :: Rs.drop n) rest) := by
  rw [wds_append, h.take_replicate n hn]
  show _ ++ wd ([] ++ Rs.take n) x :: wds ([] ++ Rs.take n ++ [x]) (Rs.drop n ++ rest) = _
  rw [List.nil_append, wds_append, wds_rows (Rs.drop n) _ (h.drop n).row (h.drop n).ap fun r hr o ho => by
    rcases List.mem_append.mp ho with ho | ho
    · exact h.cross n r hr o ho
    · rw [List.mem_singleton.mp ho]; exact (h.drop n |>.z hx).1 r hr]
  rw [List.length_drop]
  simp
end K47

end

section
set_option Elab.async false
set_option linter.all false
set_option maxRecDepth 100000
set_option maxHeartbeats 4000000
set_option synthInstance.maxHeartbeats 4000000
set_option synthInstance.maxSize 100000
open VS
local macro_rules | `(tactic| walk_at "ev") => `(tactic| simp only [start_1, start_2, start_3, start_4, start_5, startD, List.map_cons, List.map_nil, List.length_cons, List.length_nil, List.replicate, List.cons_append, List.nil_append, Nat.reduceAdd, Nat.reduceSub, dSet, dOp, dVar, dC, dW, gotV, slot, setS, dRet, dRetN, dDrop, dNext, dCall, dCons, dNil, d1, dTest, dTru, truOf, dAnd, dOr, dNot, dAndV, dOrV, dNotV, dIf, dChain, dTup, dLst, oAll, dAll, oSome, rEqV, rNeV, oEq, peek, rIsV, rNotIsV, isNone, rI2, rII, rAddV, rMulV, rMulS, rIsiV, tyOf, gLen, lenOf, gInt, gAbs, gTuple, gList, seqD, seqOf, lsD, gIx, updM_same, updM_updM, isB_int_int, isB_bool_int, isB_str_int, isB_none_int, isB_list_int, isB_tuple_int, isB_dict_int, isB_int_bool, isB_bool_bool, isB_str_bool, isB_none_bool, isB_list_bool, isB_tuple_bool, isB_dict_bool, isB_int_str, isB_bool_str, isB_str_str, isB_none_str, isB_list_str, isB_tuple_str, isB_dict_str, isB_int_tuple, isB_bool_tuple, isB_str_tuple, isB_none_tuple, isB_list_tuple, isB_tuple_tuple, isB_dict_tuple, isB_int_list, isB_bool_list, isB_str_list, isB_none_list, isB_list_list, isB_tuple_list, isB_dict_list, tyOk_int, tyOk_bool, tyOk_str, tyOk_tuple, tyOk_list, tyOk_dict, Bool.not_true, Bool.not_false, if_true, if_false, ite_true, ite_false, Bool.false_eq_true, true_and, and_true, decide_eq_true_eq, Bool.true_eq_false, dAll_of_map, Bool.not_eq_true', decide_eq_false_iff_not, reduceIte, pu1_iff, pu2_iff, pr1_iff, pr2_iff, pr3_iff, pr4_iff, rInV, rNotInV, in_strL, in_strT, in_str2, in_str0, eqOk_int, eqOk_str, eqOk_bool, eqOk_none, eqv_ii, eqv_ss, eqv_bb, str_beq, int_beq, dAsg, bindP, bindNs, lstAt, List.length_map])
local macro_rules | `(tactic| walk_at "lf") => `(tactic| (intro K hK; walk_at "ev"; exact hK))
local macro_rules | `(tactic| walk_at "pt") => `(tactic| first
  | (with_reducible refine or_p ?_ ?_) <;> walk_at "pt"
  | (with_reducible refine and_p ?_ ?_) <;> walk_at "pt"
  | (with_reducible refine not_p ?_) <;> walk_at "pt"
  | walk_at "lf")
local macro_rules | `(tactic| walk_at "q") => `(tactic| simp only [runE, endV, start_1, start_2, start_3, start_4, start_5, startD, List.map_cons, List.map_nil, List.length_cons, List.length_nil, List.replicate, List.cons_append, List.nil_append, Nat.reduceAdd, Nat.reduceSub, Nat.reduceEqDiff, qVar, qC, qW, qOp, qTest, qTru, truOf, qAnd, qOr, qNot, qAndV, qOrV, qNotV, qIf, qChain, qNeg, qNil, qCons, qTup, qLst, qCall, q1, lenE, lenOf, absE, intE, tupE, listE, qIsiV, tyOf, qEqV, qNeV, eqE_ss, eqE_ii, qIsV, qNotIsV, isNone, qI2, qII, qInV, qNotInV, inE_strs, inE_strT, qIx, ixE, qDGet, qAddV, qMulV, qMulS, qNoP, qPart, qSl, slE, qYes, qNext, qSeq, qBreak, qCont, qDrop, qRet, qRetN, qIfS, qAsg, qSet, qAug, slot, setS, bindP, bindNs, asB, asI, asD, seqD, seqOf, lsD, dAll, dAll_of_map, Option.bind_some, Option.bind_none, Option.map_some, Option.map_none, isB_int_int, isB_bool_int, isB_str_int, isB_none_int, isB_list_int, isB_tuple_int, isB_dict_int, isB_int_bool, isB_bool_bool, isB_str_bool, isB_none_bool, isB_list_bool, isB_tuple_bool, isB_dict_bool, isB_int_str, isB_bool_str, isB_str_str, isB_none_str, isB_list_str, isB_tuple_str, isB_dict_str, isB_int_tuple, isB_bool_tuple, isB_str_tuple, isB_none_tuple, isB_list_tuple, isB_tuple_tuple, isB_dict_tuple, isB_int_list, isB_bool_list, isB_str_list, isB_none_list, isB_list_list, isB_tuple_list, isB_dict_list, tyOk_int, tyOk_bool, tyOk_str, tyOk_tuple, tyOk_list, tyOk_dict, Bool.not_true, Bool.not_false, if_true, if_false, ite_true, ite_false, Bool.false_eq_true, true_and, and_true, Bool.true_eq_false, reduceIte, Bool.and_true, Bool.true_and, Bool.and_false, Bool.false_and, decide_true, decide_false, Int.reduceLE, Int.reduceLT, Int.reduceEq, Int.reduceAdd, Int.reduceSub, Int.reduceNeg, Int.cast_ofNat_Int, List.length_map])
namespace K47
open PySem L2 VS
def odds : List PyData := [.tuple [.str "A", .tuple [.str "z"], .tuple [.str "GET", .str "PUT"], .str "web", .int 1, .tuple [.str "p"], .tuple [.str "few"], .int 5, .int 2],
  .tuple [.str "", .tuple [.str "z"], .tuple [.str "GET", .str "PUT"], .str "web", .int 1, .tuple [.str "p"], .tuple [.str "few"], .int 5, .int 2],
  .tuple [.str "a.b", .tuple [.str "a/b"], .tuple [.str "GET", .str "PUT"], .str "web", .int 0, .tuple [.str "p"], .tuple [.str "few"], .int 5, .int 2],
  .tuple [.str "a.b", .tuple [.str "x", .str "x", .str "x", .str "x", .str "x", .str "x", .str "x", .str "x", .str "x"], .tuple [.str "GET", .str "PUT"], .str "web", .int 0, .tuple [.str "p"], .tuple [.str "few"], .int 5, .int 2],
  .tuple [.str "a.b", .tuple [.str "z"], .tuple [], .str "web", .int 1, .tuple [.str "p"], .tuple [.str "few"], .int 5, .int 2],
  .tuple [.str "a.b", .tuple [.str "z"], .tuple [.str "HEAD", .str "GET"], .str "web", .int 1, .tuple [.str "p"], .tuple [.str "few"], .int 5, .int 2],
  .tuple [.str "a.b", .tuple [.str "z"], .tuple [.str "GET", .str "GET"], .str "web", .int 1, .tuple [.str "p"], .tuple [.str "few"], .int 5, .int 2],
  .tuple [.str "a.b", .tuple [.str "z"], .tuple [.str "get"], .str "web", .int 1, .tuple [.str "p"], .tuple [.str "few"], .int 5, .int 2],
  .tuple [.str "a.b", .tuple [.str "z"], .tuple [.str "GET", .str "PUT"], .int 5, .int 1, .tuple [.str "p"], .tuple [.str "few"], .int 5, .int 2],
  .tuple [.str "a.b", .tuple [.str "z"], .tuple [.str "GET", .str "PUT"], .str "web", .int 2, .tuple [.str "p"], .tuple [.str "few"], .int 5, .int 2],
  .tuple [.str "a.b", .tuple [.str "z"], .tuple [.str "GET", .str "PUT"], .str "web", .int (-1), .tuple [.str "p"], .tuple [.str "few"], .int 5, .int 2],
  .tuple [.str "a.b", .tuple [.str "z"], .tuple [.str "GET", .str "PUT"], .str "web", .int 1, .tuple [.str "a b"], .tuple [.str "few"], .int 5, .int 2],
  .tuple [.str "a.b", .tuple [.str "z"], .tuple [.str "GET", .str "PUT"], .str "web", .int 1, .tuple [.str "p", .str "p", .str "p", .str "p", .str "p"], .tuple [.str "few"], .int 5, .int 2],
  .tuple [.str "a.b", .tuple [.str "z"], .tuple [.str "GET", .str "PUT"], .str "web", .int 1, .tuple [.str "p"], .tuple [.str "few", .str "few"], .int 5, .int 2],
  .tuple [.str "a.b", .tuple [.str "z"], .tuple [.str "GET", .str "PUT"], .str "web", .int 1, .tuple [.str "p"], .tuple [.str "a", .str "b", .str "c", .str "d", .str "e"], .int 5, .int 2],
  .tuple [.str "a.b", .tuple [.str "z"], .tuple [.str "GET", .str "PUT"], .str "web", .int 1, .tuple [.str "p"], .tuple [.str "few"], .int 0, .int 2],
  .tuple [.str "a.b", .tuple [.str "z"], .tuple [.str "GET", .str "PUT"], .str "web", .int 1, .tuple [.str "p"], .tuple [.str "few"], .int 1001, .int 2],
  .tuple [.str "a.b", .tuple [.str "z"], .tuple [.str "GET", .str "PUT"], .str "web", .int 1, .tuple [.str "p"], .tuple [.str "few"], .int 5, .int 0],
  .tuple [.str "a.b", .tuple [.str "z"], .tuple [.str "GET", .str "PUT"], .str "web", .int 1, .tuple [.str "p"], .tuple [.str "few"], .int 5, .int 4],
  .tuple [.str "a.b", .tuple [.str "z"], .tuple [.str "GET", .str "PUT"], .str "web", .int 1, .tuple [.str "p"], .tuple [.str "few"], .bool true, .int 2],
  .tuple [.str "a.b", .tuple [.str "z"], .tuple [.str "GET", .str "PUT"], .str "web", .int 1, .tuple [.str "p"], .tuple [.str "few"], .int 5],
  .list [.str "a.b", .tuple [.str "z"], .tuple [.str "GET", .str "PUT"], .str "web", .int 1, .tuple [.str "p"], .tuple [.str "few"], .int 5, .int 2],
  .none]
theorem odds_bad : ∀ x ∈ odds, isRt [.d x] = BB false := by
  have : (odds.all fun x => isV (isRt [.d x]) (.bool false)) = true := by decide +kernel
  exact fun x hx => isV_eq (List.all_eq_true.mp this x hx)
def bents : List PyData := odds.map (fun x => .tuple [.str "route", x]) ++ [.tuple [.str NS, toD rNS], .tuple [.str NL, toD rNL], .tuple [.str SR, toD rT]]
inductive Bent : Str → PyData → Prop
  | odd (x : PyData) : x ∈ odds → Bent "route" x
  | ns : Bent NS (toD rNS)
  | nl : Bent NL (toD rNL)
  | sr : Bent SR (toD rT)
theorem bents_mem {y : PyData} (h : y ∈ bents) : ∃ w x, y = .tuple [.str w, x] ∧ Bent w x := by
  rcases List.mem_append.mp h with h | h
  · obtain ⟨x, hx, rfl⟩ := List.mem_map.mp h
    exact ⟨_, _, rfl, .odd x hx⟩
  · simp only [List.mem_cons, List.not_mem_nil, or_false] at h
    rcases h with rfl | rfl | rfl
    · exact ⟨_, _, rfl, .ns⟩
    · exact ⟨_, _, rfl, .nl⟩
    · exact ⟨_, _, rfl, .sr⟩
def S_bent : SpD := fun xs M Q => ∃ a, xs = [.w (.ref a), .d (toD rT)] ∧ Tape M a ∧ ∀ w x, Bent w x → Q (.d (.tuple [.str w, x])) M
theorem bent_len : ∀ xs M Q, S_bent xs M Q → xs.length = 2 := fun _ _ _ ⟨_, e, _⟩ => by rw [e]; rfl
theorem gIx_lst {ds : List PyData} {M : DH} {Q : DQ} {n : Nat} (hn : n < ds.length) (q : ∀ d ∈ ds, Q (.d d) M) : gIx (.d (.list ds)) (.d (.int (n : Nat))) M Q := by
  have h : atI (ds.map DV.d) (n : Nat) = some (.d ds[n]) := by
    unfold atI ixN
    rw [if_pos (by omega), if_pos (by simpa using hn)]
    simp [hn]
  show oSome (atI (ds.map DV.d) (n : Nat)) _
  rw [h]
  exact q _ (List.getElem_mem hn)
theorem hs_bent : ∀ xs M Q, S_bent xs M Q → t__law_bent S_draw (EndQ Q) (startD 12 xs) M := by
  rintro xs M Q ⟨a, rfl, ht, hQ⟩
  unfold t__law_bent
  refine seq_k fun k e => ss_k (o := .nx [some (.w (.ref a)), some (.d (toD rT)), some (.d (.str "a.b")), some (.d (txs ["z"])), some (.d (txs ["GET", "PUT"])), some (.d (.str "web")), some (.d (.int 1)), some (.d (txs ["p"])), some (.d (txs ["few"])), some (.d (.int 5)), some (.d (.int 2)), none]) (by rfl) ?_
  show k _ _
  subst e
  refine seq_k fun k e => ss_k (o := .nx [some (.w (.ref a)), some (.d (toD rT)), some (.d (.str "a.b")), some (.d (txs ["z"])), some (.d (txs ["GET", "PUT"])), some (.d (.str "web")), some (.d (.int 1)), some (.d (txs ["p"])), some (.d (txs ["few"])), some (.d (.int 5)), some (.d (.int 2)), some (.d (.list bents))]) (by rfl) ?_
  show k _ _
  subst e
  have hl : bents.length = 26 := by rfl
  have hgx : ∀ n : Nat, n < 26 → gIx (.d (.list bents)) (.d (.int (n : Nat))) M Q := fun n hn => gIx_lst (by omega) fun y hy => by
    obtain ⟨w, x, rfl, hb⟩ := bents_mem hy
    exact hQ w x hb
  generalize bents = bs at hl hgx
  walk_at "ev"
  exact draw_nat ht (by omega) (by omega) fun n hn => hgx n (by omega)
end K47

end

section
set_option Elab.async false
set_option linter.all false
set_option maxRecDepth 100000
set_option maxHeartbeats 4000000
set_option synthInstance.maxHeartbeats 4000000
set_option synthInstance.maxSize 100000
open VS
local macro_rules | `(tactic| walk_at "ev") => `(tactic| simp only [start_1, start_2, start_3, start_4, start_5, startD, List.map_cons, List.map_nil, List.length_cons, List.length_nil, List.replicate, List.cons_append, List.nil_append, Nat.reduceAdd, Nat.reduceSub, dSet, dOp, dVar, dC, dW, gotV, slot, setS, dRet, dRetN, dDrop, dNext, dCall, dCons, dNil, d1, dTest, dTru, truOf, dAnd, dOr, dNot, dAndV, dOrV, dNotV, dIf, dChain, dTup, dLst, oAll, dAll, oSome, rEqV, rNeV, oEq, peek, rIsV, rNotIsV, isNone, rI2, rII, rAddV, rMulV, rMulS, rIsiV, tyOf, gLen, lenOf, gInt, gAbs, gTuple, gList, seqD, seqOf, lsD, gIx, updM_same, updM_updM, isB_int_int, isB_bool_int, isB_str_int, isB_none_int, isB_list_int, isB_tuple_int, isB_dict_int, isB_int_bool, isB_bool_bool, isB_str_bool, isB_none_bool, isB_list_bool, isB_tuple_bool, isB_dict_bool, isB_int_str, isB_bool_str, isB_str_str, isB_none_str, isB_list_str, isB_tuple_str, isB_dict_str, isB_int_tuple, isB_bool_tuple, isB_str_tuple, isB_none_tuple, isB_list_tuple, isB_tuple_tuple, isB_dict_tuple, isB_int_list, isB_bool_list, isB_str_list, isB_none_list, isB_list_list, isB_tuple_list, isB_dict_list, tyOk_int, tyOk_bool, tyOk_str, tyOk_tuple, tyOk_list, tyOk_dict, Bool.not_true, Bool.not_false, if_true, if_false, ite_true, ite_false, Bool.false_eq_true, true_and, and_true, decide_eq_true_eq, Bool.true_eq_false, dAll_of_map, Bool.not_eq_true', decide_eq_false_iff_not, reduceIte, pu1_iff, pu2_iff, pr1_iff, pr2_iff, pr3_iff, pr4_iff, rInV, rNotInV, in_strL, in_strT, in_str2, in_str0, eqOk_int, eqOk_str, eqOk_bool, eqOk_none, eqv_ii, eqv_ss, eqv_bb, str_beq, int_beq, dAsg, bindP, bindNs, lstAt, List.length_map])
local macro_rules | `(tactic| walk_at "lf") => `(tactic| (intro K hK; walk_at "ev"; exact hK))
local macro_rules | `(tactic| walk_at "pt") => `(tactic| first
  | (with_reducible refine or_p ?_ ?_) <;> walk_at "pt"
  | (with_reducible refine and_p ?_ ?_) <;> walk_at "pt"
  | (with_reducible refine not_p ?_) <;> walk_at "pt"
  | walk_at "lf")
local macro_rules | `(tactic| walk_at "q") => `(tactic| simp only [runE, endV, start_1, start_2, start_3, start_4, start_5, startD, List.map_cons, List.map_nil, List.length_cons, List.length_nil, List.replicate, List.cons_append, List.nil_append, Nat.reduceAdd, Nat.reduceSub, Nat.reduceEqDiff, qVar, qC, qW, qOp, qTest, qTru, truOf, qAnd, qOr, qNot, qAndV, qOrV, qNotV, qIf, qChain, qNeg, qNil, qCons, qTup, qLst, qCall, q1, lenE, lenOf, absE, intE, tupE, listE, qIsiV, tyOf, qEqV, qNeV, eqE_ss, eqE_ii, qIsV, qNotIsV, isNone, qI2, qII, qInV, qNotInV, inE_strs, inE_strT, qIx, ixE, qDGet, qAddV, qMulV, qMulS, qNoP, qPart, qSl, slE, qYes, qNext, qSeq, qBreak, qCont, qDrop, qRet, qRetN, qIfS, qAsg, qSet, qAug, slot, setS, bindP, bindNs, asB, asI, asD, seqD, seqOf, lsD, dAll, dAll_of_map, Option.bind_some, Option.bind_none, Option.map_some, Option.map_none, isB_int_int, isB_bool_int, isB_str_int, isB_none_int, isB_list_int, isB_tuple_int, isB_dict_int, isB_int_bool, isB_bool_bool, isB_str_bool, isB_none_bool, isB_list_bool, isB_tuple_bool, isB_dict_bool, isB_int_str, isB_bool_str, isB_str_str, isB_none_str, isB_list_str, isB_tuple_str, isB_dict_str, isB_int_tuple, isB_bool_tuple, isB_str_tuple, isB_none_tuple, isB_list_tuple, isB_tuple_tuple, isB_dict_tuple, isB_int_list, isB_bool_list, isB_str_list, isB_none_list, isB_list_list, isB_tuple_list, isB_dict_list, tyOk_int, tyOk_bool, tyOk_str, tyOk_tuple, tyOk_list, tyOk_dict, Bool.not_true, Bool.not_false, if_true, if_false, ite_true, ite_false, Bool.false_eq_true, true_and, and_true, Bool.true_eq_false, reduceIte, Bool.and_true, Bool.true_and, Bool.and_false, Bool.false_and, decide_true, decide_false, Int.reduceLE, Int.reduceLT, Int.reduceEq, Int.reduceAdd, Int.reduceSub, Int.reduceNeg, Int.cast_ofNat_Int, List.length_map])
namespace K47
open PySem L2 VS
variable {Fe : Addr → Option EC} {a b c : Addr}
/-- fault_routes(_law_policy(e)) -/
theorem frc {t0 : EE} {τ : Ds} {x : PyData} {v : DV} (h : t0 τ = some (.d x)) (hf : e_fault_routes Fe a b c [.d (pol x)] = some v) : qCall (e_fault_routes Fe a b c) (qCons (qCall e__law_policy (qCons t0 qNil)) qNil) τ = some v :=
  call_q (cons_q (call_q (cons_q h rfl) (e_policy x)) rfl) hf
theorem tupc {i : Nat} {τ : Ds} {ds : List PyData} (h : slot τ i = some (.d (.list ds))) : qCall (q1 tupE) (qCons (qVar i) qNil) τ = some (.d (.tuple ds)) :=
  call_q (cons_q h rfl) (by
    show (dAll (ds.map .d)).map _ = _
    rw [dAll_of_map]; rfl)
theorem fr_rows (H : FeOk Fe a b c) {Rs : List R} (hl : Rs.length ≤ 40) (h : Rows Rs) : e_fault_routes Fe a b c [.d (pol (.tuple (Rs.map toD)))] = some (.d .none) := by
  rw [fr_good Rs hl (all_routes H fun r hr => (h.row r hr).ok), wds_rows Rs [] h.row h.ap (fun _ _ _ h => by cases h), out_none]
/-- one that is no route among the rows, rest behind -/
theorem fr_odd (H : FeOk Fe a b c) {Rs : List R} (hl : Rs.length ≤ 36) (h : Rows Rs) (n : Nat) (hn : n ≤ Rs.length) (d : PyData) (hd : isRt [.d d] = BB false) (rest : List PyData) (hr : ∀ x ∈ rest, ∃ k, isRt [.d x] = BB k) (hrl : rest.length ≤ 3) :
    e_fault_routes Fe a b c [.d (pol (.tuple ((Rs.take n).map toD ++ d :: ((Rs.drop n).map toD ++ rest))))] = some (.d (.tuple [.str "route", .int (n : Nat)])) := by
  have e := isRt_eq H
  have h0 := fr_bad (Fe := Fe) (a := a) (b := b) (c := c) ((Rs.take n).map toD) ((Rs.drop n).map toD ++ rest) d (by simp; omega) (fun x hx => by
    obtain ⟨r, hr, rfl⟩ := List.mem_map.mp hx
    exact route_ok H ((h.take n).row r hr).ok) (by rw [e]; exact hd) fun x hx => by
    rcases List.mem_append.mp hx with hx | hx
    · obtain ⟨r, hr, rfl⟩ := List.mem_map.mp hx
      exact ⟨_, route_ok H ((h.drop n).row r hr).ok⟩
    · rw [e]; exact hr x hx
  rw [List.length_map, List.length_take, Nat.min_eq_left hn] at h0
  exact h0
theorem ok_mid {Rs : List R} (h : Rows Rs) (n : Nat) {x : R} (hx : Ok x) {rest : List R} (hr : ∀ r ∈ rest, Ok r) : ∀ r ∈ Rs.take n ++ x :: (Rs.drop n ++ rest), Ok r := fun r hm => by
  rcases List.mem_append.mp hm with hm | hm
  · exact ((h.take n).row r hm).ok
  rcases List.mem_cons.mp hm with rfl | hm
  · exact hx
  rcases List.mem_append.mp hm with hm | hm
  · exact ((h.drop n).row r hm).ok
  · exact hr r hm
theorem map_mid (Rs : List R) (n : Nat) (x : R) (rest : List R) : (Rs.take n ++ x :: (Rs.drop n ++ rest)).map toD = (Rs.take n).map toD ++ toD x :: ((Rs.drop n).map toD ++ rest.map toD) := by simp
theorem fr_mid (H : FeOk Fe a b c) {Rs : List R} (hl : Rs.length ≤ 36) (h : Rows Rs) (n : Nat) (hn : n ≤ Rs.length) {x : R} (hx : x.pre = zz) (hok : Ok x) {rest : List R} (hr : ∀ r ∈ rest, Ok r) (hrl : rest.length ≤ 3) :
    e_fault_routes Fe a b c [.d (pol (.tuple ((Rs.take n).map toD ++ toD x :: ((Rs.drop n).map toD ++ rest.map toD))))] = some (.d (frOut (List.replicate n E0 ++ wd (Rs.take n) x :: (List.replicate (Rs.length - n) E0 ++ wds (Rs.take n ++ x :: Rs.drop n) rest)))) := by
  rw [← map_mid, fr_good _ (by simp; omega) (all_routes H (ok_mid h n hok hr)), wds_mid h n hn x hx rest]
theorem rep_app {w : Str} (m : Nat) (bs : List Str) (h : w ≠ E0) (hb : w ∉ bs) : w ∉ List.replicate m E0 ++ bs := fun e => by
  rcases List.mem_append.mp e with e | e
  · exact rep_not m h e
  · exact hb e
/-- what _law_faults looks for -/
theorem fr_bent (H : FeOk Fe a b c) {Rs : List R} (hl : Rs.length ≤ 36) (h : Rows Rs) (n : Nat) (hn : n ≤ Rs.length) {w : Str} {x : PyData} (hb : Bent w x) (hw : w ≠ SR) :
    e_fault_routes Fe a b c [.d (pol (.tuple ((Rs.take n).map toD ++ x :: (Rs.drop n).map toD)))] = some (.d (.tuple [.str w, .int (n : Nat)])) := by
  cases hb with
  | odd x hx =>
    have := fr_odd H hl h n hn x (odds_bad x hx) [] (fun _ h => by cases h) (by decide)
    rwa [List.append_nil] at this
  | ns =>
    have := fr_mid H hl h n hn (x := rNS) rfl okNS (rest := []) (fun _ h => by cases h) (by decide)
    rw [wd_NS, out_ns (rep_not n (by decide)), List.length_replicate, List.map_nil, List.append_nil] at this
    exact this
  | nl =>
    have := fr_mid H hl h n hn (x := rNL) rfl okNL (rest := []) (fun _ h => by cases h) (by decide)
    rw [wd_NL, out_nl (rep_app n _ (by decide) fun e => by
      rcases List.mem_cons.mp e with e | e
      · exact absurd e (by decide)
      · exact rep_app _ _ (by decide) (by simp [wds]) e) (rep_not n (by decide)), List.length_replicate, List.map_nil, List.append_nil] at this
    exact this
  | sr => exact (hw rfl).elim
theorem wd_T' {Rs : List R} (h : Rows Rs) (n : Nat) : wd (Rs.take n) rT = E0 := wd_T ((h.take n).z (x := rT) rfl).2
/-- the second of two that take the same -/
theorem fr_same (H : FeOk Fe a b c) {Rs : List R} (hl : Rs.length ≤ 36) (h : Rows Rs) (n : Nat) (hn : n ≤ Rs.length) :
    e_fault_routes Fe a b c [.d (pol (.tuple ((Rs.take n).map toD ++ toD rT :: ((Rs.drop n).map toD ++ [toD rDup]))))] = some (.d (.tuple [.str SR, .int ((Rs.length + 1 : Nat) : Int)])) := by
  have := fr_mid H hl h n hn (x := rT) rfl okT (rest := [rDup]) (fun r hr => by rw [List.mem_singleton.mp hr]; exact okDup) (by decide)
  have e : wds (Rs.take n ++ rT :: Rs.drop n) [rDup] = [SR] := by
    show [wd (Rs.take n ++ rT :: Rs.drop n) rDup] = _
    rw [wd_Dup (List.mem_append_right _ List.mem_cons_self)]
  rw [e, wd_T' h] at this
  have e2 : List.replicate n E0 ++ E0 :: (List.replicate (Rs.length - n) E0 ++ [SR]) = List.replicate (Rs.length + 1) E0 ++ SR :: [] := by
    rw [← List.cons_append, ← List.replicate_succ, ← List.append_assoc, List.replicate_append_replicate]
    congr 2; omega
  rw [e2, out_sr (rep_app _ _ (by decide) (by decide)) (rep_app _ _ (by decide) (by decide)) (rep_not _ (by decide)), List.length_replicate] at this
  exact this
end K47

end

section
set_option Elab.async false
set_option linter.all false
set_option maxRecDepth 100000
set_option maxHeartbeats 4000000
set_option synthInstance.maxHeartbeats 4000000
set_option synthInstance.maxSize 100000
open VS
local macro_rules | `(tactic| walk_at "ev") => `(tactic| simp only [start_1, start_2, start_3, start_4, start_5, startD, List.map_cons, List.map_nil, List.length_cons, List.length_nil, List.replicate, List.cons_append, List.nil_append, Nat.reduceAdd, Nat.reduceSub, dSet, dOp, dVar, dC, dW, gotV, slot, setS, dRet, dRetN, dDrop, dNext, dCall, dCons, dNil, d1, dTest, dTru, truOf, dAnd, dOr, dNot, dAndV, dOrV, dNotV, dIf, dChain, dTup, dLst, oAll, dAll, oSome, rEqV, rNeV, oEq, peek, rIsV, rNotIsV, isNone, rI2, rII, rAddV, rMulV, rMulS, rIsiV, tyOf, gLen, lenOf, gInt, gAbs, gTuple, gList, seqD, seqOf, lsD, gIx, updM_same, updM_updM, isB_int_int, isB_bool_int, isB_str_int, isB_none_int, isB_list_int, isB_tuple_int, isB_dict_int, isB_int_bool, isB_bool_bool, isB_str_bool, isB_none_bool, isB_list_bool, isB_tuple_bool, isB_dict_bool, isB_int_str, isB_bool_str, isB_str_str, isB_none_str, isB_list_str, isB_tuple_str, isB_dict_str, isB_int_tuple, isB_bool_tuple, isB_str_tuple, isB_none_tuple, isB_list_tuple, isB_tuple_tuple, isB_dict_tuple, isB_int_list, isB_bool_list, isB_str_list, isB_none_list, isB_list_list, isB_tuple_list, isB_dict_list, tyOk_int, tyOk_bool, tyOk_str, tyOk_tuple, tyOk_list, tyOk_dict, Bool.not_true, Bool.not_false, if_true, if_false, ite_true, ite_false, Bool.false_eq_true, true_and, and_true, decide_eq_true_eq, Bool.true_eq_false, dAll_of_map, Bool.not_eq_true', decide_eq_false_iff_not, reduceIte, pu1_iff, pu2_iff, pr1_iff, pr2_iff, pr3_iff, pr4_iff, rInV, rNotInV, in_strL, in_strT, in_str2, in_str0, eqOk_int, eqOk_str, eqOk_bool, eqOk_none, eqv_ii, eqv_ss, eqv_bb, str_beq, int_beq, dAsg, bindP, bindNs, lstAt, List.length_map])
local macro_rules | `(tactic| walk_at "lf") => `(tactic| (intro K hK; walk_at "ev"; exact hK))
local macro_rules | `(tactic| walk_at "pt") => `(tactic| first
  | (with_reducible refine or_p ?_ ?_) <;> walk_at "pt"
  | (with_reducible refine and_p ?_ ?_) <;> walk_at "pt"
  | (with_reducible refine not_p ?_) <;> walk_at "pt"
  | walk_at "lf")
local macro_rules | `(tactic| walk_at "q") => `(tactic| simp only [runE, endV, start_1, start_2, start_3, start_4, start_5, startD, List.map_cons, List.map_nil, List.length_cons, List.length_nil, List.replicate, List.cons_append, List.nil_append, Nat.reduceAdd, Nat.reduceSub, Nat.reduceEqDiff, qVar, qC, qW, qOp, qTest, qTru, truOf, qAnd, qOr, qNot, qAndV, qOrV, qNotV, qIf, qChain, qNeg, qNil, qCons, qTup, qLst, qCall, q1, lenE, lenOf, absE, intE, tupE, listE, qIsiV, tyOf, qEqV, qNeV, eqE_ss, eqE_ii, qIsV, qNotIsV, isNone, qI2, qII, qInV, qNotInV, inE_strs, inE_strT, qIx, ixE, qDGet, qAddV, qMulV, qMulS, qNoP, qPart, qSl, slE, qYes, qNext, qSeq, qBreak, qCont, qDrop, qRet, qRetN, qIfS, qAsg, qSet, qAug, slot, setS, bindP, bindNs, asB, asI, asD, seqD, seqOf, lsD, dAll, dAll_of_map, Option.bind_some, Option.bind_none, Option.map_some, Option.map_none, isB_int_int, isB_bool_int, isB_str_int, isB_none_int, isB_list_int, isB_tuple_int, isB_dict_int, isB_int_bool, isB_bool_bool, isB_str_bool, isB_none_bool, isB_list_bool, isB_tuple_bool, isB_dict_bool, isB_int_str, isB_bool_str, isB_str_str, isB_none_str, isB_list_str, isB_tuple_str, isB_dict_str, isB_int_tuple, isB_bool_tuple, isB_str_tuple, isB_none_tuple, isB_list_tuple, isB_tuple_tuple, isB_dict_tuple, isB_int_list, isB_bool_list, isB_str_list, isB_none_list, isB_list_list, isB_tuple_list, isB_dict_list, tyOk_int, tyOk_bool, tyOk_str, tyOk_tuple, tyOk_list, tyOk_dict, Bool.not_true, Bool.not_false, if_true, if_false, ite_true, ite_false, Bool.false_eq_true, true_and, and_true, Bool.true_eq_false, reduceIte, Bool.and_true, Bool.true_and, Bool.and_false, Bool.false_and, decide_true, decide_false, Int.reduceLE, Int.reduceLT, Int.reduceEq, Int.reduceAdd, Int.reduceSub, Int.reduceNeg, Int.cast_ofNat_Int, List.length_map])
namespace K47
open PySem L2 VS
variable {Fe : Addr → Option EC} {a b c : Addr}
def S_faults : SpD := fun xs M Q => ∃ t Rs, xs = [.w (.ref t), .d (.list (Rs.map toD))] ∧ Tape M t ∧ Rows Rs ∧ Rs.length ≤ 36 ∧ Q (.d (.bool true)) M
theorem faults_len : ∀ xs M Q, S_faults xs M Q → xs.length = 2 := fun _ _ _ ⟨_, _, e, _⟩ => by rw [e]; rfl
theorem toD_inj_pl (r : R) : Pl 2 (toD r) := Pl.tup fun x hx => by
  simp only [List.mem_cons, List.not_mem_nil, or_false] at hx
  rcases hx with rfl | rfl | rfl | rfl | rfl | rfl | rfl | rfl | rfl <;> first | exact Pl.str _ | exact Pl.int _ | exact Pl.strs _
theorem pl_pair (w : Str) (n : Int) : Pl 1 (.tuple [.str w, .int n]) := Pl.tup fun x hx => by
  simp only [List.mem_cons, List.not_mem_nil, or_false] at hx
  rcases hx with rfl | rfl
  · exact Pl.str _
  · exact Pl.int _
theorem pl_pairN (w : Str) : Pl 1 (.tuple [.str w, .none]) := Pl.tup fun x hx => by
  simp only [List.mem_cons, List.not_mem_nil, or_false] at hx
  rcases hx with rfl | rfl
  · exact Pl.str _
  · exact Pl.non
theorem lst_add {xs ys : List PyData} (h : xs.length + ys.length ≤ sizeLine) : qAddV (.d (.list xs)) (.d (.list ys)) = some (.d (.list (xs ++ ys))) := by
  show (if _ then _ else _) = _
  rw [if_pos h]
/-- rows[:at] + [x] + rows[at:] -/
theorem midc {τ : Ds} {Rs : List R} {i j k n : Nat} {x : PyData} (h1 : slot τ i = some (.d (.list (Rs.map toD)))) (h2 : slot τ j = some (.d (.int (n : Nat)))) (h3 : slot τ k = some (.d x)) (hl : Rs.length ≤ 36) :
    qOp qAddV (qOp qAddV (qSl (qVar i) qNoP (qPart (qVar j))) (qLst (qCons (qVar k) qNil))) (qSl (qVar i) (qPart (qVar j)) qNoP) τ = some (.d (.list ((Rs.take n).map toD ++ x :: (Rs.drop n).map toD))) := by
  have hs : (36 : Nat) + 3 ≤ sizeLine := by decide
  refine op_q (x := .d (.list ((Rs.take n).map toD ++ [x]))) (y := .d (.list ((Rs.drop n).map toD))) (op_q (x := .d (.list ((Rs.take n).map toD))) (y := .d (.list [x])) ?_ ?_ (lst_add (by simp; omega))) ?_ ?_
  · show ((slot τ i).bind _) = _
    rw [h1]
    show (((slot τ j).bind asI).map some).bind _ = _
    rw [h2]
    show some (DV.d (.list (cutL (Rs.map toD) none (some (n : Int))))) = _
    rw [cutL_take, List.map_take]
  · show ((slot τ k).bind fun x => some [x]).bind _ = _
    rw [h3]; rfl
  · show ((slot τ i).bind _) = _
    rw [h1]
    show (((slot τ j).bind asI).map some).bind _ = _
    rw [h2]
    show some (DV.d (.list (cutL (Rs.map toD) (some (n : Int)) none))) = _
    rw [cutL_drop, List.map_drop]
  · rw [lst_add (by simp; omega)]
    simp
theorem hs_faults (H : FeOk Fe a b c) : ∀ xs M Q, S_faults xs M Q → t__law_faults (SpE (e_fault_routes Fe a b c)) (SpE e__law_policy) S_pick S_draw S_bent (EndQ Q) (startD 8 xs) M := by
  rintro xs M Q ⟨t, Rs, rfl, ht, hR, hl, hQ⟩
  unfold t__law_faults
  refine seq_k fun k e => ifS_k fun k1 k2 e1 e2 => st_k (v := false) (test_q (op_q (x := .d .none) (frc (tupc rfl) (fr_rows H (by omega) hR)) rfl rfl)) ?_
  rw [if_neg Bool.false_ne_true]
  subst e2
  clear e1
  show k _ _
  subst e
  refine seq_k fun k e => ss_k (o := .nx [some (.w (.ref t)), some (.d (.list (Rs.map toD))), some (.d (toD rT)), none, none, none, none, none]) (by rfl) ?_
  show k _ _
  subst e
  refine seq_k fun k e => ?_
  walk_at "ev"
  refine ⟨t, rfl, ht, fun w x hb => ?_⟩
  walk_at "ev"
  subst e
  refine seq_k fun k e => ?_
  walk_at "ev"
  refine draw_int ht (by omega) (by omega) fun n hn => ?_
  subst e
  have hn' : n ≤ Rs.length := by omega
  refine seq_k fun k e => ss_k (o := .nx [some (.w (.ref t)), some (.d (.list (Rs.map toD))), some (.d (toD rT)), some (.d (.str w)), some (.d x), some (.d (.int (n : Nat))), some (.d (.list ((Rs.take n).map toD ++ x :: (Rs.drop n).map toD))), none]) (set_nx (midc rfl rfl rfl hl)) ?_
  show k _ _
  subst e
  refine seq_k fun k e => ?_
  have fin : ∀ (ds : List PyData) (w : Str) (i : Int) (x : PyData), e_fault_routes Fe a b c [.d (pol (.tuple ds))] = some (.d (.tuple [.str w, .int i])) →
      k [some (.w (.ref t)), some (.d (.list (Rs.map toD))), some (.d (toD rT)), some (.d (.str w)), some (.d x), some (.d (.int i)), some (.d (.list ds)), none] M := by
    intro ds w i x hf
    subst e
    refine seq_k fun k e => ifS_k fun k1 k2 e1 e2 => st_k (v := false) (test_q ((op_q (frc (tupc rfl) hf) (by rfl) (neV_pl (pl_pair w i) (pl_pair w i) (by decide))).trans (by rw [decide_eq_true rfl]; rfl))) ?_
    rw [if_neg Bool.false_ne_true]
    subst e2
    show k _ _
    subst e
    refine seq_k fun k e => ?_
    have hu : ∃ u : PyData, (∀ es, u = .tuple es → 40 < es.length) ∧ (∀ es, u ≠ .dict es) ∧ (qIf (qTest (qOp qNeV (qVar 1) (qLst qNil))) (qCall (q1 tupE) (qCons (qOp qMulV (qSl (qVar 1) qNoP (qPart (qC (.int 1)))) (qC (.int 41))) qNil)) (qC (.int 5))) [some (.w (.ref t)), some (.d (.list (Rs.map toD))), some (.d (toD rT)), some (.d (.str w)), some (.d x), some (.d (.int i)), some (.d (.list ds)), none] = some (.d u) := by
      have hp : Pl 3 (.list (Rs.map toD)) := Pl.lst fun x hx => by
        obtain ⟨r, _, rfl⟩ := List.mem_map.mp hx
        exact toD_inj_pl r
      have ht := test_q (op_q (a := qVar 1) (b := qLst qNil) (τ := [some (.w (.ref t)), some (.d (.list (Rs.map toD))), some (.d (toD rT)), some (.d (.str w)), some (.d x), some (.d (.int i)), some (.d (.list ds)), none]) rfl rfl (neV_pl hp (Pl.lst (n := 2) (xs := []) fun _ h => by cases h) (by decide)))
      cases Rs with
      | nil =>
        refine ⟨.int 5, fun _ h => by (cases h), fun _ h => by (cases h), (qif_f (ht.trans ?_)).trans rfl⟩
        simp
      | cons r rs =>
        refine ⟨.tuple (repL 41 [toD r]), fun es h => ?_, fun _ h => by (cases h), (qif_t (ht.trans ?_)).trans ?_⟩
        · cases h
          rw [repL_length]
          show 40 < 41 * 1
          decide
        · rw [decide_eq_false (by simp)]; rfl
        · refine call_q (xs := [.d (.list (repL 41 [toD r]))]) (cons_q (op_q (x := .d (.list [toD r])) (y := .d (.int 41)) rfl rfl ?_) rfl) ?_
          · exact mulV_lst (ds := [toD r]) (k := 41) ⟨by decide, by decide, by show 1 * 41 ≤ sizeLine; decide⟩
          · exact tupE_lst _
    obtain ⟨u, hu1, hu2, hu3⟩ := hu
    refine set_pick (ds := [.list (Rs.map toD), .none, u, .str "ab"]) rfl (lst_q (cons_q (call_q (cons_q (x := .d (.list (Rs.map toD))) rfl rfl) (by
      show (dAll ((Rs.map toD).map .d)).map _ = _
      rw [dAll_of_map]; rfl)) (cons_q rfl (cons_q hu3 (cons_q rfl rfl)))) rfl) ht (by simp) (by simp) fun d hd => ?_
    have hf : e_fault_routes Fe a b c [.d (pol d)] = some (.d (.tuple [.str "route", .none])) := by
      simp only [List.mem_cons, List.not_mem_nil, or_false] at hd
      rcases hd with rfl | rfl | rfl | rfl
      · exact fr_unfit _ (fun _ h => by cases h) (fun _ h => by cases h)
      · exact fr_unfit _ (fun _ h => by cases h) (fun _ h => by cases h)
      · exact fr_unfit _ hu1 hu2
      · exact fr_unfit _ (fun _ h => by cases h) (fun _ h => by cases h)
    show k _ _
    subst e
    exact ss_k (o := .rt (.d (.bool true))) (ret_rt ((op_q (frc (t0 := qVar 7) rfl hf) (by rfl) (eqV_pl (pl_pairN "route") (pl_pairN "route") (by decide))).trans (by rw [decide_eq_true rfl]))) hQ
  refine ifS_k fun k1 k2 e1 e2 => st_k (v := decide (w = SR)) (test_q (op_q (x := .d (.str w)) (y := .d (.str SR)) rfl rfl eqV_ss)) ?_
  by_cases hw : w = SR
  · rw [decide_eq_true hw, if_pos rfl]
    subst e1 hw
    have hs : (36 : Nat) + 3 ≤ sizeLine := by decide
    refine seq_k fun k' e' => ss_k (o := .nx [some (.w (.ref t)), some (.d (.list (Rs.map toD))), some (.d (toD rT)), some (.d (.str SR)), some (.d x), some (.d (.int (n : Nat))), some (.d (.list ((Rs.take n).map toD ++ toD rT :: (Rs.drop n).map toD ++ [toD rDup]))), none]) (set_nx (op_q (midc (x := toD rT) rfl rfl rfl hl) (y := .d (.list [toD rDup])) rfl (lst_add (by simp; omega)))) ?_
    show k' _ _
    subst e'
    have hlen : (((Rs.take n).map toD ++ toD rT :: (Rs.drop n).map toD ++ [toD rDup]).length : Int) - 1 = ((Rs.length + 1 : Nat) : Int) := by
      simp; omega
    refine ss_k (o := .nx [some (.w (.ref t)), some (.d (.list (Rs.map toD))), some (.d (toD rT)), some (.d (.str SR)), some (.d x), some (.d (.int ((Rs.length + 1 : Nat) : Int))), some (.d (.list ((Rs.take n).map toD ++ toD rT :: (Rs.drop n).map toD ++ [toD rDup]))), none]) (set_nx (by
      rw [← hlen]; rfl)) ?_
    show k _ _
    refine fin _ _ _ _ ?_
    have := fr_same H hl hR n hn'
    rw [List.append_assoc, List.cons_append]
    exact this
  · rw [decide_eq_false hw, if_neg Bool.false_ne_true]
    subst e2
    exact fin _ _ _ _ (fr_bent H hl hR n hn' hb hw)
end K47

end

section
set_option Elab.async false
set_option linter.all false
set_option maxRecDepth 100000
set_option maxHeartbeats 4000000
set_option synthInstance.maxHeartbeats 4000000
set_option synthInstance.maxSize 100000
open VS
local macro_rules | `(tactic| walk_at "ev") => `(tactic| simp only [start_1, start_2, start_3, start_4, start_5, startD, List.map_cons, List.map_nil, List.length_cons, List.length_nil, List.replicate, List.cons_append, List.nil_append, Nat.reduceAdd, Nat.reduceSub, dSet, dOp, dVar, dC, dW, gotV, slot, setS, dRet, dRetN, dDrop, dNext, dCall, dCons, dNil, d1, dTest, dTru, truOf, dAnd, dOr, dNot, dAndV, dOrV, dNotV, dIf, dChain, dTup, dLst, oAll, dAll, oSome, rEqV, rNeV, oEq, peek, rIsV, rNotIsV, isNone, rI2, rII, rAddV, rMulV, rMulS, rIsiV, tyOf, gLen, lenOf, gInt, gAbs, gTuple, gList, seqD, seqOf, lsD, gIx, updM_same, updM_updM, isB_int_int, isB_bool_int, isB_str_int, isB_none_int, isB_list_int, isB_tuple_int, isB_dict_int, isB_int_bool, isB_bool_bool, isB_str_bool, isB_none_bool, isB_list_bool, isB_tuple_bool, isB_dict_bool, isB_int_str, isB_bool_str, isB_str_str, isB_none_str, isB_list_str, isB_tuple_str, isB_dict_str, isB_int_tuple, isB_bool_tuple, isB_str_tuple, isB_none_tuple, isB_list_tuple, isB_tuple_tuple, isB_dict_tuple, isB_int_list, isB_bool_list, isB_str_list, isB_none_list, isB_list_list, isB_tuple_list, isB_dict_list, tyOk_int, tyOk_bool, tyOk_str, tyOk_tuple, tyOk_list, tyOk_dict, Bool.not_true, Bool.not_false, if_true, if_false, ite_true, ite_false, Bool.false_eq_true, true_and, and_true, decide_eq_true_eq, Bool.true_eq_false, dAll_of_map, Bool.not_eq_true', decide_eq_false_iff_not, reduceIte, pu1_iff, pu2_iff, pr1_iff, pr2_iff, pr3_iff, pr4_iff, rInV, rNotInV, in_strL, in_strT, in_str2, in_str0, eqOk_int, eqOk_str, eqOk_bool, eqOk_none, eqv_ii, eqv_ss, eqv_bb, str_beq, int_beq, dAsg, bindP, bindNs, lstAt, List.length_map])
local macro_rules | `(tactic| walk_at "lf") => `(tactic| (intro K hK; walk_at "ev"; exact hK))
local macro_rules | `(tactic| walk_at "pt") => `(tactic| first
  | (with_reducible refine or_p ?_ ?_) <;> walk_at "pt"
  | (with_reducible refine and_p ?_ ?_) <;> walk_at "pt"
  | (with_reducible refine not_p ?_) <;> walk_at "pt"
  | walk_at "lf")
local macro_rules | `(tactic| walk_at "q") => `(tactic| simp only [runE, endV, start_1, start_2, start_3, start_4, start_5, startD, List.map_cons, List.map_nil, List.length_cons, List.length_nil, List.replicate, List.cons_append, List.nil_append, Nat.reduceAdd, Nat.reduceSub, Nat.reduceEqDiff, qVar, qC, qW, qOp, qTest, qTru, truOf, qAnd, qOr, qNot, qAndV, qOrV, qNotV, qIf, qChain, qNeg, qNil, qCons, qTup, qLst, qCall, q1, lenE, lenOf, absE, intE, tupE, listE, qIsiV, tyOf, qEqV, qNeV, eqE_ss, eqE_ii, qIsV, qNotIsV, isNone, qI2, qII, qInV, qNotInV, inE_strs, inE_strT, qIx, ixE, qDGet, qAddV, qMulV, qMulS, qNoP, qPart, qSl, slE, qYes, qNext, qSeq, qBreak, qCont, qDrop, qRet, qRetN, qIfS, qAsg, qSet, qAug, slot, setS, bindP, bindNs, asB, asI, asD, seqD, seqOf, lsD, dAll, dAll_of_map, Option.bind_some, Option.bind_none, Option.map_some, Option.map_none, isB_int_int, isB_bool_int, isB_str_int, isB_none_int, isB_list_int, isB_tuple_int, isB_dict_int, isB_int_bool, isB_bool_bool, isB_str_bool, isB_none_bool, isB_list_bool, isB_tuple_bool, isB_dict_bool, isB_int_str, isB_bool_str, isB_str_str, isB_none_str, isB_list_str, isB_tuple_str, isB_dict_str, isB_int_tuple, isB_bool_tuple, isB_str_tuple, isB_none_tuple, isB_list_tuple, isB_tuple_tuple, isB_dict_tuple, isB_int_list, isB_bool_list, isB_str_list, isB_none_list, isB_list_list, isB_tuple_list, isB_dict_list, tyOk_int, tyOk_bool, tyOk_str, tyOk_tuple, tyOk_list, tyOk_dict, Bool.not_true, Bool.not_false, if_true, if_false, ite_true, ite_false, Bool.false_eq_true, true_and, and_true, Bool.true_eq_false, reduceIte, Bool.and_true, Bool.true_and, Bool.and_false, Bool.false_and, decide_true, decide_false, Int.reduceLE, Int.reduceLT, Int.reduceEq, Int.reduceAdd, Int.reduceSub, Int.reduceNeg, Int.cast_ofNat_Int, List.length_map])
namespace K47
open PySem L2 VS
variable {Fe : Addr → Option EC} {a b c : Addr}
def o8 : PyData := .tuple [.str "a.b", txs ["z"], txs ["GET", "PUT"], .str "web", .int 1, txs ["p"], txs ["few"], .int 5]
theorem o8_bad : isRt [.d o8] = BB false := isV_eq (by decide +kernel)
def od : Nat → PyData
  | 0 => o8
  | 1 => toD rNS
  | _ => toD rNL
def wn : Nat → Str
  | 0 => "route"
  | 1 => NS
  | _ => NL
theorem od_rt (H : FeOk Fe a b c) (i : Nat) : ∃ k, isRt [.d (od i)] = BB k := by
  match i with
  | 0 => exact ⟨_, o8_bad⟩
  | 1 => exact ⟨true, by rw [← isRt_eq H]; exact route_ok H okNS⟩
  | _ + 2 => exact ⟨true, by rw [← isRt_eq H]; exact route_ok H okNL⟩
theorem fr_last (H : FeOk Fe a b c) (L : List R) (hL : ∀ r ∈ L, Ok r) (hl : L.length ≤ 39) : e_fault_routes Fe a b c [.d (pol (.tuple (L.map toD ++ [o8])))] = some (.d (.tuple [.str "route", .int (L.length : Nat)])) := by
  have := fr_bad (Fe := Fe) (a := a) (b := b) (c := c) (L.map toD) [] o8 (by simp; omega) (fun x hx => by
    obtain ⟨r, hr, rfl⟩ := List.mem_map.mp hx
    exact route_ok H (hL r hr)) (by rw [isRt_eq H]; exact o8_bad) fun _ h => by cases h
  rwa [List.length_map] at this
def L2of (Rs : List R) (n : Nat) (x y : PyData) : List PyData := (Rs.take n).map toD ++ x :: ((Rs.drop n).map toD ++ [y])
theorem L2_length (Rs : List R) (n : Nat) (hn : n ≤ Rs.length) (x y : PyData) : (L2of Rs n x y).length = Rs.length + 2 := by unfold L2of; simp; omega
theorem rep_cat {x : Str} {n m k : Nat} {bs : List Str} (h : n + 1 + m = k) : List.replicate n x ++ x :: (List.replicate m x ++ bs) = List.replicate k x ++ bs := by
  subst h
  rw [← List.cons_append, ← List.replicate_succ, ← List.append_assoc, List.replicate_append_replicate]
  congr 2; omega
theorem fr_two (H : FeOk Fe a b c) {Rs : List R} (hl : Rs.length ≤ 36) (h : Rows Rs) (n : Nat) (hn : n ≤ Rs.length) (f o : Nat) (hf : f < 3) (ho : o < 3) (hne : f ≠ o) :
    e_fault_routes Fe a b c [.d (pol (.tuple (L2of Rs n (od f) (od o))))] = some (.d (if f < o then .tuple [.str (wn f), .int (n : Nat)] else .tuple [.str (wn o), .int ((Rs.length + 1 : Nat) : Int)])) := by
  have c0 : f = 0 ∨ f = 1 ∨ f = 2 := by omega
  have c1 : o = 0 ∨ o = 1 ∨ o = 2 := by omega
  have lastodd : ∀ x : R, Ok x → e_fault_routes Fe a b c [.d (pol (.tuple (L2of Rs n (toD x) o8)))] = some (.d (.tuple [.str "route", .int ((Rs.length + 1 : Nat) : Int)])) := fun x hx => by
    have h1 := fr_last H (Rs.take n ++ x :: Rs.drop n) (by
      have := ok_mid h n hx (rest := []) fun _ h => by cases h
      rwa [List.append_nil] at this) (by simp; omega)
    have e1 : (Rs.take n ++ x :: Rs.drop n).length = Rs.length + 1 := by simp; omega
    rw [e1] at h1
    have e2 : (Rs.take n ++ x :: Rs.drop n).map toD ++ [o8] = L2of Rs n (toD x) o8 := by unfold L2of; simp
    rw [e2] at h1
    exact h1
  rcases c0 with rfl | rfl | rfl <;> rcases c1 with rfl | rfl | rfl
  · exact (hne rfl).elim
  · exact fr_odd H hl h n hn o8 o8_bad [toD rNS] (fun x hx => by rw [List.mem_singleton.mp hx]; exact od_rt H 1) (by decide)
  · exact fr_odd H hl h n hn o8 o8_bad [toD rNL] (fun x hx => by rw [List.mem_singleton.mp hx]; exact od_rt H 2) (by decide)
  · exact lastodd rNS okNS
  · exact (hne rfl).elim
  · have := fr_mid H hl h n hn (x := rNS) rfl okNS (rest := [rNL]) (fun r hr => by rw [List.mem_singleton.mp hr]; exact okNL) (by decide)
    rw [wd_NS, out_ns (rep_not n (by decide)), List.length_replicate] at this
    exact this
  · exact lastodd rNL okNL
  · have := fr_mid H hl h n hn (x := rNL) rfl okNL (rest := [rNS]) (fun r hr => by rw [List.mem_singleton.mp hr]; exact okNS) (by decide)
    rw [wd_NL] at this
    have e : wds (Rs.take n ++ rNL :: Rs.drop n) [rNS] = [NS] := by
      show [wd _ rNS] = _
      rw [wd_NS]
    have e3 : List.replicate n E0 ++ NL :: (List.replicate (Rs.length - n) E0 ++ [NS]) = (List.replicate n E0 ++ NL :: List.replicate (Rs.length - n) E0) ++ NS :: [] := by simp
    rw [e, e3, out_ns (by
      intro e
      rcases List.mem_append.mp e with e | e
      · exact rep_not _ (by decide) e
      · rcases List.mem_cons.mp e with e | e
        · exact absurd (show NS = NL from e) (by decide)
        · exact rep_not _ (by decide) e)] at this
    have e2 : (List.replicate n E0 ++ NL :: List.replicate (Rs.length - n) E0).length = Rs.length + 1 := by simp; omega
    rw [e2] at this
    exact this
  · exact (hne rfl).elim
def L3of (Rs : List R) (n : Nat) (x : PyData) : List PyData := (Rs.take n).map toD ++ toD rT :: ((Rs.drop n).map toD ++ [toD rDup, x])
theorem L3_length (Rs : List R) (n : Nat) (hn : n ≤ Rs.length) (x : PyData) : (L3of Rs n x).length = Rs.length + 3 := by unfold L3of; simp; omega
theorem fr_twice (H : FeOk Fe a b c) {Rs : List R} (hl : Rs.length ≤ 36) (h : Rows Rs) (n : Nat) (hn : n ≤ Rs.length) (f : Nat) (hf : f < 3) :
    e_fault_routes Fe a b c [.d (pol (.tuple (L3of Rs n (od f))))] = some (.d (.tuple [.str (wn f), .int ((Rs.length + 2 : Nat) : Int)])) := by
  have c0 : f = 0 ∨ f = 1 ∨ f = 2 := by omega
  have w2 : ∀ y w, wd (Rs.take n ++ rT :: Rs.drop n ++ [rDup]) y = w → wds (Rs.take n ++ rT :: Rs.drop n) [rDup, y] = [SR, w] := fun y w e => by
    show [wd _ rDup, wd _ y] = _
    rw [wd_Dup (List.mem_append_right _ List.mem_cons_self), e]
  have okr : ∀ y, Ok y → ∀ r ∈ [rDup, y], Ok r := fun y hy r hr => by
    simp only [List.mem_cons, List.not_mem_nil, or_false] at hr
    rcases hr with rfl | rfl
    · exact okDup
    · exact hy
  rcases c0 with rfl | rfl | rfl
  · have h1 := fr_last H (Rs.take n ++ rT :: (Rs.drop n ++ [rDup])) (ok_mid h n okT (rest := [rDup]) fun r hr => by rw [List.mem_singleton.mp hr]; exact okDup) (by simp; omega)
    have e1 : (Rs.take n ++ rT :: (Rs.drop n ++ [rDup])).length = Rs.length + 2 := by simp; omega
    rw [e1] at h1
    have e2 : (Rs.take n ++ rT :: (Rs.drop n ++ [rDup])).map toD ++ [o8] = L3of Rs n o8 := by unfold L3of; simp
    rw [e2] at h1
    exact h1
  · have := fr_mid H hl h n hn (x := rT) rfl okT (rest := [rDup, rNS]) (okr _ okNS) (by decide)
    rw [wd_T' h, w2 _ _ (wd_NS _), rep_cat (k := Rs.length + 1) (by omega)] at this
    have e3 : List.replicate (Rs.length + 1) E0 ++ [SR, NS] = (List.replicate (Rs.length + 1) E0 ++ [SR]) ++ NS :: [] := by simp
    rw [e3, out_ns (rep_app _ _ (by decide) (by decide))] at this
    have e2 : (List.replicate (Rs.length + 1) E0 ++ [SR]).length = Rs.length + 2 := by simp
    rw [e2] at this
    exact this
  · have := fr_mid H hl h n hn (x := rT) rfl okT (rest := [rDup, rNL]) (okr _ okNL) (by decide)
    rw [wd_T' h, w2 _ _ (wd_NL _), rep_cat (k := Rs.length + 1) (by omega)] at this
    have e3 : List.replicate (Rs.length + 1) E0 ++ [SR, NL] = (List.replicate (Rs.length + 1) E0 ++ [SR]) ++ NL :: [] := by simp
    rw [e3, out_nl (by
      rw [← e3]
      exact rep_app _ _ (by decide) (by decide)) (rep_app _ _ (by decide) (by decide))] at this
    have e2 : (List.replicate (Rs.length + 1) E0 ++ [SR]).length = Rs.length + 2 := by simp
    rw [e2] at this
    exact this
/-! ### the walk -/
def S_two : SpD := fun xs M Q => ∃ t Rs, xs = [.w (.ref t), .d (.list (Rs.map toD))] ∧ Tape M t ∧ Rows Rs ∧ Rs.length ≤ 36 ∧ Q (.d (.bool true)) M
theorem two_len : ∀ xs M Q, S_two xs M Q → xs.length = 2 := fun _ _ _ ⟨_, _, e, _⟩ => by rw [e]; rfl
/-- rows[:at] + [e] + rows[at:] -/
theorem midc' {τ : Ds} {Rs : List R} {i j n : Nat} {x : PyData} {e : EE} (h1 : slot τ i = some (.d (.list (Rs.map toD)))) (h2 : slot τ j = some (.d (.int (n : Nat)))) (h3 : e τ = some (.d x)) (hl : Rs.length ≤ 36) :
    qOp qAddV (qOp qAddV (qSl (qVar i) qNoP (qPart (qVar j))) (qLst (qCons e qNil))) (qSl (qVar i) (qPart (qVar j)) qNoP) τ = some (.d (.list ((Rs.take n).map toD ++ x :: (Rs.drop n).map toD))) := by
  have hs : (36 : Nat) + 3 ≤ sizeLine := by decide
  refine op_q (x := .d (.list ((Rs.take n).map toD ++ [x]))) (y := .d (.list ((Rs.drop n).map toD))) (op_q (x := .d (.list ((Rs.take n).map toD))) (y := .d (.list [x])) ?_ (lst_q (cons_q h3 rfl) rfl) (lst_add (by simp; omega))) ?_ ?_
  · show ((slot τ i).bind _) = _
    rw [h1]
    show (((slot τ j).bind asI).map some).bind _ = _
    rw [h2]
    show some (DV.d (.list (cutL (Rs.map toD) none (some (n : Int))))) = _
    rw [cutL_take, List.map_take]
  · show ((slot τ i).bind _) = _
    rw [h1]
    show (((slot τ j).bind asI).map some).bind _ = _
    rw [h2]
    show some (DV.d (.list (cutL (Rs.map toD) (some (n : Int)) none))) = _
    rw [cutL_drop, List.map_drop]
  · rw [lst_add (by simp; omega)]
    simp
def ods : List PyData := [o8, toD rNS, toD rNL]
def wns : List PyData := [.str "route", .str NS, .str NL]
theorem ods_at {i : Nat} (h : i < 3) : ods[i]? = some (od i) := by
  have : i = 0 ∨ i = 1 ∨ i = 2 := by omega
  rcases this with rfl | rfl | rfl <;> rfl
theorem wns_at {i : Nat} (h : i < 3) : wns[i]? = some (.str (wn i)) := by
  have : i = 0 ∨ i = 1 ∨ i = 2 := by omega
  rcases this with rfl | rfl | rfl <;> rfl
theorem hs_two (H : FeOk Fe a b c) : ∀ xs M Q, S_two xs M Q → t__law_two_faults (SpE (e_fault_routes Fe a b c)) (SpE e__law_policy) S_draw (EndQ Q) (startD 11 xs) M := by
  rintro xs M Q ⟨t, Rs, rfl, ht, hR, hl, hQ⟩
  have hs : (36 : Nat) + 5 ≤ sizeLine := by decide
  unfold t__law_two_faults
  refine seq_k fun k e => ss_k (o := .nx [some (.w (.ref t)), some (.d (.list (Rs.map toD))), some (.d (toD rT)), none, none, none, none, none, none, none, none]) (by rfl) ?_
  show k _ _
  subst e
  refine seq_k fun k e => ss_k (o := .nx [some (.w (.ref t)), some (.d (.list (Rs.map toD))), some (.d (toD rT)), some (.d (.list wns)), none, none, none, none, none, none, none]) (by rfl) ?_
  show k _ _
  subst e
  refine seq_k fun k e => ss_k (o := .nx [some (.w (.ref t)), some (.d (.list (Rs.map toD))), some (.d (toD rT)), some (.d (.list wns)), some (.d (.list ods)), none, none, none, none, none, none]) (by rfl) ?_
  show k _ _
  subst e
  refine seq_k fun k e => set_draw (m := 3) rfl rfl ht (by decide) (by decide) fun f hf => ?_
  show k _ _
  subst e
  refine seq_k fun k e => ?_
  walk_at "ev"
  refine draw_nat (m := 2) ht (by decide) (by decide) fun j hj => ?_
  walk_at "ev"
  refine ⟨by decide, ?_⟩
  have e0 : ((f : Int) + 1 + (j : Nat)) % 3 = (((f + 1 + j) % 3 : Nat) : Int) := by omega
  rw [e0]
  have ho : (f + 1 + j) % 3 < 3 := Nat.mod_lt _ (by decide)
  have hne : f ≠ (f + 1 + j) % 3 := by omega
  generalize (f + 1 + j) % 3 = o at ho hne
  clear e0 hj
  subst e
  refine seq_k fun k e => set_draw (m := Rs.length + 1) rfl (op_q (x := .d (.int (Rs.length : Nat))) (y := .d (.int 1)) (by
    refine (call_q (xs := [.d (.list (Rs.map toD))]) rfl ?_)
    show some (DV.d (.int (((Rs.map toD).length : Nat) : Int))) = _
    rw [List.length_map]) rfl rfl) ht (by omega) (by omega) fun n hn => ?_
  show k _ _
  have hn' : n ≤ Rs.length := by omega
  subst e
  have gx : ∀ {τ : Ds} {p q i : Nat} {ds : List PyData} {d : PyData}, slot τ p = some (.d (.list ds)) → slot τ q = some (.d (.int (i : Nat))) → ds[i]? = some d → qOp qIx (qVar p) (qVar q) τ = some (.d d) := fun h1 h2 h3 => op_q (r := qIx) h1 h2 (ixE_lst h3)
  refine seq_k fun k e => ss_k (o := .nx [some (.w (.ref t)), some (.d (.list (Rs.map toD))), some (.d (toD rT)), some (.d (.list wns)), some (.d (.list ods)), some (.d (.int (f : Nat))), some (.d (.int (o : Nat))), some (.d (.int (n : Nat))), some (.d (.list (L2of Rs n (od f) (od o)))), none, none]) (set_nx (by
    refine (op_q (midc' rfl rfl (gx rfl rfl (ods_at hf)) hl) (lst_q (cons_q (gx rfl rfl (ods_at ho)) rfl) rfl) (lst_add (by simp; omega))).trans ?_
    unfold L2of; simp)) ?_
  show k _ _
  subst e
  have hlen : ((((L2of Rs n (od f) (od o)).length : Nat) : Int) - 1) = ((Rs.length + 1 : Nat) : Int) := by rw [L2_length _ _ hn']; omega
  refine seq_k fun k e => ss_k (o := .nx [some (.w (.ref t)), some (.d (.list (Rs.map toD))), some (.d (toD rT)), some (.d (.list wns)), some (.d (.list ods)), some (.d (.int (f : Nat))), some (.d (.int (o : Nat))), some (.d (.int (n : Nat))), some (.d (.list (L2of Rs n (od f) (od o)))), some (.d (if f < o then .tuple [.str (wn f), .int (n : Nat)] else .tuple [.str (wn o), .int ((Rs.length + 1 : Nat) : Int)])), none]) (set_nx (by
    have ht : (qTest (qOp (qI2 fun i j => .bool (decide (i < j))) (qVar 5) (qVar 6))) [some (.w (.ref t)), some (.d (.list (Rs.map toD))), some (.d (toD rT)), some (.d (.list wns)), some (.d (.list ods)), some (.d (.int (f : Nat))), some (.d (.int (o : Nat))), some (.d (.int (n : Nat))), some (.d (.list (L2of Rs n (od f) (od o)))), none, none] = some (decide (f < o)) := by
      refine (test_q (x := decide ((f : Int) < (o : Int))) rfl).trans ?_
      rw [decide_eq_decide.mpr Int.ofNat_lt]
    by_cases c : f < o
    · rw [decide_eq_true c] at ht
      rw [if_pos c]
      exact (qif_t ht).trans (tup_q (cons_q (gx rfl rfl (wns_at hf)) (cons_q rfl rfl)) rfl)
    · rw [decide_eq_false c] at ht
      rw [if_neg c]
      refine (qif_f ht).trans (tup_q (cons_q (gx rfl rfl (wns_at ho)) (cons_q (x := .d (.int ((Rs.length + 1 : Nat) : Int))) ?_ rfl)) rfl)
      rw [← hlen]; rfl)) ?_
  show k _ _
  subst e
  have hpl : ∀ (p : Prop) [Decidable p] (w w' : Str) (i j : Int), Pl 1 (if p then .tuple [.str w, .int i] else .tuple [.str w', .int j]) := fun p _ w w' i j => by
    by_cases h : p
    · rw [if_pos h]; exact pl_pair _ _
    · rw [if_neg h]; exact pl_pair _ _
  refine seq_k fun k e => ifS_k fun k1 k2 e1 e2 => st_k (v := false) (test_q ((op_q (frc (tupc rfl) (fr_two H hl hR n hn' f o hf ho hne)) rfl (neV_pl (hpl _ _ _ _ _) (hpl _ _ _ _ _) (by decide))).trans (by rw [decide_eq_true rfl]; rfl))) ?_
  rw [if_neg Bool.false_ne_true]
  subst e2
  clear e1
  show k _ _
  subst e
  generalize (if f < o then PyData.tuple [.str (wn f), .int (n : Nat)] else .tuple [.str (wn o), .int ((Rs.length + 1 : Nat) : Int)]) = due
  refine seq_k fun k e => ss_k (o := .nx [some (.w (.ref t)), some (.d (.list (Rs.map toD))), some (.d (toD rT)), some (.d (.list wns)), some (.d (.list ods)), some (.d (.int (f : Nat))), some (.d (.int (o : Nat))), some (.d (.int (n : Nat))), some (.d (.list (L2of Rs n (od f) (od o)))), some (.d due), some (.d (.list (L3of Rs n (od f))))]) (set_nx (by
    refine (op_q (midc' (x := toD rT) rfl rfl rfl hl) (lst_q (cons_q (x := .d (toD rDup)) rfl (cons_q (gx rfl rfl (ods_at hf)) rfl)) rfl) (lst_add (by simp; omega))).trans ?_
    unfold L3of; simp)) ?_
  show k _ _
  subst e
  have hlen3 : ((((L3of Rs n (od f)).length : Nat) : Int) - 1) = ((Rs.length + 2 : Nat) : Int) := by rw [L3_length _ _ hn']; omega
  exact ss_k (o := .rt (.d (.bool true))) (ret_rt ((op_q (frc (tupc rfl) (fr_twice H hl hR n hn' f hf)) (tup_q (cons_q (gx rfl rfl (wns_at hf)) (cons_q (x := .d (.int ((Rs.length + 2 : Nat) : Int))) (by rw [← hlen3]; rfl) rfl)) rfl) (eqV_pl (pl_pair _ _) (pl_pair _ _) (by decide))).trans (by rw [decide_eq_true rfl]))) hQ
end K47

end

section
set_option Elab.async false
set_option linter.all false
set_option maxRecDepth 100000
set_option maxHeartbeats 4000000
set_option synthInstance.maxHeartbeats 4000000
set_option synthInstance.maxSize 100000
open VS
local macro_rules | `(tactic| walk_at "ev") => `(tactic| simp only [start_1, start_2, start_3, start_4, start_5, startD, List.map_cons, List.map_nil, List.length_cons, List.length_nil, List.replicate, List.cons_append, List.nil_append, Nat.reduceAdd, Nat.reduceSub, dSet, dOp, dVar, dC, dW, gotV, slot, setS, dRet, dRetN, dDrop, dNext, dCall, dCons, dNil, d1, dTest, dTru, truOf, dAnd, dOr, dNot, dAndV, dOrV, dNotV, dIf, dChain, dTup, dLst, oAll, dAll, oSome, rEqV, rNeV, oEq, peek, rIsV, rNotIsV, isNone, rI2, rII, rAddV, rMulV, rMulS, rIsiV, tyOf, gLen, lenOf, gInt, gAbs, gTuple, gList, seqD, seqOf, lsD, gIx, updM_same, updM_updM, isB_int_int, isB_bool_int, isB_str_int, isB_none_int, isB_list_int, isB_tuple_int, isB_dict_int, isB_int_bool, isB_bool_bool, isB_str_bool, isB_none_bool, isB_list_bool, isB_tuple_bool, isB_dict_bool, isB_int_str, isB_bool_str, isB_str_str, isB_none_str, isB_list_str, isB_tuple_str, isB_dict_str, isB_int_tuple, isB_bool_tuple, isB_str_tuple, isB_none_tuple, isB_list_tuple, isB_tuple_tuple, isB_dict_tuple, isB_int_list, isB_bool_list, isB_str_list, isB_none_list, isB_list_list, isB_tuple_list, isB_dict_list, tyOk_int, tyOk_bool, tyOk_str, tyOk_tuple, tyOk_list, tyOk_dict, Bool.not_true, Bool.not_false, if_true, if_false, ite_true, ite_false, Bool.false_eq_true, true_and, and_true, decide_eq_true_eq, Bool.true_eq_false, dAll_of_map, Bool.not_eq_true', decide_eq_false_iff_not, reduceIte, pu1_iff, pu2_iff, pr1_iff, pr2_iff, pr3_iff, pr4_iff, rInV, rNotInV, in_strL, in_strT, in_str2, in_str0, eqOk_int, eqOk_str, eqOk_bool, eqOk_none, eqv_ii, eqv_ss, eqv_bb, str_beq, int_beq, dAsg, bindP, bindNs, lstAt, List.length_map])
local macro_rules | `(tactic| walk_at "lf") => `(tactic| (intro K hK; walk_at "ev"; exact hK))
local macro_rules | `(tactic| walk_at "pt") => `(tactic| first
  | (with_reducible refine or_p ?_ ?_) <;> walk_at "pt"
  | (with_reducible refine and_p ?_ ?_) <;> walk_at "pt"
  | (with_reducible refine not_p ?_) <;> walk_at "pt"
  | walk_at "lf")
local macro_rules | `(tactic| walk_at "q") => `(tactic| simp only [runE, endV, start_1, start_2, start_3, start_4, start_5, startD, List.map_cons, List.map_nil, List.length_cons, List.length_nil, List.replicate, List.cons_append, List.nil_append, Nat.reduceAdd, Nat.reduceSub, Nat.reduceEqDiff, qVar, qC, qW, qOp, qTest, qTru, truOf, qAnd, qOr, qNot, qAndV, qOrV, qNotV, qIf, qChain, qNeg, qNil, qCons, qTup, qLst, qCall, q1, lenE, lenOf, absE, intE, tupE, listE, qIsiV, tyOf, qEqV, qNeV, eqE_ss, eqE_ii, qIsV, qNotIsV, isNone, qI2, qII, qInV, qNotInV, inE_strs, inE_strT, qIx, ixE, qDGet, qAddV, qMulV, qMulS, qNoP, qPart, qSl, slE, qYes, qNext, qSeq, qBreak, qCont, qDrop, qRet, qRetN, qIfS, qAsg, qSet, qAug, slot, setS, bindP, bindNs, asB, asI, asD, seqD, seqOf, lsD, dAll, dAll_of_map, Option.bind_some, Option.bind_none, Option.map_some, Option.map_none, isB_int_int, isB_bool_int, isB_str_int, isB_none_int, isB_list_int, isB_tuple_int, isB_dict_int, isB_int_bool, isB_bool_bool, isB_str_bool, isB_none_bool, isB_list_bool, isB_tuple_bool, isB_dict_bool, isB_int_str, isB_bool_str, isB_str_str, isB_none_str, isB_list_str, isB_tuple_str, isB_dict_str, isB_int_tuple, isB_bool_tuple, isB_str_tuple, isB_none_tuple, isB_list_tuple, isB_tuple_tuple, isB_dict_tuple, isB_int_list, isB_bool_list, isB_str_list, isB_none_list, isB_list_list, isB_tuple_list, isB_dict_list, tyOk_int, tyOk_bool, tyOk_str, tyOk_tuple, tyOk_list, tyOk_dict, Bool.not_true, Bool.not_false, if_true, if_false, ite_true, ite_false, Bool.false_eq_true, true_and, and_true, Bool.true_eq_false, reduceIte, Bool.and_true, Bool.true_and, Bool.and_false, Bool.false_and, decide_true, decide_false, Int.reduceLE, Int.reduceLT, Int.reduceEq, Int.reduceAdd, Int.reduceSub, Int.reduceNeg, Int.cast_ofNat_Int, List.length_map])
namespace K47
open PySem L2 VS
def S_errors : SpD := fun xs M Q => ∃ t, xs = [.w (.ref t)] ∧ Tape M t ∧ ∀ M', (∀ x o, M x = some o → M' x = some o) → Q (.d (.bool true)) M'
theorem errors_len : ∀ xs M Q, S_errors xs M Q → xs.length = 1 := fun _ _ _ ⟨_, e, _⟩ => by rw [e]; rfl
section
variable {D : Addr} {ys : List PyData} {M : DH} {τ : Ds} {i : Nat}
theorem seqD_m (h : M D = some (.lst (ys.map .d))) : seqD M (.w (.ref D)) = some ys := by
  show (match lstAt (M D) with | some xs => dAll xs | none => none) = _
  rw [h]
  exact dAll_of_map ys
theorem dispT (hs : slot τ i = some (.w (.ref D))) (h : M D = some (.lst (ys.map .d))) {K : DQ} (k : K (.d (erd (.tuple ys))) M) : dDisp [(dC (.str "errors"), dCall (d1 gTuple) (dCons (dVar i) dNil))] τ M K := by
  intro D' hD'
  have hne : D ≠ D' := fun e => by subst e; rw [h] at hD'; cases hD'
  show gotV (slot τ i) (updM M D' (.dK [])) _
  rw [hs]
  have hM := seqD_m (D := D) (ys := ys) (M := updM M D' (.dK [])) (by rw [updM_ne hne]; exact h)
  simp only [gotV, d1, gTuple, hM, oSome, pairsD]
  exact ⟨M, rfl, hD', (by show 1 ≤ 15; decide), k⟩
end
theorem gIx_m {D : Addr} {ys : List PyData} {M : DH} {Q : DQ} {n : Nat} {y : PyData} (h : M D = some (.lst (ys.map .d))) (hy : ys[n]? = some y) (k : Q (.d y) M) : gIx (.w (.ref D)) (.d (.int (n : Nat))) M Q := by
  obtain ⟨hl, _⟩ := List.getElem?_eq_some_iff.mp hy
  have h2 : atI (ys.map DV.d) (n : Nat) = some (.d y) := by
    unfold atI ixN
    rw [if_pos (by omega), if_pos (by simpa using hl)]
    simp [hy]
  show oSome (lstAt (M D)) _
  rw [h]
  show oSome (atI (ys.map DV.d) (n : Nat)) _
  rw [h2]; exact k
theorem gSl_m {D : Addr} {ys : List PyData} {M : DH} {Q : DQ} {lo hi : Option Int} (h : M D = some (.lst (ys.map .d))) (k : Q (.d (.list (cutL ys lo hi))) M) : gSl (.w (.ref D)) lo hi M Q := by
  show oSome (lsD M (.w (.ref D))) _
  have : lsD M (.w (.ref D)) = some ys := by
    show (match lstAt (M D) with | some xs => dAll xs | none => none) = _
    rw [h]; exact dAll_of_map ys
  rw [this]; exact k
/-- an error row for the word -/
def GoodE (w : Str) (y : PyData) : Prop := ∃ (c : Int) (t : Str), y = .tuple [.str w, .int c, .str t] ∧ 400 ≤ c ∧ c ≤ 599 ∧ e_is_signs [.d (.str t)] = BB true ∧ t.length ≤ 200
theorem goodE_ok {w : Str} {y : PyData} (h : GoodE w y) : e_is_error [.d y, .d (.str w)] = BB true := by
  obtain ⟨c, t, rfl, h1, h2, h3, h4⟩ := h
  rw [e_err w w c t true h3, decide_eq_true rfl, decide_eq_true h1, decide_eq_true h2, decide_eq_true (by omega)]; rfl
def TT : List Str := [repS "t" 0, repS "t" 3, repS "t" 200]
theorem TT_ok {t : Str} (h : t ∈ TT) : e_is_signs [.d (.str t)] = BB true ∧ t.length ≤ 200 := by
  have : (TT.all fun t => isV (e_is_signs [.d (.str t)]) (.bool true) && decide (t.length ≤ 200)) = true := by decide +kernel
  have := List.all_eq_true.mp this t h
  rw [Bool.and_eq_true] at this
  exact ⟨isV_eq this.1, of_decide_eq_true this.2⟩
/-- the errors that are none -/
def oddE (y : PyData) : List PyData := match y with
  | .tuple [.str w, .int c, t] => [.tuple [.str w, .int 399, .str ""], .tuple [.str w, .int 600, .str ""], .tuple [.str w, .int 404, .str (repS "t" 201)], .tuple [.str w, .int 404, .str "a\n"], .tuple [.str "other", .int 404, .str ""], .tuple [.str w, .int c], .list [.str w, .int c, t], .tuple [.str w, .bool true, .str ""], .none]
  | _ => []
theorem oddE_bad {w : Str} {y x : PyData} (hw : w ∈ words) (h : GoodE w y) (hx : x ∈ oddE y) : e_is_error [.d x, .d (.str w)] = BB false := by
  obtain ⟨c, t, rfl, h1, h2, h3, h4⟩ := h
  have s0 : e_is_signs [.d (.str "")] = BB true := isV_eq (by decide +kernel)
  have s1 : e_is_signs [.d (.str (repS "t" 201))] = BB true := isV_eq (by decide +kernel)
  have s2 : e_is_signs [.d (.str "a\n")] = BB false := isV_eq (by decide +kernel)
  have hl : ((repS "t" 201).length : Int) = 201 := by decide +kernel
  simp only [oddE, List.mem_cons, List.not_mem_nil, or_false] at hx
  rcases hx with rfl | rfl | rfl | rfl | rfl | rfl | rfl | rfl | rfl
  · rw [e_err _ _ _ _ _ s0, decide_eq_true rfl]; rfl
  · rw [e_err _ _ _ _ _ s0, decide_eq_true rfl]; rfl
  · rw [e_err _ _ _ _ _ s1, decide_eq_true rfl, hl]; rfl
  · rw [e_err _ _ _ _ _ s2, decide_eq_true rfl]; rfl
  · rw [e_err _ _ _ _ _ s0, decide_eq_false (fun e => by rw [← e] at hw; revert hw; decide)]; rfl
  · exact err_2 _ _ _
  · exact err_nt _ _ (fun _ h => by cases h) (fun _ h => by cases h)
  · exact err_true _ _ _
  · exact err_nt _ _ (fun _ h => by cases h) (fun _ h => by cases h)
def Six (ys : List PyData) : Prop := ys.length = 6 ∧ ∀ (i : Nat) (w : Str) (y : PyData), words[i]? = some w → ys[i]? = some y → GoodE w y
theorem paired_six {ys : List PyData} (h : Paired (fun x y => ∃ w, x = DV.d (.str w) ∧ GoodE w y) ((words.map PyData.str).map .d) ys) : Six ys := by
  refine ⟨by rw [← h.length]; rfl, ?_⟩
  generalize words = ws at h
  induction ws generalizing ys with
  | nil => intro i w y h1; simp at h1
  | cons w0 ws ih =>
    cases h with
    | cons h0 t =>
      intro i w y h1 h2
      cases i with
      | zero =>
        simp at h1 h2
        subst h1 h2
        obtain ⟨w', e, g⟩ := h0
        cases e
        exact g
      | succ i => exact ih t i w y (by simpa using h1) (by simpa using h2)
theorem idx_words {w : Str} (h : w ∈ words) : ∃ i, i < 6 ∧ idx w words = some i ∧ words[i]? = some w := by
  simp only [words, List.mem_cons, List.not_mem_nil, or_false] at h
  rcases h with rfl | rfl | rfl | rfl | rfl | rfl
  · exact ⟨0, by decide, by decide, rfl⟩
  · exact ⟨1, by decide, by decide, rfl⟩
  · exact ⟨2, by decide, by decide, rfl⟩
  · exact ⟨3, by decide, by decide, rfl⟩
  · exact ⟨4, by decide, by decide, rfl⟩
  · exact ⟨5, by decide, by decide, rfl⟩
theorem six_ok {ys : List PyData} (h : Six ys) : e_fault_errors [.d (erd (.tuple ys))] = some (.d .none) := fe_all ys h.1 fun i d w h1 h2 => goodE_ok (h.2 i w d h2 h1)
theorem six_set {ys : List PyData} (h : Six ys) {n : Nat} (hn : n < 6) {y x : PyData} (hy : ys[n]? = some y) (hx : x ∈ oddE y) : e_fault_errors [.d (erd (.tuple (ys.set n x)))] = some (.d (.tuple [.str "error", .int (n : Nat)])) := by
  refine fe_at _ (by simpa using h.1) n hn fun i d w h1 h2 => ?_
  by_cases e : i = n
  · subst e
    rw [List.getElem?_set_self (by rw [h.1]; exact hn)] at h1
    cases h1
    rw [decide_eq_true rfl]
    exact oddE_bad (List.mem_of_getElem? h2) (h.2 i w y h2 hy) hx
  · rw [List.getElem?_set_ne (fun z => e z.symm)] at h1
    rw [decide_eq_false e]
    exact goodE_ok (h.2 i w d h2 h1)
theorem hs_errors : ∀ xs M Q, S_errors xs M Q → t__law_errors (SpE e_fault_errors) S_draw (SpE e_error_row) S_pick (EndQ Q) (startD 8 xs) M := by
  rintro xs M0 Q ⟨t, rfl, ht0, hQ⟩
  unfold t__law_errors
  refine seq_k fun k e => ss_k (o := .nx [some (.w (.ref t)), some (.d (.list (words.map .str))), none, none, none, none, none, none]) (by rfl) ?_
  show k _ _
  subst e
  refine seq_k fun k e => ?_
  unfold dSet
  refine lcMR_ok ht0 ((words.map PyData.str).map .d) (fun x y => ∃ w, x = DV.d (.str w) ∧ GoodE w y) (fun K h => h) (stay := fun _ => True) trivial (fun x hx => ?_) fun D hD ys hp => ?_
  · obtain ⟨z, hz, rfl⟩ := List.mem_map.mp hx
    obtain ⟨w, hw, rfl⟩ := List.mem_map.mp hz
    refine ⟨_, rfl, fun M K ht hK => ?_⟩
    walk_at "ev"
    refine draw_nat (m := 200) ht (by decide) (by decide) fun c hc => ?_
    walk_at "ev"
    refine pick_ints (ws := [0, 3, 200]) ht (by decide) (by decide) fun m hm => ?_
    walk_at "ev"
    have hm' : m = 0 ∨ m = 3 ∨ m = 200 := by simpa using hm
    have hT : repS "t" (m : Nat) ∈ TT := by
      rcases hm' with rfl | rfl | rfl
      · exact List.mem_cons_self
      · exact List.mem_cons_of_mem _ List.mem_cons_self
      · exact List.mem_cons_of_mem _ (List.mem_cons_of_mem _ List.mem_cons_self)
    refine ⟨⟨by omega, by omega, ?_⟩, ?_⟩
    · rcases hm' with rfl | rfl | rfl <;> decide
    · exact hK _ ⟨w, rfl, 400 + (c : Nat), _, rfl, by omega, by omega, TT_ok hT⟩
  · have hS := paired_six hp
    clear hp
    have hDt : D ≠ t := fun e => by subst e; rw [ht0] at hD; cases hD
    have ht : ∀ zs : List PyData, Tape (updM M0 D (.lst (zs.map .d))) t := fun zs => tape_upd ht0 hD
    show k [some (.w (.ref t)), some (.d (.list (words.map .str))), some (.w (.ref D)), none, none, none, none, none] _
    subst e
    refine seq_k fun k e => ifS_k fun k1 k2 e1 e2 => ?_
    walk_at "ev"
    refine dispT (ys := ys) rfl updM_same ?_
    refine spE_k (six_ok hS) ?_
    walk_at "ev"
    subst e2
    clear e1
    show k _ _
    subst e
    refine seq_k fun k e => set_pick (ds := words.map .str) rfl rfl (ht ys) (by decide) (by decide) fun d hd => ?_
    obtain ⟨w, hw, rfl⟩ := List.mem_map.mp hd
    show k _ _
    subst e
    refine seq_k fun k e => ifS_k fun k1 k2 e1 e2 => ?_
    obtain ⟨i, hi, hiw, hwi⟩ := idx_words hw
    have hyi : ys[i]? = some (ys[i]'(by rw [hS.1]; exact hi)) := List.getElem?_eq_getElem _
    obtain ⟨c, tx, hy, g1, g2, g3, g4⟩ := hS.2 i w _ hwi hyi
    rw [hy] at hyi
    walk_at "ev"
    refine spE_k (e_errrow ys i w _ hiw hyi) ?_
    unfold dSl dOp
    simp only [dVar, gotV, slot]
    refine se_k (v := .d (.int (i : Nat))) ?_ ?_
    · show (if tyE "list" (.d (.list (words.map .str))) = true then indexE (.d (.list (words.map .str))) [.d (.str w)] else none) = _
      rw [if_pos (by rfl)]
      show (if (eqOk (.list (words.map .str)) = true ∧ eqOk (.str w) = true) then (idxD (.str w) (words.map .str)).map (fun (j : Nat) => DV.d (.int (j : Nat))) else none) = _
      rw [if_pos ⟨(Pl.strsL (n := 3) _).eqOk (by decide), rfl⟩]
      show (idx w words).map _ = _
      rw [hiw]; rfl
    refine gIx_m updM_same hyi ?_
    have hpl : Pl 1 (.tuple [.int c, .str tx]) := Pl.tup fun x hx => by
      simp only [List.mem_cons, List.not_mem_nil, or_false] at hx
      rcases hx with rfl | rfl
      · exact Pl.int _
      · exact Pl.str _
    have hev : PyData.eqv (.tuple [.int c, .str tx]) (.tuple [.int c, .str tx]) = true := by
      rw [eqv_plain hpl.1 hpl.1, decide_eq_true rfl]
    refine (show eqOk (.tuple [.int c, .str tx]) = true ∧ eqOk (.tuple [.int c, .str tx]) = true ∧ (if PyData.eqv (.tuple [.int c, .str tx]) (.tuple [.int c, .str tx]) = false then k1 (updM M0 D (.lst (ys.map .d))) else k2 (updM M0 D (.lst (ys.map .d)))) from ⟨hpl.eqOk (by decide), hpl.eqOk (by decide), ?_⟩)
    rw [hev, if_neg (by decide)]
    subst e2
    clear e1
    show k _ _
    subst e
    clear hev hpl hyi hiw hwi hy g1 g2 g3 g4 hi hd
    refine seq_k fun k e => set_draw (m := 6) rfl rfl (ht ys) (by decide) (by decide) fun n hn => ?_
    show k _ _
    subst e
    have hyn : ys[n]? = some (ys[n]'(by rw [hS.1]; exact hn)) := List.getElem?_eq_getElem _
    have hwn : ∃ w, words[n]? = some w := ⟨_, List.getElem?_eq_getElem (show n < words.length from hn)⟩
    obtain ⟨wn, hwn⟩ := hwn
    have hG := hS.2 n wn _ hwn hyn
    generalize (ys[n]'(by rw [hS.1]; exact hn)) = y at hyn hG
    refine seq_k fun k e => ?_
    unfold dSet dOp
    simp only [dVar, gotV, slot]
    refine gIx_m updM_same hyn ?_
    show k [some (.w (.ref t)), some (.d (.list (words.map .str))), some (.w (.ref D)), some (.d (.str w)), some (.d (.int (n : Nat))), some (.d y), none, none] _
    subst e
    refine seq_k fun k e => ss_k (o := .nx [some (.w (.ref t)), some (.d (.list (words.map .str))), some (.w (.ref D)), some (.d (.str w)), some (.d (.int (n : Nat))), some (.d y), some (.d (.list (oddE y))), none]) (by
      obtain ⟨c, tx, rfl, _⟩ := hG
      rfl) ?_
    show k _ _
    subst e
    have ho9 : (oddE y).length = 9 := by
      obtain ⟨c, tx, rfl, _⟩ := hG
      rfl
    refine seq_k fun k e => ?_
    unfold dSub dOp
    simp only [dVar, gotV, slot, dCall, dCons, dNil, d1, gLen, lenOf, ho9]
    refine draw_nat (m := 9) (ht ys) (by decide) (by decide) fun j hj => gIx_lst (by omega) fun x hx => ?_
    have hix : ixN (ys.map DV.d).length (n : Nat) = some n := by
      unfold ixN
      rw [if_pos (by omega), if_pos (by rw [List.length_map, hS.1]; omega), Int.toNat_natCast]
    have hset : (ys.map DV.d).set n (.d x) = (ys.set n x).map .d := by rw [List.map_set]
    simp only [lstO, updM_same, oSome, hix, hset, updM_updM]
    have hF := six_set hS hn hyn hx
    have hlen : (ys.set n x).length = 6 := by rw [List.length_set]; exact hS.1
    generalize ys.set n x = zs at hF hlen
    clear hset hix ho9 hx hG hyn hwn hj hS
    subst e
    refine seq_k fun k e => ifS_k fun k1 k2 e1 e2 => ?_
    unfold dTest dOp dCall dCons dNil
    refine dispT (ys := zs) rfl updM_same ?_
    refine spE_k hF ?_
    have hpn := pl_pair "error" (n : Nat)
    refine se_k (t := dTup (dCons (dC (.str ("error" : Str))) (dCons (dVar 4) (dNil)))) (v := .d (.tuple [.str "error", .int (n : Nat)])) (by rfl) ?_
    refine (inferInstance : S2 rNeV qNeV).ok _ _ _ _ _ (neV_pl hpn hpn (by decide)) ?_
    rw [decide_eq_true rfl]
    show (if (!true) = true then k1 _ else k2 _)
    rw [if_neg (by decide)]
    subst e2
    clear e1
    show k _ _
    subst e
    have hpN := pl_pairN "error"
    refine ret_p (E := EndQ Q) (x := .d (.bool ([PyData.none, .tuple [], .tuple (zs.take 5), .list zs, .tuple (zs ++ zs.take 1)].all fun _ => true))) (all_p (stay := fun _ => True) [PyData.none, .tuple [], .tuple (zs.take 5), .list zs, .tuple (zs ++ zs.take 1)] (fun _ => true) (fun K hK => ?_) trivial fun v hv => ⟨_, rfl, fun M K hK => ?_⟩) (hQ _ fun x o h => by
      rw [updM_ne (fun e => by subst e; rw [h] at hD; cases hD)]; exact h)
    · unfold iSeq dTup
      have hMD : (updM M0 D (.lst (zs.map .d))) D = some (.lst (zs.map .d)) := updM_same
      generalize updM M0 D (.lst (zs.map .d)) = M at hMD hK ⊢
      unfold dSl dPart dNoP
      simp only [dCons, dC, dNil, oAll, dAll, dCall, d1, dVar, gotV, slot, dOp]
      refine gSl_m hMD ?_
      refine gTuple_lst ?_
      unfold gList
      rw [seqD_m hMD]
      simp only [oSome]
      refine gSl_m hMD ?_
      have hw : lstD M (.w (.ref D)) = some zs := by
        show (match lstO (M D) with | some xs => dAll xs | none => none) = _
        rw [hMD]; exact dAll_of_map zs
      have hd : lstD M (.d (.list (cutL zs none (some 1)))) = some (cutL zs none (some 1)) := lstD_d
      have hr : ∀ K : DQ, K (.d (.list (zs ++ zs.take 1))) M → rAddV (.w (.ref D)) (.d (.list (cutL zs none (some 1)))) M K := fun K hK => by
        show (match lstD M (.w (.ref D)), lstD M (.d (.list (cutL zs none (some 1)))) with
          | some i, some j => i.length + j.length ≤ sizeLine ∧ K (.d (.list (i ++ j))) M
          | _, _ => False)
        rw [hw, hd]
        have : cutL zs none (some ((1 : Nat) : Int)) = zs.take 1 := cutL_take zs 1
        have h1 : cutL zs none (some 1) = zs.take 1 := this
        rw [h1]
        refine ⟨?_, hK⟩
        have : (7 : Nat) ≤ sizeLine := by decide
        simp; omega
      refine hr _ ?_
      refine gTuple_lst ?_
      have h5 : cutL zs none (some 5) = zs.take 5 := cutL_take zs 5
      rw [h5]
      exact hK
    · have hf : e_fault_errors [.d (erd v)] = some (.d (.tuple [.str "error", .none])) := by
        simp only [List.mem_cons, List.not_mem_nil, or_false] at hv
        rcases hv with rfl | rfl | rfl | rfl | rfl
        · exact fe_unfit _ (fun _ h => by cases h) (fun _ h => by cases h)
        · exact fe_unfit _ (fun _ h => by cases h; decide) (fun _ h => by cases h)
        · exact fe_unfit _ (fun _ h => by cases h; simp; omega) (fun _ h => by cases h)
        · exact fe_unfit _ (fun _ h => by cases h) (fun _ h => by cases h)
        · exact fe_unfit _ (fun _ h => by cases h; simp; omega) (fun _ h => by cases h)
      refine se_k ((op_q (call_q (xs := [.d (erd v)]) (by rfl) hf) (by rfl) (eqV_pl hpN hpN (by decide))).trans (by rw [decide_eq_true rfl])) hK
end K47

end

section
set_option Elab.async false
set_option linter.all false
set_option maxRecDepth 100000
set_option maxHeartbeats 4000000
set_option synthInstance.maxHeartbeats 4000000
set_option synthInstance.maxSize 100000
open VS
local macro_rules | `(tactic| walk_at "ev") => `(tactic| simp only [start_1, start_2, start_3, start_4, start_5, startD, List.map_cons, List.map_nil, List.length_cons, List.length_nil, List.replicate, List.cons_append, List.nil_append, Nat.reduceAdd, Nat.reduceSub, dSet, dOp, dVar, dC, dW, gotV, slot, setS, dRet, dRetN, dDrop, dNext, dCall, dCons, dNil, d1, dTest, dTru, truOf, dAnd, dOr, dNot, dAndV, dOrV, dNotV, dIf, dChain, dTup, dLst, oAll, dAll, oSome, rEqV, rNeV, oEq, peek, rIsV, rNotIsV, isNone, rI2, rII, rAddV, rMulV, rMulS, rIsiV, tyOf, gLen, lenOf, gInt, gAbs, gTuple, gList, seqD, seqOf, lsD, gIx, updM_same, updM_updM, isB_int_int, isB_bool_int, isB_str_int, isB_none_int, isB_list_int, isB_tuple_int, isB_dict_int, isB_int_bool, isB_bool_bool, isB_str_bool, isB_none_bool, isB_list_bool, isB_tuple_bool, isB_dict_bool, isB_int_str, isB_bool_str, isB_str_str, isB_none_str, isB_list_str, isB_tuple_str, isB_dict_str, isB_int_tuple, isB_bool_tuple, isB_str_tuple, isB_none_tuple, isB_list_tuple, isB_tuple_tuple, isB_dict_tuple, isB_int_list, isB_bool_list, isB_str_list, isB_none_list, isB_list_list, isB_tuple_list, isB_dict_list, tyOk_int, tyOk_bool, tyOk_str, tyOk_tuple, tyOk_list, tyOk_dict, Bool.not_true, Bool.not_false, if_true, if_false, ite_true, ite_false, Bool.false_eq_true, true_and, and_true, decide_eq_true_eq, Bool.true_eq_false, dAll_of_map, Bool.not_eq_true', decide_eq_false_iff_not, reduceIte, pu1_iff, pu2_iff, pr1_iff, pr2_iff, pr3_iff, pr4_iff, rInV, rNotInV, in_strL, in_strT, in_str2, in_str0, eqOk_int, eqOk_str, eqOk_bool, eqOk_none, eqv_ii, eqv_ss, eqv_bb, str_beq, int_beq, dAsg, bindP, bindNs, lstAt, List.length_map])
local macro_rules | `(tactic| walk_at "lf") => `(tactic| (intro K hK; walk_at "ev"; exact hK))
local macro_rules | `(tactic| walk_at "pt") => `(tactic| first
  | (with_reducible refine or_p ?_ ?_) <;> walk_at "pt"
  | (with_reducible refine and_p ?_ ?_) <;> walk_at "pt"
  | (with_reducible refine not_p ?_) <;> walk_at "pt"
  | walk_at "lf")
local macro_rules | `(tactic| walk_at "q") => `(tactic| simp only [runE, endV, start_1, start_2, start_3, start_4, start_5, startD, List.map_cons, List.map_nil, List.length_cons, List.length_nil, List.replicate, List.cons_append, List.nil_append, Nat.reduceAdd, Nat.reduceSub, Nat.reduceEqDiff, qVar, qC, qW, qOp, qTest, qTru, truOf, qAnd, qOr, qNot, qAndV, qOrV, qNotV, qIf, qChain, qNeg, qNil, qCons, qTup, qLst, qCall, q1, lenE, lenOf, absE, intE, tupE, listE, qIsiV, tyOf, qEqV, qNeV, eqE_ss, eqE_ii, qIsV, qNotIsV, isNone, qI2, qII, qInV, qNotInV, inE_strs, inE_strT, qIx, ixE, qDGet, qAddV, qMulV, qMulS, qNoP, qPart, qSl, slE, qYes, qNext, qSeq, qBreak, qCont, qDrop, qRet, qRetN, qIfS, qAsg, qSet, qAug, slot, setS, bindP, bindNs, asB, asI, asD, seqD, seqOf, lsD, dAll, dAll_of_map, Option.bind_some, Option.bind_none, Option.map_some, Option.map_none, isB_int_int, isB_bool_int, isB_str_int, isB_none_int, isB_list_int, isB_tuple_int, isB_dict_int, isB_int_bool, isB_bool_bool, isB_str_bool, isB_none_bool, isB_list_bool, isB_tuple_bool, isB_dict_bool, isB_int_str, isB_bool_str, isB_str_str, isB_none_str, isB_list_str, isB_tuple_str, isB_dict_str, isB_int_tuple, isB_bool_tuple, isB_str_tuple, isB_none_tuple, isB_list_tuple, isB_tuple_tuple, isB_dict_tuple, isB_int_list, isB_bool_list, isB_str_list, isB_none_list, isB_list_list, isB_tuple_list, isB_dict_list, tyOk_int, tyOk_bool, tyOk_str, tyOk_tuple, tyOk_list, tyOk_dict, Bool.not_true, Bool.not_false, if_true, if_false, ite_true, ite_false, Bool.false_eq_true, true_and, and_true, Bool.true_eq_false, reduceIte, Bool.and_true, Bool.true_and, Bool.and_false, Bool.false_and, decide_true, decide_false, Int.reduceLE, Int.reduceLT, Int.reduceEq, Int.reduceAdd, Int.reduceSub, Int.reduceNeg, Int.cast_ofNat_Int, List.length_map])
namespace K47
open PySem L2 VS
variable {Fe : Addr → Option EC} {a b c : Addr}
def S_law (Z : Addr → List Int → Prop) : SpD := fun xs M Q => ∃ A ns, xs = [.w (.ref A)] ∧ (M A = some (.scr ns) ∨ Z A ns) ∧ ∀ M', Q (.d (.bool true)) M'
theorem law_len {Z : Addr → List Int → Prop} : ∀ xs M Q, S_law Z xs M Q → xs.length = 1 := fun _ _ _ ⟨_, _, e, _⟩ => by rw [e]; rfl
theorem hs_law {Z : Addr → List Int → Prop} (H : FeOk Fe a b c) : ∀ xs M Q, S_law Z xs M Q → t_law S_faults S_two S_errors (SpE (e_fault_routes Fe a b c)) (SpE e__law_policy) (SpE e_fits_route) (SpE e_route_of) (SpE e__law_due) S_draw S_pick S_routes Z (EndQ Q) (startD 11 xs) M := by
  rintro xs M0 Q ⟨A, ns, rfl, hA, hQ⟩
  unfold t_law
  refine seq_k fun k e => ?_
  unfold dShut dLstM
  walk_at "ev"
  refine ⟨ns, hA, ?_⟩
  walk_at "ev"
  intro D hD
  refine ⟨_, updM_same, ⟨0, ns, 0, rfl, by decide⟩, ?_⟩
  rw [updM_updM]
  have hT : Tape (updM M0 D (.ok TapeP)) D := updM_same
  generalize updM M0 D (.ok TapeP) = M at hT
  subst e
  refine seq_k fun k e => ?_
  walk_at "ev"
  refine ⟨D, rfl, hT, fun Rs hl hrow hap => ?_⟩
  have hR : Rows Rs := ⟨hrow, hap⟩
  subst e
  refine seq_k fun k e => ?_
  unfold dFor
  refine rg_k (n := 8) (by decide) (fun K hK => hK) ⟨trivial, ?_⟩
  refine loopD_inv (fun τ M1 => M1 = M ∧ ∃ o3 o4 o5 o6 o7 o8 o9 o10, τ = [some (.w (.ref A)), some (.w (.ref D)), some (.d (.list (Rs.map toD))), o3, o4, o5, o6, o7, o8, o9, o10]) (fun _ _ _ => trivial) ?_ _ ?_ _ _ ⟨rfl, _, _, _, _, _, _, _, _, rfl⟩
  · rintro τ M1 ⟨rfl, o3, o4, o5, o6, o7, o8, o9, o10, rfl⟩
    show k _ _
    subst e
    refine seq_k fun k e => ifS_k fun k1 k2 e1 e2 => st_k (v := false) (test_q (op_q (x := .d .none) (frc (tupc rfl) (fr_rows H hl hR)) rfl rfl)) ?_
    rw [if_neg Bool.false_ne_true]
    subst e2
    clear e1
    show k _ _
    subst e
    refine seq_k fun k e => ss_k (o := .nx [some (.w (.ref A)), some (.w (.ref D)), some (.d (.list ((Rs.take 36).map toD))), o3, o4, o5, o6, o7, o8, o9, o10]) (set_nx (by
      show some (DV.d (.list (cutL (Rs.map toD) none (some ((36 : Nat) : Int))))) = _
      rw [cutL_take, List.map_take])) ?_
    show k _ _
    subst e
    have hl36 : (Rs.take 36).length ≤ 36 := by rw [List.length_take]; omega
    walk_at "ev"
    refine ⟨D, Rs.take 36, rfl, hT, hR.take 36, hl36, ?_⟩
    walk_at "ev"
    refine ⟨D, Rs.take 36, rfl, hT, hR.take 36, hl36, ?_⟩
    walk_at "ev"
    exact ⟨D, rfl, hT, fun M' _ => hQ M'⟩
  · rintro x hx τ M1 ⟨rfl, o3, o4, o5, o6, o7, o8, o9, o10, rfl⟩
    refine ⟨_, rfl, fun E' er eb hnx hct => ?_⟩
    clear e hx
    refine seq_k fun k e => set_pick (ds := (["GET", "HEAD", "PUT", "POST", "DELETE"] : List Str).map .str) rfl (by rfl) hT (by decide) (by decide) fun d hd => ?_
    obtain ⟨m, _, rfl⟩ := List.mem_map.mp hd
    clear hd
    show k _ _
    subst e
    refine seq_k fun k e => set_pick (ds := (["a", "b", "a.b", "c", "x"] : List Str).map .str) rfl (by rfl) hT (by decide) (by decide) fun d hd => ?_
    obtain ⟨h, _, rfl⟩ := List.mem_map.mp hd
    clear hd
    show k _ _
    subst e
    refine seq_k fun k e => ?_
    walk_at "ev"
    refine lcN_ok hT (fun ds => ∃ n : Nat, n ≤ 4 ∧ ds = rgD 0 n) (fun _ y => ∃ z ∈ (["x", "y", "x y", "z"] : List Str), y = .str z) (fun K hK => ?_) (fun ds _ x _ => ⟨_, rfl, fun M K ht hK => ?_⟩) ?_
    · unfold iRg
      walk_at "ev"
      refine draw_nat (m := 5) hT (by decide) (by decide) fun n hn => ?_
      refine ⟨by constructor <;> omega, ?_⟩
      rw [Int.toNat_natCast]
      exact hK _ ⟨n, by omega, rfl⟩
    · walk_at "ev"
      exact pick_strs (ws := ["x", "y", "x y", "z"]) ht (by decide) (by decide) fun z hz => hK _ ⟨z, hz, rfl⟩
    rintro ds ⟨n, hn, rfl⟩ ys hp
    obtain ⟨segs0, rfl, hsl, _⟩ := paired_strs hp
    have hsl : segs0.length ≤ 4 := by rw [hsl]; simpa [rgD] using hn
    clear hp hn
    walk_at "ev"
    subst e
    refine seq_k fun k e => ?_
    have fin : ∀ segs : List Str, k [some (.w (.ref A)), some (.w (.ref D)), some (.d (.list (Rs.map toD))), some x, some (.d (.str m)), some (.d (.str h)), some (.d (txs segs)), o7, o8, o9, o10] M1 := by
      intro segs
      subst e
      have hv : ∃ v : PyData, Pl 0 v ∧ e_route_of [.d (.tuple (Rs.map toD)), .d (.str m), .d (.str h), .d (txs segs)] = some (.d v) ∧ e__law_due [.d (.list (Rs.map toD)), .d (.str m), .d (.str h), .d (txs segs)] = some (.d v) := by
        have h1 := e_route (Rs := Rs) (m := m) (h := h) (segs := segs) (by omega)
        have h2 := (e_due (Rs := Rs) (m := m) (h := h) (segs := segs) (by omega)).trans h1.symm
        rw [h2]
        obtain ⟨X, hX⟩ : ∃ X, e_route_of [.d (.tuple (Rs.map toD)), .d (.str m), .d (.str h), .d (txs segs)] = some (vB X) := ⟨_, h1⟩
        rw [hX]
        cases X with
        | none => exact ⟨_, Pl.non, rfl, rfl⟩
        | some n => exact ⟨_, Pl.int _, rfl, rfl⟩
      obtain ⟨v, hb, h1, h2⟩ := hv
      refine seq_k fun k e => ifS_k fun k1 k2 e1 e2 => st_k (v := false) (test_q ((op_q (call_q (xs := [.d (.tuple (Rs.map toD)), .d (.str m), .d (.str h), .d (txs segs)]) (cons_q (tupc rfl) rfl) h1) (call_q (xs := [.d (.list (Rs.map toD)), .d (.str m), .d (.str h), .d (txs segs)]) rfl h2) (neV_pl hb hb (by decide))).trans (by rw [decide_eq_true rfl]; rfl))) ?_
      rw [if_neg Bool.false_ne_true]
      subst e2
      clear e1 h1 h2 hb
      show k _ _
      subst e
      refine ⟨trivial, ?_⟩
      refine loopD_inv (fun τ M => M = M1 ∧ ∃ o7 o8 o9, τ = [some (.w (.ref A)), some (.w (.ref D)), some (.d (.list (Rs.map toD))), some x, some (.d (.str m)), some (.d (.str h)), some (.d (txs segs)), o7, o8, o9, o10]) (fun _ _ _ => trivial) ?_ _ ?_ _ _ ⟨rfl, _, _, _, rfl⟩
      · rintro τ M ⟨rfl, o7, o8, o9, rfl⟩
        exact hnx _ _ ⟨rfl, _, _, _, _, _, _, _, _, rfl⟩
      · rintro y hy τ M ⟨rfl, o7, o8, o9, rfl⟩
        obtain ⟨d, hd, rfl⟩ := List.mem_map.mp hy
        obtain ⟨r, _, rfl⟩ := List.mem_map.mp hd
        refine ⟨_, rfl, fun E2 _ _ hn2 _ => ?_⟩
        refine ss_k (o := .nx [some (.w (.ref A)), some (.w (.ref D)), some (.d (.list (Rs.map toD))), some x, some (.d (.str m)), some (.d (.str h)), some (.d (txs segs)), some (.d (toD r)), some (.d (.bool (decide (r.host = h ∨ r.host = "*") && fitB m segs r))), some (.d (.bool (decide (r.host = h ∨ r.host = "*") && fitB m segs r))), o10]) ?_ (hn2 _ _ ⟨rfl, _, _, _, rfl⟩)
        refine (set_seq (v := .d (.bool (decide (r.host = h ∨ r.host = "*") && fitB m segs r))) ?_).trans ((set_seq (v := .d (.bool (decide (r.host = h ∨ r.host = "*") && fitB m segs r))) (call_q (xs := [.d (toD r), .d (.str m), .d (.str h), .d (txs segs)]) rfl (e_fits r m h segs))).trans (ifs_f ?_))
        · unfold fitB
          refine andV_q ?_ fun _ => andV_q ?_ fun _ => ?_
          · exact op_q (x := .d (.str r.host)) (y := .d (.tuple [.str h, .str "*"])) rfl rfl (in2 _ _)
          · exact op_q (x := .d (.str m)) (y := .d (txs r.ms)) rfl rfl (by unfold qInV txs; rw [inE_strT]; rfl)
          · refine (op_q (x := .d (txs (segs.take r.pre.length))) (y := .d (txs r.pre)) ?_ rfl (eqV_pl (n := 1) (Pl.strs _) (Pl.strs _) (by decide))).trans ?_
            · show some (DV.d (.tuple (cutL (segs.map PyData.str) none (some (((r.pre.map PyData.str).length : Nat) : Int))))) = _
              rw [cutL_take, List.length_map]
              unfold txs
              rw [List.map_take]
            · exact congrArg (fun b => some (DV.d (.bool b))) (decide_eq_decide.mpr txs_inj)
        · refine or_q (x := false) (y := false) (not_q (x := true) (tru_q ?_)) fun _ => test_q ?_
          · walk_at "q"
          · cases decide (r.host = h ∨ r.host = "*") && fitB m segs r <;> rfl
    refine ifS_k fun k1 k2 e1 e2 => ?_
    have hskip : k1 M1 → k2 M1 → True := fun _ _ => trivial
    have hp : Pl 3 (.list (Rs.map toD)) := Pl.lst fun x hx => by
      obtain ⟨r, _, rfl⟩ := List.mem_map.mp hx
      exact toD_inj_pl r
    show dTest (dOp rNeV (dVar 2) (dLst dNil)) _ _ _
    refine st_k (v := !decide (PyData.list (Rs.map toD) = .list [])) (test_q (op_q rfl rfl (neV_pl hp (Pl.lst (n := 2) (xs := []) fun _ h => by cases h) (by decide)))) ?_
    have hk2 : k2 M1 := by subst e2; exact fin segs0
    cases hRs : Rs with
    | nil => exact hk2
    | cons r0 rs0 =>
      rw [← hRs, decide_eq_false (by rw [hRs]; simp)]
      show dTest (dOp rEqV (dCall S_draw (dCons (dVar 1) (dCons (dC (.int 2)) dNil))) (dC (.int 0))) _ _ _
      walk_at "ev"
      refine draw_nat (m := 2) hT (by decide) (by decide) fun n hn => ?_
      walk_at "ev"
      split
      · subst e1
        unfold dSet dOp dSl dPart dNoP
        simp only [dCall, dCons, dNil, dVar, gotV, slot, dC]
        refine pick_lst hT (by rw [hRs]; simp) (by rw [List.length_map]; omega) fun d hd => ?_
        obtain ⟨r, hr, rfl⟩ := List.mem_map.mp hd
        have hpre := (hrow r hr).ok.preL
        have h1 : cutL (segs0.map PyData.str) none (some 1) = (segs0.take 1).map PyData.str := by
          rw [List.map_take]; exact cutL_take _ 1
        have hgx : ∀ K : DQ, K (.d (txs r.pre)) M1 → gIx (.d (toD r)) (.d (.int 1)) M1 K := fun K hK => hK
        refine hgx _ ?_
        have hgs : ∀ K : DQ, K (.d (.tuple (cutL (segs0.map PyData.str) none (some 1)))) M1 → gSl (.d (.tuple (segs0.map .str))) none (some 1) M1 K := fun K hK => hK
        refine hgs _ ?_
        rw [h1]
        refine ⟨?_, ?_⟩
        · have : (20 : Nat) ≤ sizeLine := by decide
          simp; omega
        · have := fin (r.pre ++ segs0.take 1)
          unfold txs at this
          rw [List.map_append] at this
          exact this
      · exact hk2
end K47

end

set_option Elab.async false
set_option maxRecDepth 100000
set_option maxHeartbeats 4000000
set_option linter.all false
/-! printed by wip/gen.py: the end -/
namespace K47
open PySem PySem.Spec PyProof.Rows L2 VS

theorem all_mk {l : PySem.W.OpenLaw} {w : World} {K : PySem.W.Frag} {h : Heap} {mg : Str → Option Value} {fa : Addr} (X : K.In h) (G : h.Ns mainGlobals mg) (hfa : mg "law" = some (.ref fa))
    {f0 : Addr} {od0 an0 : Option Addr} {sl0 : Array (Option Value)} {oc0 kV0 dc0 pm0 cd0 ct0 : Value}
    {f1 : Addr} {od1 an1 : Option Addr} {sl1 : Array (Option Value)} {oc1 kV1 dc1 pm1 cd1 ct1 : Value}
    {f2 : Addr} {od2 an2 : Option Addr} {sl2 : Array (Option Value)} {oc2 kV2 dc2 pm2 cd2 ct2 : Value}
    {f3 : Addr} {od3 an3 : Option Addr} {sl3 : Array (Option Value)} {oc3 kV3 dc3 pm3 cd3 ct3 : Value}
    {f4 : Addr} {od4 an4 : Option Addr} {sl4 : Array (Option Value)} {oc4 kV4 dc4 pm4 cd4 ct4 : Value}
    {f5 : Addr} {od5 an5 : Option Addr} {sl5 : Array (Option Value)} {oc5 kV5 dc5 pm5 cd5 ct5 : Value}
    {f6 : Addr} {od6 an6 : Option Addr} {sl6 : Array (Option Value)} {oc6 kV6 dc6 pm6 cd6 ct6 : Value}
    {f7 : Addr} {od7 an7 : Option Addr} {sl7 : Array (Option Value)} {oc7 kV7 dc7 pm7 cd7 ct7 : Value}
    {f8 : Addr} {od8 an8 : Option Addr} {sl8 : Array (Option Value)} {oc8 kV8 dc8 pm8 cd8 ct8 : Value}
    {f9 : Addr} {od9 an9 : Option Addr} {sl9 : Array (Option Value)} {oc9 kV9 dc9 pm9 cd9 ct9 : Value}
    {f10 : Addr} {od10 an10 : Option Addr} {sl10 : Array (Option Value)} {oc10 kV10 dc10 pm10 cd10 ct10 : Value}
    {f11 : Addr} {od11 an11 : Option Addr} {sl11 : Array (Option Value)} {oc11 kV11 dc11 pm11 cd11 ct11 : Value}
    {f12 : Addr} {od12 an12 : Option Addr} {sl12 : Array (Option Value)} {oc12 kV12 dc12 pm12 cd12 ct12 : Value}
    {f13 : Addr} {od13 an13 : Option Addr} {sl13 : Array (Option Value)} {oc13 kV13 dc13 pm13 cd13 ct13 : Value}
    {f14 : Addr} {od14 an14 : Option Addr} {sl14 : Array (Option Value)} {oc14 kV14 dc14 pm14 cd14 ct14 : Value}
    {f15 : Addr} {od15 an15 : Option Addr} {sl15 : Array (Option Value)} {oc15 kV15 dc15 pm15 cd15 ct15 : Value}
    {f16 : Addr} {od16 an16 : Option Addr} {sl16 : Array (Option Value)} {oc16 kV16 dc16 pm16 cd16 ct16 : Value}
    {f17 : Addr} {od17 an17 : Option Addr} {sl17 : Array (Option Value)} {oc17 kV17 dc17 pm17 cd17 ct17 : Value}
    {f18 : Addr} {od18 an18 : Option Addr} {sl18 : Array (Option Value)} {oc18 kV18 dc18 pm18 cd18 ct18 : Value}
    {f19 : Addr} {od19 an19 : Option Addr} {sl19 : Array (Option Value)} {oc19 kV19 dc19 pm19 cd19 ct19 : Value}
    {f20 : Addr} {od20 an20 : Option Addr} {sl20 : Array (Option Value)} {oc20 kV20 dc20 pm20 cd20 ct20 : Value}
    {f21 : Addr} {od21 an21 : Option Addr} {sl21 : Array (Option Value)} {oc21 kV21 dc21 pm21 cd21 ct21 : Value}
    {f22 : Addr} {od22 an22 : Option Addr} {sl22 : Array (Option Value)} {oc22 kV22 dc22 pm22 cd22 ct22 : Value}
    {f23 : Addr} {od23 an23 : Option Addr} {sl23 : Array (Option Value)} {oc23 kV23 dc23 pm23 cd23 ct23 : Value}
    {f24 : Addr} {od24 an24 : Option Addr} {sl24 : Array (Option Value)} {oc24 kV24 dc24 pm24 cd24 ct24 : Value}
    {f25 : Addr} {od25 an25 : Option Addr} {sl25 : Array (Option Value)} {oc25 kV25 dc25 pm25 cd25 ct25 : Value}
    {f26 : Addr} {od26 an26 : Option Addr} {sl26 : Array (Option Value)} {oc26 kV26 dc26 pm26 cd26 ct26 : Value}
    {f27 : Addr} {od27 an27 : Option Addr} {sl27 : Array (Option Value)} {oc27 kV27 dc27 pm27 cd27 ct27 : Value}
    {f28 : Addr} {od28 an28 : Option Addr} {sl28 : Array (Option Value)} {oc28 kV28 dc28 pm28 cd28 ct28 : Value}
    {f29 : Addr} {od29 an29 : Option Addr} {sl29 : Array (Option Value)} {oc29 kV29 dc29 pm29 cd29 ct29 : Value}
    {f30 : Addr} {od30 an30 : Option Addr} {sl30 : Array (Option Value)} {oc30 kV30 dc30 pm30 cd30 ct30 : Value}
    {u_ERROR_WORDS : Value}
    {u_HOST_SIGNS : Value}
    {u_METHODS : Value}
    {u_MOST_HOST : Value}
    {u_MOST_NAMES : Value}
    {u_MOST_PLAIN : Value}
    {u_MOST_PREFIX : Value}
    {u_MOST_PUT : Value}
    {u_MOST_ROUTES : Value}
    {u_MOST_SEGMENT : Value}
    {u_MOST_TEXT : Value}
    {u_MOST_TRIES : Value}
    {u_MOST_WAIT : Value}
    {u_PLAIN : Value}
    {u_SIGNS : Value}
    {A_ERROR_WORDS : Addr} {its_ERROR_WORDS : Array Value} {n_ERROR_WORDS : Nat} {xs_ERROR_WORDS : Array (Option Value)}
    (a0 : PySem.W.nsIn K mainGlobals "is_number" = some (some (.ref f0))) (l0 : K.lookup f0 = some ⟨oc0, od0, .func (PySem.W.fnOf "is_number" "is_number" (defArgs s_is_number) (defBody s_is_number) (defScope s_is_number) .none kV0 dc0 pm0 an0 cd0 ct0), sl0⟩) (c0 : PySem.W.codeIn K cd0 "is_number" = true) (k0 : PySem.W.keepIn K (.ref f0) = true)
    (a1 : PySem.W.nsIn K mainGlobals "is_signs" = some (some (.ref f1))) (l1 : K.lookup f1 = some ⟨oc1, od1, .func (PySem.W.fnOf "is_signs" "is_signs" (defArgs s_is_signs) (defBody s_is_signs) (defScope s_is_signs) .none kV1 dc1 pm1 an1 cd1 ct1), sl1⟩) (c1 : PySem.W.codeIn K cd1 "is_signs" = true) (k1 : PySem.W.keepIn K (.ref f1) = true)
    (a2 : PySem.W.nsIn K mainGlobals "is_host" = some (some (.ref f2))) (l2 : K.lookup f2 = some ⟨oc2, od2, .func (PySem.W.fnOf "is_host" "is_host" (defArgs s_is_host) (defBody s_is_host) (defScope s_is_host) .none kV2 dc2 pm2 an2 cd2 ct2), sl2⟩) (c2 : PySem.W.codeIn K cd2 "is_host" = true) (k2 : PySem.W.keepIn K (.ref f2) = true)
    (a3 : PySem.W.nsIn K mainGlobals "is_segment" = some (some (.ref f3))) (l3 : K.lookup f3 = some ⟨oc3, od3, .func (PySem.W.fnOf "is_segment" "is_segment" (defArgs s_is_segment) (defBody s_is_segment) (defScope s_is_segment) .none kV3 dc3 pm3 an3 cd3 ct3), sl3⟩) (c3 : PySem.W.codeIn K cd3 "is_segment" = true) (k3 : PySem.W.keepIn K (.ref f3) = true)
    (a4 : PySem.W.nsIn K mainGlobals "is_plain_segment" = some (some (.ref f4))) (l4 : K.lookup f4 = some ⟨oc4, od4, .func (PySem.W.fnOf "is_plain_segment" "is_plain_segment" (defArgs s_is_plain_segment) (defBody s_is_plain_segment) (defScope s_is_plain_segment) .none kV4 dc4 pm4 an4 cd4 ct4), sl4⟩) (c4 : PySem.W.codeIn K cd4 "is_plain_segment" = true) (k4 : PySem.W.keepIn K (.ref f4) = true)
    (a5 : PySem.W.nsIn K mainGlobals "is_row_of" = some (some (.ref f5))) (l5 : K.lookup f5 = some ⟨oc5, od5, .func (PySem.W.fnOf "is_row_of" "is_row_of" (defArgs s_is_row_of) (defBody s_is_row_of) (defScope s_is_row_of) .none kV5 dc5 pm5 an5 cd5 ct5), sl5⟩) (c5 : PySem.W.codeIn K cd5 "is_row_of" = true) (k5 : PySem.W.keepIn K (.ref f5) = true)
    (a6 : PySem.W.nsIn K mainGlobals "is_within" = some (some (.ref f6))) (l6 : K.lookup f6 = some ⟨oc6, od6, .func (PySem.W.fnOf "is_within" "is_within" (defArgs s_is_within) (defBody s_is_within) (defScope s_is_within) .none kV6 dc6 pm6 an6 cd6 ct6), sl6⟩) (c6 : PySem.W.codeIn K cd6 "is_within" = true) (k6 : PySem.W.keepIn K (.ref f6) = true)
    (a7 : PySem.W.nsIn K mainGlobals "is_methods" = some (some (.ref f7))) (l7 : K.lookup f7 = some ⟨oc7, od7, .func (PySem.W.fnOf "is_methods" "is_methods" (defArgs s_is_methods) (defBody s_is_methods) (defScope s_is_methods) .none kV7 dc7 pm7 an7 cd7 ct7), sl7⟩) (c7 : PySem.W.codeIn K cd7 "is_methods" = true) (k7 : PySem.W.keepIn K (.ref f7) = true)
    (a8 : PySem.W.nsIn K mainGlobals "is_named" = some (some (.ref f8))) (l8 : K.lookup f8 = some ⟨oc8, od8, .func (PySem.W.fnOf "is_named" "is_named" (defArgs s_is_named) (defBody s_is_named) (defScope s_is_named) .none kV8 dc8 pm8 an8 cd8 ct8), sl8⟩) (c8 : PySem.W.codeIn K cd8 "is_named" = true) (k8 : PySem.W.keepIn K (.ref f8) = true)
    (a9 : PySem.W.nsIn K mainGlobals "is_route" = some (some (.ref f9))) (l9 : K.lookup f9 = some ⟨oc9, od9, .func (PySem.W.fnOf "is_route" "is_route" (defArgs s_is_route) (defBody s_is_route) (defScope s_is_route) .none kV9 dc9 pm9 an9 cd9 ct9), sl9⟩) (c9 : PySem.W.codeIn K cd9 "is_route" = true) (k9 : PySem.W.keepIn K (.ref f9) = true)
    (a10 : PySem.W.nsIn K mainGlobals "is_same" = some (some (.ref f10))) (l10 : K.lookup f10 = some ⟨oc10, od10, .func (PySem.W.fnOf "is_same" "is_same" (defArgs s_is_same) (defBody s_is_same) (defScope s_is_same) .none kV10 dc10 pm10 an10 cd10 ct10), sl10⟩) (c10 : PySem.W.codeIn K cd10 "is_same" = true) (k10 : PySem.W.keepIn K (.ref f10) = true)
    (a11 : PySem.W.nsIn K mainGlobals "fault_of_route" = some (some (.ref f11))) (l11 : K.lookup f11 = some ⟨oc11, od11, .func (PySem.W.fnOf "fault_of_route" "fault_of_route" (defArgs s_fault_of_route) (defBody s_fault_of_route) (defScope s_fault_of_route) .none kV11 dc11 pm11 an11 cd11 ct11), sl11⟩) (c11 : PySem.W.codeIn K cd11 "fault_of_route" = true) (k11 : PySem.W.keepIn K (.ref f11) = true)
    (a12 : PySem.W.nsIn K mainGlobals "fault_routes" = some (some (.ref f12))) (l12 : K.lookup f12 = some ⟨oc12, od12, .func (PySem.W.fnOf "fault_routes" "fault_routes" (defArgs s_fault_routes) (defBody s_fault_routes) (defScope s_fault_routes) .none kV12 dc12 pm12 an12 cd12 ct12), sl12⟩) (c12 : PySem.W.codeIn K cd12 "fault_routes" = true) (k12 : PySem.W.keepIn K (.ref f12) = true)
    (a13 : PySem.W.nsIn K mainGlobals "is_error" = some (some (.ref f13))) (l13 : K.lookup f13 = some ⟨oc13, od13, .func (PySem.W.fnOf "is_error" "is_error" (defArgs s_is_error) (defBody s_is_error) (defScope s_is_error) .none kV13 dc13 pm13 an13 cd13 ct13), sl13⟩) (c13 : PySem.W.codeIn K cd13 "is_error" = true) (k13 : PySem.W.keepIn K (.ref f13) = true)
    (a14 : PySem.W.nsIn K mainGlobals "fault_errors" = some (some (.ref f14))) (l14 : K.lookup f14 = some ⟨oc14, od14, .func (PySem.W.fnOf "fault_errors" "fault_errors" (defArgs s_fault_errors) (defBody s_fault_errors) (defScope s_fault_errors) .none kV14 dc14 pm14 an14 cd14 ct14), sl14⟩) (c14 : PySem.W.codeIn K cd14 "fault_errors" = true) (k14 : PySem.W.keepIn K (.ref f14) = true)
    (a15 : PySem.W.nsIn K mainGlobals "error_row" = some (some (.ref f15))) (l15 : K.lookup f15 = some ⟨oc15, od15, .func (PySem.W.fnOf "error_row" "error_row" (defArgs s_error_row) (defBody s_error_row) (defScope s_error_row) .none kV15 dc15 pm15 an15 cd15 ct15), sl15⟩) (c15 : PySem.W.codeIn K cd15 "error_row" = true) (k15 : PySem.W.keepIn K (.ref f15) = true)
    (a16 : PySem.W.nsIn K mainGlobals "fits_route" = some (some (.ref f16))) (l16 : K.lookup f16 = some ⟨oc16, od16, .func (PySem.W.fnOf "fits_route" "fits_route" (defArgs s_fits_route) (defBody s_fits_route) (defScope s_fits_route) .none kV16 dc16 pm16 an16 cd16 ct16), sl16⟩) (c16 : PySem.W.codeIn K cd16 "fits_route" = true) (k16 : PySem.W.keepIn K (.ref f16) = true)
    (a17 : PySem.W.nsIn K mainGlobals "longest" = some (some (.ref f17))) (l17 : K.lookup f17 = some ⟨oc17, od17, .func (PySem.W.fnOf "longest" "longest" (defArgs s_longest) (defBody s_longest) (defScope s_longest) .none kV17 dc17 pm17 an17 cd17 ct17), sl17⟩) (c17 : PySem.W.codeIn K cd17 "longest" = true) (k17 : PySem.W.keepIn K (.ref f17) = true)
    (a18 : PySem.W.nsIn K mainGlobals "route_of" = some (some (.ref f18))) (l18 : K.lookup f18 = some ⟨oc18, od18, .func (PySem.W.fnOf "route_of" "route_of" (defArgs s_route_of) (defBody s_route_of) (defScope s_route_of) .none kV18 dc18 pm18 an18 cd18 ct18), sl18⟩) (c18 : PySem.W.codeIn K cd18 "route_of" = true) (k18 : PySem.W.keepIn K (.ref f18) = true)
    (a19 : PySem.W.nsIn K mainGlobals "_law_draw" = some (some (.ref f19))) (l19 : K.lookup f19 = some ⟨oc19, od19, .func (PySem.W.fnOf "_law_draw" "_law_draw" (defArgs s__law_draw) (defBody s__law_draw) (defScope s__law_draw) .none kV19 dc19 pm19 an19 cd19 ct19), sl19⟩) (c19 : PySem.W.codeIn K cd19 "_law_draw" = true) (k19 : PySem.W.keepIn K (.ref f19) = true)
    (a20 : PySem.W.nsIn K mainGlobals "_law_pick" = some (some (.ref f20))) (l20 : K.lookup f20 = some ⟨oc20, od20, .func (PySem.W.fnOf "_law_pick" "_law_pick" (defArgs s__law_pick) (defBody s__law_pick) (defScope s__law_pick) .none kV20 dc20 pm20 an20 cd20 ct20), sl20⟩) (c20 : PySem.W.codeIn K cd20 "_law_pick" = true) (k20 : PySem.W.keepIn K (.ref f20) = true)
    (a21 : PySem.W.nsIn K mainGlobals "_law_route" = some (some (.ref f21))) (l21 : K.lookup f21 = some ⟨oc21, od21, .func (PySem.W.fnOf "_law_route" "_law_route" (defArgs s__law_route) (defBody s__law_route) (defScope s__law_route) .none kV21 dc21 pm21 an21 cd21 ct21), sl21⟩) (c21 : PySem.W.codeIn K cd21 "_law_route" = true) (k21 : PySem.W.keepIn K (.ref f21) = true)
    (a22 : PySem.W.nsIn K mainGlobals "_law_same" = some (some (.ref f22))) (l22 : K.lookup f22 = some ⟨oc22, od22, .func (PySem.W.fnOf "_law_same" "_law_same" (defArgs s__law_same) (defBody s__law_same) (defScope s__law_same) .none kV22 dc22 pm22 an22 cd22 ct22), sl22⟩) (c22 : PySem.W.codeIn K cd22 "_law_same" = true) (k22 : PySem.W.keepIn K (.ref f22) = true)
    (a23 : PySem.W.nsIn K mainGlobals "_law_routes" = some (some (.ref f23))) (l23 : K.lookup f23 = some ⟨oc23, od23, .func (PySem.W.fnOf "_law_routes" "_law_routes" (defArgs s__law_routes) (defBody s__law_routes) (defScope s__law_routes) .none kV23 dc23 pm23 an23 cd23 ct23), sl23⟩) (c23 : PySem.W.codeIn K cd23 "_law_routes" = true) (k23 : PySem.W.keepIn K (.ref f23) = true)
    (a24 : PySem.W.nsIn K mainGlobals "_law_due" = some (some (.ref f24))) (l24 : K.lookup f24 = some ⟨oc24, od24, .func (PySem.W.fnOf "_law_due" "_law_due" (defArgs s__law_due) (defBody s__law_due) (defScope s__law_due) .none kV24 dc24 pm24 an24 cd24 ct24), sl24⟩) (c24 : PySem.W.codeIn K cd24 "_law_due" = true) (k24 : PySem.W.keepIn K (.ref f24) = true)
    (a25 : PySem.W.nsIn K mainGlobals "_law_policy" = some (some (.ref f25))) (l25 : K.lookup f25 = some ⟨oc25, od25, .func (PySem.W.fnOf "_law_policy" "_law_policy" (defArgs s__law_policy) (defBody s__law_policy) (defScope s__law_policy) .none kV25 dc25 pm25 an25 cd25 ct25), sl25⟩) (c25 : PySem.W.codeIn K cd25 "_law_policy" = true) (k25 : PySem.W.keepIn K (.ref f25) = true)
    (a26 : PySem.W.nsIn K mainGlobals "_law_bent" = some (some (.ref f26))) (l26 : K.lookup f26 = some ⟨oc26, od26, .func (PySem.W.fnOf "_law_bent" "_law_bent" (defArgs s__law_bent) (defBody s__law_bent) (defScope s__law_bent) .none kV26 dc26 pm26 an26 cd26 ct26), sl26⟩) (c26 : PySem.W.codeIn K cd26 "_law_bent" = true) (k26 : PySem.W.keepIn K (.ref f26) = true)
    (a27 : PySem.W.nsIn K mainGlobals "_law_faults" = some (some (.ref f27))) (l27 : K.lookup f27 = some ⟨oc27, od27, .func (PySem.W.fnOf "_law_faults" "_law_faults" (defArgs s__law_faults) (defBody s__law_faults) (defScope s__law_faults) .none kV27 dc27 pm27 an27 cd27 ct27), sl27⟩) (c27 : PySem.W.codeIn K cd27 "_law_faults" = true) (k27 : PySem.W.keepIn K (.ref f27) = true)
    (a28 : PySem.W.nsIn K mainGlobals "_law_two_faults" = some (some (.ref f28))) (l28 : K.lookup f28 = some ⟨oc28, od28, .func (PySem.W.fnOf "_law_two_faults" "_law_two_faults" (defArgs s__law_two_faults) (defBody s__law_two_faults) (defScope s__law_two_faults) .none kV28 dc28 pm28 an28 cd28 ct28), sl28⟩) (c28 : PySem.W.codeIn K cd28 "_law_two_faults" = true) (k28 : PySem.W.keepIn K (.ref f28) = true)
    (a29 : PySem.W.nsIn K mainGlobals "_law_errors" = some (some (.ref f29))) (l29 : K.lookup f29 = some ⟨oc29, od29, .func (PySem.W.fnOf "_law_errors" "_law_errors" (defArgs s__law_errors) (defBody s__law_errors) (defScope s__law_errors) .none kV29 dc29 pm29 an29 cd29 ct29), sl29⟩) (c29 : PySem.W.codeIn K cd29 "_law_errors" = true) (k29 : PySem.W.keepIn K (.ref f29) = true)
    (a30 : PySem.W.nsIn K mainGlobals "law" = some (some (.ref f30))) (l30 : K.lookup f30 = some ⟨oc30, od30, .func (PySem.W.fnOf "law" "law" (defArgs s_law) (defBody s_law) (defScope s_law) .none kV30 dc30 pm30 an30 cd30 ct30), sl30⟩) (c30 : PySem.W.codeIn K cd30 "law" = true) (k30 : PySem.W.keepIn K (.ref f30) = true)
    (q_ERROR_WORDS : PySem.W.nsIn K mainGlobals "ERROR_WORDS" = some (some u_ERROR_WORDS)) (d_ERROR_WORDS : KD K u_ERROR_WORDS c_ERROR_WORDS)
    (q_HOST_SIGNS : PySem.W.nsIn K mainGlobals "HOST_SIGNS" = some (some u_HOST_SIGNS)) (d_HOST_SIGNS : KD K u_HOST_SIGNS c_HOST_SIGNS)
    (q_METHODS : PySem.W.nsIn K mainGlobals "METHODS" = some (some u_METHODS)) (d_METHODS : KD K u_METHODS c_METHODS)
    (q_MOST_HOST : PySem.W.nsIn K mainGlobals "MOST_HOST" = some (some u_MOST_HOST)) (d_MOST_HOST : KD K u_MOST_HOST c_MOST_HOST)
    (q_MOST_NAMES : PySem.W.nsIn K mainGlobals "MOST_NAMES" = some (some u_MOST_NAMES)) (d_MOST_NAMES : KD K u_MOST_NAMES c_MOST_NAMES)
    (q_MOST_PLAIN : PySem.W.nsIn K mainGlobals "MOST_PLAIN" = some (some u_MOST_PLAIN)) (d_MOST_PLAIN : KD K u_MOST_PLAIN c_MOST_PLAIN)
    (q_MOST_PREFIX : PySem.W.nsIn K mainGlobals "MOST_PREFIX" = some (some u_MOST_PREFIX)) (d_MOST_PREFIX : KD K u_MOST_PREFIX c_MOST_PREFIX)
    (q_MOST_PUT : PySem.W.nsIn K mainGlobals "MOST_PUT" = some (some u_MOST_PUT)) (d_MOST_PUT : KD K u_MOST_PUT c_MOST_PUT)
    (q_MOST_ROUTES : PySem.W.nsIn K mainGlobals "MOST_ROUTES" = some (some u_MOST_ROUTES)) (d_MOST_ROUTES : KD K u_MOST_ROUTES c_MOST_ROUTES)
    (q_MOST_SEGMENT : PySem.W.nsIn K mainGlobals "MOST_SEGMENT" = some (some u_MOST_SEGMENT)) (d_MOST_SEGMENT : KD K u_MOST_SEGMENT c_MOST_SEGMENT)
    (q_MOST_TEXT : PySem.W.nsIn K mainGlobals "MOST_TEXT" = some (some u_MOST_TEXT)) (d_MOST_TEXT : KD K u_MOST_TEXT c_MOST_TEXT)
    (q_MOST_TRIES : PySem.W.nsIn K mainGlobals "MOST_TRIES" = some (some u_MOST_TRIES)) (d_MOST_TRIES : KD K u_MOST_TRIES c_MOST_TRIES)
    (q_MOST_WAIT : PySem.W.nsIn K mainGlobals "MOST_WAIT" = some (some u_MOST_WAIT)) (d_MOST_WAIT : KD K u_MOST_WAIT c_MOST_WAIT)
    (q_PLAIN : PySem.W.nsIn K mainGlobals "PLAIN" = some (some u_PLAIN)) (d_PLAIN : KD K u_PLAIN c_PLAIN)
    (q_SIGNS : PySem.W.nsIn K mainGlobals "SIGNS" = some (some u_SIGNS)) (d_SIGNS : KD K u_SIGNS c_SIGNS)
    (xq_ERROR_WORDS : PySem.W.nsIn K mainGlobals "ERROR_WORDS" = some (some (.ref A_ERROR_WORDS))) (xl_ERROR_WORDS : K.lookup A_ERROR_WORDS = some ⟨.type "tuple", none, .seq its_ERROR_WORDS n_ERROR_WORDS, xs_ERROR_WORDS⟩) (xn_ERROR_WORDS : its_ERROR_WORDS.size ≤ sizeLine) (xv_ERROR_WORDS : Vals (w_ERROR_WORDS.map V.str) its_ERROR_WORDS.toList)
    (z_abs : PySem.W.nsIn K mainGlobals "abs" = some none)
    (z_all : PySem.W.nsIn K mainGlobals "all" = some none)
    (z_any : PySem.W.nsIn K mainGlobals "any" = some none)
    (z_bool : PySem.W.nsIn K mainGlobals "bool" = some none)
    (z_int : PySem.W.nsIn K mainGlobals "int" = some none)
    (z_isinstance : PySem.W.nsIn K mainGlobals "isinstance" = some none)
    (z_len : PySem.W.nsIn K mainGlobals "len" = some none)
    (z_list : PySem.W.nsIn K mainGlobals "list" = some none)
    (z_range : PySem.W.nsIn K mainGlobals "range" = some none)
    (z_set : PySem.W.nsIn K mainGlobals "set" = some none)
    (z_str : PySem.W.nsIn K mainGlobals "str" = some none)
    (z_tuple : PySem.W.nsIn K mainGlobals "tuple" = some none)
    (ne_is_named_is_plain_segment : f8 ≠ f4)
    (ne_is_named_is_segment : f8 ≠ f3)
    (ne_is_plain_segment_is_segment : f4 ≠ f3)
    : ∃ fd : FuncData, (∀ (s : Shared) (v : Value), BindsTo s fd ⟨[v], []⟩ [("script", v)]) ∧ ∀ base : Heap, K.In base → base.Ns mainGlobals mg → FnOk l.prog w K mg base CX0 8 fa fd ["script"] (upSp K (S_law (Zs K))) := by
  have e := hfa.symm.trans (PySem.W.mg_of X G a30)
  cases e
  have T : Txt K mg f8 f4 f3 := ⟨kc_mk X G q_ERROR_WORDS d_ERROR_WORDS,
    kc_mk X G q_HOST_SIGNS d_HOST_SIGNS,
    kc_mk X G q_METHODS d_METHODS,
    kc_mk X G q_MOST_HOST d_MOST_HOST,
    kc_mk X G q_MOST_NAMES d_MOST_NAMES,
    kc_mk X G q_MOST_PLAIN d_MOST_PLAIN,
    kc_mk X G q_MOST_PREFIX d_MOST_PREFIX,
    kc_mk X G q_MOST_PUT d_MOST_PUT,
    kc_mk X G q_MOST_ROUTES d_MOST_ROUTES,
    kc_mk X G q_MOST_SEGMENT d_MOST_SEGMENT,
    kc_mk X G q_MOST_TEXT d_MOST_TEXT,
    kc_mk X G q_MOST_TRIES d_MOST_TRIES,
    kc_mk X G q_MOST_WAIT d_MOST_WAIT,
    kc_mk X G q_PLAIN d_PLAIN,
    kc_mk X G q_SIGNS d_SIGNS,
    xc_mk X G xq_ERROR_WORDS xl_ERROR_WORDS xn_ERROR_WORDS xv_ERROR_WORDS,
    PySem.W.mg_none_of X G z_abs,
    PySem.W.mg_none_of X G z_all,
    PySem.W.mg_none_of X G z_any,
    PySem.W.mg_none_of X G z_bool,
    PySem.W.mg_none_of X G z_int,
    PySem.W.mg_none_of X G z_isinstance,
    PySem.W.mg_none_of X G z_len,
    PySem.W.mg_none_of X G z_list,
    PySem.W.mg_none_of X G z_range,
    PySem.W.mg_none_of X G z_set,
    PySem.W.mg_none_of X G z_str,
    PySem.W.mg_none_of X G z_tuple,
    PySem.W.mg_of X G a8,
    PySem.W.mg_of X G a4,
    PySem.W.mg_of X G a3,
    tp_mk X G a0 l0 c0 k0 (fun F => F.binds fun _ _ _ _ _ _ us hl => match us, hl with | [_], _ => rfl),
    tp_mk X G a1 l1 c1 k1 (fun F => F.binds fun _ _ _ _ _ _ us hl => match us, hl with | [_], _ => rfl),
    tp_mk X G a2 l2 c2 k2 (fun F => F.binds fun _ _ _ _ _ _ us hl => match us, hl with | [_], _ => rfl),
    tp_mk X G a3 l3 c3 k3 (fun F => F.binds fun _ _ _ _ _ _ us hl => match us, hl with | [_], _ => rfl),
    tp_mk X G a4 l4 c4 k4 (fun F => F.binds fun _ _ _ _ _ _ us hl => match us, hl with | [_], _ => rfl),
    tp_mk X G a5 l5 c5 k5 (fun F => F.binds fun _ _ _ _ _ _ us hl => match us, hl with | [_, _, _], _ => rfl),
    tp_mk X G a6 l6 c6 k6 (fun F => F.binds fun _ _ _ _ _ _ us hl => match us, hl with | [_, _, _], _ => rfl),
    tp_mk X G a7 l7 c7 k7 (fun F => F.binds fun _ _ _ _ _ _ us hl => match us, hl with | [_], _ => rfl),
    tp_mk X G a8 l8 c8 k8 (fun F => F.binds fun _ _ _ _ _ _ us hl => match us, hl with | [_], _ => rfl),
    tp_mk X G a9 l9 c9 k9 (fun F => F.binds fun _ _ _ _ _ _ us hl => match us, hl with | [_], _ => rfl),
    tp_mk X G a10 l10 c10 k10 (fun F => F.binds fun _ _ _ _ _ _ us hl => match us, hl with | [_, _], _ => rfl),
    tp_mk X G a11 l11 c11 k11 (fun F => F.binds fun _ _ _ _ _ _ us hl => match us, hl with | [_, _, _, _], _ => rfl),
    tp_mk X G a12 l12 c12 k12 (fun F => F.binds fun _ _ _ _ _ _ us hl => match us, hl with | [_], _ => rfl),
    tp_mk X G a13 l13 c13 k13 (fun F => F.binds fun _ _ _ _ _ _ us hl => match us, hl with | [_, _], _ => rfl),
    tp_mk X G a14 l14 c14 k14 (fun F => F.binds fun _ _ _ _ _ _ us hl => match us, hl with | [_], _ => rfl),
    tp_mk X G a15 l15 c15 k15 (fun F => F.binds fun _ _ _ _ _ _ us hl => match us, hl with | [_, _], _ => rfl),
    tp_mk X G a16 l16 c16 k16 (fun F => F.binds fun _ _ _ _ _ _ us hl => match us, hl with | [_, _, _, _], _ => rfl),
    tp_mk X G a17 l17 c17 k17 (fun F => F.binds fun _ _ _ _ _ _ us hl => match us, hl with | [_, _, _, _], _ => rfl),
    tp_mk X G a18 l18 c18 k18 (fun F => F.binds fun _ _ _ _ _ _ us hl => match us, hl with | [_, _, _, _], _ => rfl),
    tp_mk X G a19 l19 c19 k19 (fun F => F.binds fun _ _ _ _ _ _ us hl => match us, hl with | [_, _], _ => rfl),
    tp_mk X G a20 l20 c20 k20 (fun F => F.binds fun _ _ _ _ _ _ us hl => match us, hl with | [_, _], _ => rfl),
    tp_mk X G a21 l21 c21 k21 (fun F => F.binds fun _ _ _ _ _ _ us hl => match us, hl with | [_], _ => rfl),
    tp_mk X G a22 l22 c22 k22 (fun F => F.binds fun _ _ _ _ _ _ us hl => match us, hl with | [_, _], _ => rfl),
    tp_mk X G a23 l23 c23 k23 (fun F => F.binds fun _ _ _ _ _ _ us hl => match us, hl with | [_], _ => rfl),
    tp_mk X G a24 l24 c24 k24 (fun F => F.binds fun _ _ _ _ _ _ us hl => match us, hl with | [_, _, _, _], _ => rfl),
    tp_mk X G a25 l25 c25 k25 (fun F => F.binds fun _ _ _ _ _ _ us hl => match us, hl with | [_], _ => rfl),
    tp_mk X G a26 l26 c26 k26 (fun F => F.binds fun _ _ _ _ _ _ us hl => match us, hl with | [_, _], _ => rfl),
    tp_mk X G a27 l27 c27 k27 (fun F => F.binds fun _ _ _ _ _ _ us hl => match us, hl with | [_, _], _ => rfl),
    tp_mk X G a28 l28 c28 k28 (fun F => F.binds fun _ _ _ _ _ _ us hl => match us, hl with | [_, _], _ => rfl),
    tp_mk X G a29 l29 c29 k29 (fun F => F.binds fun _ _ _ _ _ _ us hl => match us, hl with | [_], _ => rfl),
    tp_mk X G a30 l30 c30 k30 (fun F => F.binds fun _ _ _ _ _ _ us hl => match us, hl with | [_], _ => rfl)⟩
  refine ⟨PySem.W.fnOf "law" "law" (defArgs s_law) (defBody s_law) (defScope s_law) .none kV30 dc30 pm30 an30 cd30 ct30, fun s v => .of_eq rfl, fun base _ _ => ?_⟩
  let Fs : Addr → Option EC := fun f => if f = f8 then some (e_is_named) else if f = f4 then some (e_is_plain_segment) else if f = f3 then some (e_is_segment) else none
  have he_Fs_is_named : Fs f8 = some e_is_named := by
    show (if f8 = f8 then some (e_is_named) else if f8 = f4 then some (e_is_plain_segment) else if f8 = f3 then some (e_is_segment) else none) = _
    simp [ne_is_named_is_plain_segment, ne_is_named_is_plain_segment.symm, ne_is_named_is_segment, ne_is_named_is_segment.symm, ne_is_plain_segment_is_segment, ne_is_plain_segment_is_segment.symm]
  have he_Fs_is_plain_segment : Fs f4 = some e_is_plain_segment := by
    show (if f4 = f8 then some (e_is_named) else if f4 = f4 then some (e_is_plain_segment) else if f4 = f3 then some (e_is_segment) else none) = _
    simp [ne_is_named_is_plain_segment, ne_is_named_is_plain_segment.symm, ne_is_named_is_segment, ne_is_named_is_segment.symm, ne_is_plain_segment_is_segment, ne_is_plain_segment_is_segment.symm]
  have he_Fs_is_segment : Fs f3 = some e_is_segment := by
    show (if f3 = f8 then some (e_is_named) else if f3 = f4 then some (e_is_plain_segment) else if f3 = f3 then some (e_is_segment) else none) = _
    simp [ne_is_named_is_plain_segment, ne_is_named_is_plain_segment.symm, ne_is_named_is_segment, ne_is_named_is_segment.symm, ne_is_plain_segment_is_segment, ne_is_plain_segment_is_segment.symm]
  have H0 : FeOk Fs f8 f4 f3 := ⟨he_Fs_is_named, he_Fs_is_plain_segment, he_Fs_is_segment⟩
  have D_is_named : Df l.prog w K mg base 1 "is_named" (SpE (e_is_named)) := df_is_named T runE_len (runE_ok (ss_is_named))
  have D_is_signs : Df l.prog w K mg base 1 "is_signs" (SpE (e_is_signs)) := df_is_signs T runE_len (runE_ok (ss_is_signs))
  have D_is_segment : Df l.prog w K mg base 2 "is_segment" (SpE (e_is_segment)) := df_is_segment T D_is_signs runE_len (runE_ok (ss_is_segment))
  have D_is_plain_segment : Df l.prog w K mg base 3 "is_plain_segment" (SpE (e_is_plain_segment)) := df_is_plain_segment T D_is_segment runE_len (runE_ok (ss_is_plain_segment))
  have D_is_number : Df l.prog w K mg base 1 "is_number" (SpE (e_is_number)) := df_is_number T runE_len (runE_ok (ss_is_number))
  have D_is_host : Df l.prog w K mg base 1 "is_host" (SpE (e_is_host)) := df_is_host T runE_len (runE_ok (ss_is_host))
  have A_Fs : ∀ f S, (SpT Fs) f = some S → Hd l.prog w K mg base 3 f S := fun f S hS => by
    unfold SpT at hS
    obtain ⟨e, he, rfl⟩ := mpd hS
    have he : (if f = f8 then some (e_is_named) else if f = f4 then some (e_is_plain_segment) else if f = f3 then some (e_is_segment) else none) = some e := he
    split at he
    · rename_i hf
      cases he
      subst hf
      obtain ⟨f, fd, ps, h1, h2, h3, h4⟩ := (D_is_named.mono (k := 3) (by decide)).ex
      cases h1.symm.trans (PySem.W.mg_of X G a8)
      exact ⟨fd, ps, h2, h3, h4⟩
    split at he
    · rename_i hf
      cases he
      subst hf
      obtain ⟨f, fd, ps, h1, h2, h3, h4⟩ := (D_is_plain_segment.mono (k := 3) (by decide)).ex
      cases h1.symm.trans (PySem.W.mg_of X G a4)
      exact ⟨fd, ps, h2, h3, h4⟩
    split at he
    · rename_i hf
      cases he
      subst hf
      obtain ⟨f, fd, ps, h1, h2, h3, h4⟩ := (D_is_segment.mono (k := 3) (by decide)).ex
      cases h1.symm.trans (PySem.W.mg_of X G a3)
      exact ⟨fd, ps, h2, h3, h4⟩
    · cases he
  have D_is_row_of : Df l.prog w K mg base 4 "is_row_of" (SpE (e_is_row_of Fs)) := df_is_row_of T A_Fs runE_len (runE_ok (ss_is_row_of Fs))
  have D_is_within : Df l.prog w K mg base 2 "is_within" (SpE (e_is_within)) := df_is_within T D_is_number runE_len (runE_ok (ss_is_within))
  have D_is_methods : Df l.prog w K mg base 1 "is_methods" (SpE (e_is_methods)) := df_is_methods T runE_len (runE_ok (ss_is_methods))
  have D_is_route : Df l.prog w K mg base 5 "is_route" (SpE (e_is_route Fs f8 f4 f3)) := df_is_route T D_is_within D_is_row_of D_is_named D_is_host D_is_methods runE_len (runE_ok (ss_is_route Fs f8 f4 f3))
  have D_is_same : Df l.prog w K mg base 1 "is_same" (SpE (e_is_same)) := df_is_same T runE_len (runE_ok (ss_is_same))
  have D_fault_of_route : Df l.prog w K mg base 2 "fault_of_route" (SpE (e_fault_of_route)) := df_fault_of_route T D_is_same runE_len (runE_ok (ss_fault_of_route))
  have D_fault_routes : Df l.prog w K mg base 6 "fault_routes" (SpE (e_fault_routes Fs f8 f4 f3)) := df_fault_routes T D_fault_of_route D_is_route runE_len (runE_ok (ss_fault_routes Fs f8 f4 f3))
  have D_is_error : Df l.prog w K mg base 3 "is_error" (SpE (e_is_error)) := df_is_error T D_is_signs D_is_within runE_len (runE_ok (ss_is_error))
  have D_fault_errors : Df l.prog w K mg base 4 "fault_errors" (SpE (e_fault_errors)) := df_fault_errors T D_is_error runE_len (runE_ok (ss_fault_errors))
  have D_error_row : Df l.prog w K mg base 1 "error_row" (SpE (e_error_row)) := df_error_row T runE_len (runE_ok (ss_error_row))
  have D_fits_route : Df l.prog w K mg base 1 "fits_route" (SpE (e_fits_route)) := df_fits_route T runE_len (runE_ok (ss_fits_route))
  have D_longest : Df l.prog w K mg base 2 "longest" (SpE (e_longest)) := df_longest T D_fits_route runE_len (runE_ok (ss_longest))
  have D_route_of : Df l.prog w K mg base 3 "route_of" (SpE (e_route_of)) := df_route_of T D_longest runE_len (runE_ok (ss_route_of))
  have D__law_draw : Df l.prog w K mg base 1 "_law_draw" S_draw := (df__law_draw T draw_len draw_ok).draw
  have D__law_pick : Df l.prog w K mg base 2 "_law_pick" S_pick := (df__law_pick T D__law_draw pick_len pick_ok)
  have D__law_route : Df l.prog w K mg base 3 "_law_route" S_route := (df__law_route T D__law_draw D__law_pick route_len hs_route)
  have D__law_same : Df l.prog w K mg base 1 "_law_same" (SpE (e__law_same)) := df__law_same T runE_len (runE_ok (ss__law_same))
  have D__law_routes : Df l.prog w K mg base 4 "_law_routes" S_routes := (df__law_routes T D__law_pick D__law_draw D__law_same D__law_route routes_len hs_routes)
  have D__law_due : Df l.prog w K mg base 1 "_law_due" (SpE (e__law_due)) := df__law_due T runE_len (runE_ok (ss__law_due))
  have D__law_policy : Df l.prog w K mg base 1 "_law_policy" (SpE (e__law_policy)) := df__law_policy T runE_len (runE_ok (ss__law_policy))
  have D__law_bent : Df l.prog w K mg base 2 "_law_bent" S_bent := (df__law_bent T D__law_draw bent_len hs_bent)
  have D__law_faults : Df l.prog w K mg base 7 "_law_faults" S_faults := (df__law_faults T D_fault_routes D__law_policy D__law_pick D__law_draw D__law_bent faults_len (hs_faults H0))
  have D__law_two_faults : Df l.prog w K mg base 7 "_law_two_faults" S_two := (df__law_two_faults T D_fault_routes D__law_policy D__law_draw two_len (hs_two H0))
  have D__law_errors : Df l.prog w K mg base 5 "_law_errors" S_errors := (df__law_errors T D_fault_errors D__law_draw D_error_row D__law_pick errors_len hs_errors)
  exact vfn (fun_mk l30 c30 k30) sc_law law_len (fun cdv A outer s H E hr => w_law T D__law_faults D__law_two_faults D__law_errors D_fault_routes D__law_policy D_fits_route D_route_of D__law_due D__law_draw D__law_pick D__law_routes hr) (hs_law H0)
theorem walk {l : PySem.W.OpenLaw} {q : Program} {loose : List Str} {XP : (Str → Option Value) → Heap → Prop} {YP : World → Heap → Prop} {d : DefRec} {K : Params → PySem.W.Frag} (hn : l.most = some 63) (hdf : d.params.defaults = [])
    (hY : ∀ (w : World) (h : Heap), YP w h → (K w.params).In h)
    (F : ∀ (w : World) (mg : Str → Option Value) (fa : Addr) (h : Heap), (K w.params).In h → h.Ns mainGlobals mg → mg d.name = some (.ref fa) →
      ∃ fd : FuncData, (∀ (s : Shared) (u : Value), BindsTo s fd ⟨[u], []⟩ [("script", u)]) ∧ ∀ base : Heap, (K w.params).In base → base.Ns mainGlobals mg → FnOk l.prog w (K w.params) mg base CX0 8 fa fd ["script"] (upSp (K w.params) (S_law (Zs (K w.params))))) :
    PySem.W.WalkO q loose XP YP l.row.toRowW d [] (fun f vs => PySem.call f vs) :=
  L2.walk_of (n := 63) (k := 8) (x := "script") (CX := fun _ => CX0) (sp := fun w => upSp (K w.params) (S_law (Zs (K w.params)))) hn (by decide) hdf ⟨rfl, by decide, by decide⟩ hY F (fun _ _ a ns hl ho hS => law_start (Nat.le_trans hl (by decide)) ho hS (fun _ hM => ⟨a, ns, rfl, hM, fun _ => rfl⟩) fun _ => rfl) fun _ _ _ _ _ z => z
end K47
open PySem PySem.W PyProof.Rows
local macro_rules | `(tactic| walk_at "kd") => `(tactic| first
  | exact VS.KD.int _ _
  | exact VS.KD.bl _
  | exact VS.KD.non
  | exact VS.KD.str _ _ (by decide +kernel) (by decide +kernel)
  | exact VS.KDs.nil
  | (refine' VS.KD.tup ?ll ?ss ?dd; (case ll => k_is); (case ss => decide); (case dd => walk_at "kd"))
  | (refine' VS.KDs.cons ?d0 ?d1; (case d0 => walk_at "kd"); (case d1 => walk_at "kd")))
local macro_rules | `(tactic| walk_at "vals") => `(tactic| first
  | exact Paired.nil
  | (refine' Paired.cons ⟨_, rfl⟩ ?d1; (case d1 => walk_at "vals")))
set_option maxRecDepth 100000 in
set_option maxHeartbeats 0 in
theorem PySem.Challenge.cw_gatedpolicy_k47_routes_of_requests_holds : PySem.Challenge.rw_gatedpolicy_k47_routes_of_requests.Holds := by
  w_on; o_law; k_head; (case hw => w_witness2)
  k_fill
  refine K47.walk (l := PySem.Challenge.rw_gatedpolicy_k47_routes_of_requests) rfl rfl (fun w h Y => PySem.W.kIn_of Y) ?F
  case F =>
    intro w mg fa h KX G hmg
    refine' K47.all_mk KX G hmg ?a0 ?l0 ?c0 ?k0 ?a1 ?l1 ?c1 ?k1 ?a2 ?l2 ?c2 ?k2 ?a3 ?l3 ?c3 ?k3 ?a4 ?l4 ?c4 ?k4 ?a5 ?l5 ?c5 ?k5 ?a6 ?l6 ?c6 ?k6 ?a7 ?l7 ?c7 ?k7 ?a8 ?l8 ?c8 ?k8 ?a9 ?l9 ?c9 ?k9 ?a10 ?l10 ?c10 ?k10 ?a11 ?l11 ?c11 ?k11 ?a12 ?l12 ?c12 ?k12 ?a13 ?l13 ?c13 ?k13 ?a14 ?l14 ?c14 ?k14 ?a15 ?l15 ?c15 ?k15 ?a16 ?l16 ?c16 ?k16 ?a17 ?l17 ?c17 ?k17 ?a18 ?l18 ?c18 ?k18 ?a19 ?l19 ?c19 ?k19 ?a20 ?l20 ?c20 ?k20 ?a21 ?l21 ?c21 ?k21 ?a22 ?l22 ?c22 ?k22 ?a23 ?l23 ?c23 ?k23 ?a24 ?l24 ?c24 ?k24 ?a25 ?l25 ?c25 ?k25 ?a26 ?l26 ?c26 ?k26 ?a27 ?l27 ?c27 ?k27 ?a28 ?l28 ?c28 ?k28 ?a29 ?l29 ?c29 ?k29 ?a30 ?l30 ?c30 ?k30 ?q_ERROR_WORDS ?d_ERROR_WORDS ?q_HOST_SIGNS ?d_HOST_SIGNS ?q_METHODS ?d_METHODS ?q_MOST_HOST ?d_MOST_HOST ?q_MOST_NAMES ?d_MOST_NAMES ?q_MOST_PLAIN ?d_MOST_PLAIN ?q_MOST_PREFIX ?d_MOST_PREFIX ?q_MOST_PUT ?d_MOST_PUT ?q_MOST_ROUTES ?d_MOST_ROUTES ?q_MOST_SEGMENT ?d_MOST_SEGMENT ?q_MOST_TEXT ?d_MOST_TEXT ?q_MOST_TRIES ?d_MOST_TRIES ?q_MOST_WAIT ?d_MOST_WAIT ?q_PLAIN ?d_PLAIN ?q_SIGNS ?d_SIGNS ?xq_ERROR_WORDS ?xl_ERROR_WORDS ?xn_ERROR_WORDS ?xv_ERROR_WORDS ?z_abs ?z_all ?z_any ?z_bool ?z_int ?z_isinstance ?z_len ?z_list ?z_range ?z_set ?z_str ?z_tuple ?ne_is_named_is_plain_segment ?ne_is_named_is_segment ?ne_is_plain_segment_is_segment
    (case a0 => k_is); (case l0 => k_is); (case c0 => k_is); (case k0 => k_is)
    (case a1 => k_is); (case l1 => k_is); (case c1 => k_is); (case k1 => k_is)
    (case a2 => k_is); (case l2 => k_is); (case c2 => k_is); (case k2 => k_is)
    (case a3 => k_is); (case l3 => k_is); (case c3 => k_is); (case k3 => k_is)
    (case a4 => k_is); (case l4 => k_is); (case c4 => k_is); (case k4 => k_is)
    (case a5 => k_is); (case l5 => k_is); (case c5 => k_is); (case k5 => k_is)
    (case a6 => k_is); (case l6 => k_is); (case c6 => k_is); (case k6 => k_is)
    (case a7 => k_is); (case l7 => k_is); (case c7 => k_is); (case k7 => k_is)
    (case a8 => k_is); (case l8 => k_is); (case c8 => k_is); (case k8 => k_is)
    (case a9 => k_is); (case l9 => k_is); (case c9 => k_is); (case k9 => k_is)
    (case a10 => k_is); (case l10 => k_is); (case c10 => k_is); (case k10 => k_is)
    (case a11 => k_is); (case l11 => k_is); (case c11 => k_is); (case k11 => k_is)
    (case a12 => k_is); (case l12 => k_is); (case c12 => k_is); (case k12 => k_is)
    (case a13 => k_is); (case l13 => k_is); (case c13 => k_is); (case k13 => k_is)
    (case a14 => k_is); (case l14 => k_is); (case c14 => k_is); (case k14 => k_is)
    (case a15 => k_is); (case l15 => k_is); (case c15 => k_is); (case k15 => k_is)
    (case a16 => k_is); (case l16 => k_is); (case c16 => k_is); (case k16 => k_is)
    (case a17 => k_is); (case l17 => k_is); (case c17 => k_is); (case k17 => k_is)
    (case a18 => k_is); (case l18 => k_is); (case c18 => k_is); (case k18 => k_is)
    (case a19 => k_is); (case l19 => k_is); (case c19 => k_is); (case k19 => k_is)
    (case a20 => k_is); (case l20 => k_is); (case c20 => k_is); (case k20 => k_is)
    (case a21 => k_is); (case l21 => k_is); (case c21 => k_is); (case k21 => k_is)
    (case a22 => k_is); (case l22 => k_is); (case c22 => k_is); (case k22 => k_is)
    (case a23 => k_is); (case l23 => k_is); (case c23 => k_is); (case k23 => k_is)
    (case a24 => k_is); (case l24 => k_is); (case c24 => k_is); (case k24 => k_is)
    (case a25 => k_is); (case l25 => k_is); (case c25 => k_is); (case k25 => k_is)
    (case a26 => k_is); (case l26 => k_is); (case c26 => k_is); (case k26 => k_is)
    (case a27 => k_is); (case l27 => k_is); (case c27 => k_is); (case k27 => k_is)
    (case a28 => k_is); (case l28 => k_is); (case c28 => k_is); (case k28 => k_is)
    (case a29 => k_is); (case l29 => k_is); (case c29 => k_is); (case k29 => k_is)
    (case a30 => k_is); (case l30 => k_is); (case c30 => k_is); (case k30 => k_is)
    (case q_ERROR_WORDS => k_is); (case d_ERROR_WORDS => (unfold K47.c_ERROR_WORDS; walk_at "kd"))
    (case q_HOST_SIGNS => k_is); (case d_HOST_SIGNS => (unfold K47.c_HOST_SIGNS; walk_at "kd"))
    (case q_METHODS => k_is); (case d_METHODS => (unfold K47.c_METHODS; walk_at "kd"))
    (case q_MOST_HOST => k_is); (case d_MOST_HOST => (unfold K47.c_MOST_HOST; walk_at "kd"))
    (case q_MOST_NAMES => k_is); (case d_MOST_NAMES => (unfold K47.c_MOST_NAMES; walk_at "kd"))
    (case q_MOST_PLAIN => k_is); (case d_MOST_PLAIN => (unfold K47.c_MOST_PLAIN; walk_at "kd"))
    (case q_MOST_PREFIX => k_is); (case d_MOST_PREFIX => (unfold K47.c_MOST_PREFIX; walk_at "kd"))
    (case q_MOST_PUT => k_is); (case d_MOST_PUT => (unfold K47.c_MOST_PUT; walk_at "kd"))
    (case q_MOST_ROUTES => k_is); (case d_MOST_ROUTES => (unfold K47.c_MOST_ROUTES; walk_at "kd"))
    (case q_MOST_SEGMENT => k_is); (case d_MOST_SEGMENT => (unfold K47.c_MOST_SEGMENT; walk_at "kd"))
    (case q_MOST_TEXT => k_is); (case d_MOST_TEXT => (unfold K47.c_MOST_TEXT; walk_at "kd"))
    (case q_MOST_TRIES => k_is); (case d_MOST_TRIES => (unfold K47.c_MOST_TRIES; walk_at "kd"))
    (case q_MOST_WAIT => k_is); (case d_MOST_WAIT => (unfold K47.c_MOST_WAIT; walk_at "kd"))
    (case q_PLAIN => k_is); (case d_PLAIN => (unfold K47.c_PLAIN; walk_at "kd"))
    (case q_SIGNS => k_is); (case d_SIGNS => (unfold K47.c_SIGNS; walk_at "kd"))
    (case xq_ERROR_WORDS => k_is); (case xl_ERROR_WORDS => k_is); (case xn_ERROR_WORDS => decide); (case xv_ERROR_WORDS => (unfold K47.w_ERROR_WORDS; walk_at "vals"))
    (case z_abs => k_is)
    (case z_all => k_is)
    (case z_any => k_is)
    (case z_bool => k_is)
    (case z_int => k_is)
    (case z_isinstance => k_is)
    (case z_len => k_is)
    (case z_list => k_is)
    (case z_range => k_is)
    (case z_set => k_is)
    (case z_str => k_is)
    (case z_tuple => k_is)
    (case ne_is_named_is_plain_segment => decide)
    (case ne_is_named_is_segment => decide)
    (case ne_is_plain_segment_is_segment => decide)
