import PyProof.Rows.All
import Wide.All
import OpenK.AllK
import Wide.FinOn
import HandS.ForMost
import HandS.ForExc
import HandS.IsInst
import HandS.TupAny
import HandS.Style
import HandS.ExcIs
import HandS.TryMany
import KE.SortData
import HandS.Dict
import HandS.List
import HandS.Text
import PyProof.StrOps2
import PyProof.Rows.StrFirst
import HandS.More
import HandS.Iter
import KE.KDictCopyH
import HandS.HotCalls
import PySem.Challenge.RW_radixtrail_k12_whole_deeds
set_option Elab.async false
set_option linter.all false
set_option maxRecDepth 100000
set_option maxHeartbeats 4000000
/-! Mth: the mathematics of the trees, plain Lean: trees Tr, get (what is kept), Wf, the one tree of what is kept. -/
namespace TM
abbrev Tx := List Nat
abbrev Rw := Tx × Int
inductive Tr where
  | leaf (r : Tx) (n : Int)
  | fork (s : Tx) (bs : List (Tx × Tr))

/-! ### texts -/
def lcp : Tx → Tx → Tx
  | x :: a, y :: b => if x = y then x :: lcp a b else []
  | _, _ => []
theorem lcp_pre1 : ∀ a b : Tx, lcp a b <+: a
  | [], _ => by simp [lcp]
  | x :: a, [] => by simp [lcp]
  | x :: a, y :: b => by
    unfold lcp
    split
    · exact (List.prefix_cons_inj x).mpr (lcp_pre1 a b)
    · exact List.nil_prefix
theorem lcp_comm : ∀ a b : Tx, lcp a b = lcp b a
  | [], [] => rfl
  | [], _ :: _ => rfl
  | _ :: _, [] => rfl
  | x :: a, y :: b => by
    unfold lcp
    by_cases h : x = y
    · subst h
      rw [if_pos rfl, if_pos rfl, lcp_comm a b]
    · rw [if_neg h, if_neg (Ne.symm h)]
theorem lcp_pre2 (a b : Tx) : lcp a b <+: b := by rw [lcp_comm]; exact lcp_pre1 b a
/-- behind the common text the two go on unlike -/
theorem lcp_off : ∀ a b : Tx, (a.drop (lcp a b).length).take 1 = (b.drop (lcp a b).length).take 1 → a = b
  | [], [], _ => rfl
  | [], _ :: _, h => by simp [lcp] at h
  | _ :: _, [], h => by simp [lcp] at h
  | x :: a, y :: b, h => by
    unfold lcp at h
    by_cases e : x = y
    · subst e
      rw [if_pos rfl] at h
      simp only [List.length_cons, List.drop_succ_cons] at h
      rw [lcp_off a b h]
    · rw [if_neg e] at h
      simp at h
      exact absurd h e
theorem pre_lcp : ∀ {p a b : Tx}, p <+: a → p <+: b → p <+: lcp a b
  | [], _, _, _, _ => List.nil_prefix
  | x :: p, [], _, h, _ => by simp at h
  | x :: p, y :: a, [], _, h => by simp at h
  | x :: p, y :: a, z :: b, h1, h2 => by
    rw [List.cons_prefix_cons] at h1 h2
    obtain ⟨rfl, h1⟩ := h1
    obtain ⟨rfl, h2⟩ := h2
    unfold lcp
    rw [if_pos rfl]
    exact (List.prefix_cons_inj x).mpr (pre_lcp h1 h2)
theorem take1_cases (z : Tx) : (z = [] ∧ z.take 1 = []) ∨ ∃ c r, z = c :: r ∧ z.take 1 = [c] ∧ z.drop 1 = r := by
  cases z with
  | nil => exact .inl ⟨rfl, rfl⟩
  | cons c r => exact .inr ⟨c, r, rfl, rfl, rfl⟩
theorem take_drop1 (z : Tx) : z.take 1 ++ z.drop 1 = z := List.take_append_drop 1 z
theorem pre_split {s y : Tx} (h : s <+: y) : y = s ++ y.drop s.length := by
  obtain ⟨t, rfl⟩ := h
  simp
theorem tx_irr (a : Tx) : ¬ a < a := List.lt_irrefl a
theorem tx_trans {a b c : Tx} (h1 : a < b) (h2 : b < c) : a < c := List.lt_trans h1 h2
theorem tx_tri (a b : Tx) : a < b ∨ a = b ∨ b < a := by
  by_cases h : a < b
  · exact .inl h
  · by_cases h2 : b < a
    · exact .inr (.inr h2)
    · exact .inr (.inl (List.le_antisymm (List.not_lt.mp h2) (List.not_lt.mp h)))
theorem tx_asymm {a b : Tx} (h : a < b) : ¬ b < a := fun h2 => tx_irr a (tx_trans h h2)
theorem tx_ne {a b : Tx} (h : a < b) : a ≠ b := fun e => tx_irr b (e ▸ h)

/-! ### branches -/
def brOf : List (Tx × Tr) → Tx → Option Tr
  | [], _ => none
  | (c, t) :: r, x => if c = x then some t else brOf r x
theorem brOf_mem : ∀ {bs : List (Tx × Tr)} {x : Tx} {t : Tr}, brOf bs x = some t → (x, t) ∈ bs
  | [], _, _, h => by simp [brOf] at h
  | (c, u) :: r, x, t, h => by
    unfold brOf at h
    by_cases e : c = x
    · rw [if_pos e] at h
      cases h
      subst e
      exact List.mem_cons_self
    · rw [if_neg e] at h
      exact List.mem_cons_of_mem _ (brOf_mem h)
def Up (bs : List (Tx × Tr)) : Prop := bs.Pairwise fun a b => a.1 < b.1
theorem mem_brOf : ∀ {bs : List (Tx × Tr)} {x : Tx} {t : Tr}, Up bs → (x, t) ∈ bs → brOf bs x = some t
  | (c, u) :: r, x, t, hu, h => by
    unfold brOf
    have hu' := List.pairwise_cons.mp hu
    rcases List.mem_cons.mp h with e | h
    · cases e
      rw [if_pos rfl]
    · rw [if_neg (tx_ne (hu'.1 _ h))]
      exact mem_brOf hu'.2 h
theorem brOf_none : ∀ {bs : List (Tx × Tr)} {x : Tx}, brOf bs x = none → ∀ p ∈ bs, p.1 ≠ x
  | (c, u) :: r, x, h, p, hp => by
    unfold brOf at h
    by_cases e : c = x
    · rw [if_pos e] at h
      cases h
    · rw [if_neg e] at h
      rcases List.mem_cons.mp hp with rfl | hp
      · exact e
      · exact brOf_none h p hp
theorem none_brOf : ∀ {bs : List (Tx × Tr)} {x : Tx}, (∀ p ∈ bs, p.1 ≠ x) → brOf bs x = none
  | [], _, _ => rfl
  | (c, u) :: r, x, h => by
    unfold brOf
    rw [if_neg (h (c, u) List.mem_cons_self)]
    exact none_brOf fun p hp => h p (List.mem_cons_of_mem _ hp)
/-- rising branches are told by what stands behind each sign -/
theorem up_ext : ∀ {as bs : List (Tx × Tr)}, Up as → Up bs → (∀ x, brOf as x = brOf bs x) → as = bs
  | [], [], _, _, _ => rfl
  | [], (c, t) :: r, _, _, h => by
    have e := h c
    simp [brOf] at e
  | (c, t) :: r, [], _, _, h => by
    have e := h c
    simp [brOf] at e
  | (c, t) :: r, (d, u) :: q, h1, h2, h => by
    have h1' := List.pairwise_cons.mp h1
    have h2' := List.pairwise_cons.mp h2
    have hc : c = d := by
      rcases tx_tri c d with l | e | l
      · have e := h c
        have n : brOf ((d, u) :: q) c = none := none_brOf fun p hp => by
          rcases List.mem_cons.mp hp with rfl | hp
          · exact (tx_ne l).symm
          · exact (tx_ne (tx_trans l (h2'.1 p hp))).symm
        rw [n] at e
        simp [brOf] at e
      · exact e
      · have e := h d
        have n : brOf ((c, t) :: r) d = none := none_brOf fun p hp => by
          rcases List.mem_cons.mp hp with rfl | hp
          · exact (tx_ne l).symm
          · exact (tx_ne (tx_trans l (h1'.1 p hp))).symm
        rw [n] at e
        simp [brOf] at e
    subst hc
    have ht : t = u := by
      have e := h c
      simpa [brOf] using e
    subst ht
    rw [up_ext h1'.2 h2'.2 fun x => ?_]
    by_cases e : c = x
    · subst e
      rw [none_brOf fun p hp => (tx_ne (h1'.1 p hp)).symm, none_brOf fun p hp => (tx_ne (h2'.1 p hp)).symm]
    · have q := h x
      unfold brOf at q
      rwa [if_neg e, if_neg e] at q

/-! ### what a tree keeps -/
mutual
def get : Tr → Tx → Option Int
  | .leaf r n, y => if y = r then some n else none
  | .fork s bs, y => if s <+: y then getB bs ((y.drop s.length).take 1) (y.drop (s.length + 1)) else none
def getB : List (Tx × Tr) → Tx → Tx → Option Int
  | [], _, _ => none
  | (c, t) :: r, x, z => if c = x then get t z else getB r x z
end
theorem getB_eq : ∀ (bs : List (Tx × Tr)) (x z : Tx), getB bs x z = (brOf bs x).bind fun t => get t z
  | [], _, _ => by simp [getB, brOf]
  | (c, t) :: r, x, z => by
    unfold getB brOf
    by_cases e : c = x
    · rw [if_pos e, if_pos e]
      rfl
    · rw [if_neg e, if_neg e]
      exact getB_eq r x z
theorem get_leaf (r : Tx) (n : Int) (y : Tx) : get (.leaf r n) y = if y = r then some n else none := by rw [get.eq_1]
theorem get_fork (s : Tx) (bs : List (Tx × Tr)) (y : Tx) : get (.fork s bs) y = if s <+: y then (brOf bs ((y.drop s.length).take 1)).bind (fun t => get t (y.drop (s.length + 1))) else none := by
  rw [get.eq_2, getB_eq]
def getO : Option Tr → Tx → Option Int
  | none, _ => none
  | some t, y => get t y
mutual
def depth : Tr → Nat
  | .leaf _ _ => 1
  | .fork _ bs => depthB bs + 1
def depthB : List (Tx × Tr) → Nat
  | [] => 0
  | (_, t) :: r => max (depth t) (depthB r)
end
theorem depth_mem : ∀ {bs : List (Tx × Tr)} {p : Tx × Tr}, p ∈ bs → depth p.2 ≤ depthB bs
  | (c, t) :: r, p, h => by
    unfold depthB
    rcases List.mem_cons.mp h with rfl | h
    · exact Nat.le_max_left _ _
    · exact Nat.le_trans (depth_mem h) (Nat.le_max_right _ _)
theorem depth_br {s : Tx} {bs : List (Tx × Tr)} {x : Tx} {t : Tr} (h : brOf bs x = some t) : depth t < depth (.fork s bs) := by
  have := depth_mem (brOf_mem h)
  rw [depth.eq_2]
  exact Nat.lt_succ_of_le this
theorem depth_pos (t : Tr) : 0 < depth t := by cases t <;> (unfold depth; omega)
/-- induction over the branches -/
theorem Tr.ind {M : Tr → Prop} (hl : ∀ r n, M (.leaf r n)) (hf : ∀ s bs, (∀ p ∈ bs, M p.2) → M (.fork s bs)) : ∀ t, M t := by
  have key : ∀ n t, depth t ≤ n → M t := by
    intro n
    induction n with
    | zero => intro t h; exact absurd (depth_pos t) (by omega)
    | succ n ih =>
      intro t h
      cases t with
      | leaf r m => exact hl r m
      | fork s bs =>
        refine hf s bs fun p hp => ih p.2 ?_
        have := depth_mem hp
        unfold depth at h
        omega
  exact fun t => key _ t (Nat.le_refl _)

/-! ### the one tree -/
def SignOk (p : Tx × Tr) : Prop := p.1.length ≤ 1 ∧ (p.1 = [] → ∃ n, p.2 = .leaf [] n)
mutual
def Wf : Tr → Prop
  | .leaf _ _ => True
  | .fork _ bs => 2 ≤ bs.length ∧ Up bs ∧ WfB bs
def WfB : List (Tx × Tr) → Prop
  | [] => True
  | (c, t) :: r => SignOk (c, t) ∧ Wf t ∧ WfB r
end
theorem wfB_iff : ∀ {bs : List (Tx × Tr)}, WfB bs ↔ ∀ p ∈ bs, SignOk p ∧ Wf p.2
  | [] => by simp [WfB]
  | (c, t) :: r => by
    unfold WfB
    rw [wfB_iff (bs := r)]
    constructor
    · rintro ⟨h1, h2, h3⟩ p hp
      rcases List.mem_cons.mp hp with rfl | hp
      · exact ⟨h1, h2⟩
      · exact h3 p hp
    · intro h
      exact ⟨(h _ List.mem_cons_self).1, (h _ List.mem_cons_self).2, fun p hp => h p (List.mem_cons_of_mem _ hp)⟩
theorem wf_fork {s : Tx} {bs : List (Tx × Tr)} : Wf (.fork s bs) ↔ 2 ≤ bs.length ∧ Up bs ∧ ∀ p ∈ bs, SignOk p ∧ Wf p.2 := by
  rw [Wf.eq_2, wfB_iff]
theorem wf_leaf (r : Tx) (n : Int) : Wf (.leaf r n) := by unfold Wf; trivial
/-- a name behind a branch -/
theorem get_in {s : Tx} {bs : List (Tx × Tr)} {p : Tx × Tr} (hu : Up bs) (hp : p ∈ bs) (ho : SignOk p) (y : Tx) (hy : get p.2 y ≠ none) : get (.fork s bs) (s ++ p.1 ++ y) = get p.2 y := by
  obtain ⟨c, t⟩ := p
  rw [get_fork, if_pos (by rw [List.append_assoc]; exact List.prefix_append _ _)]
  have hb := mem_brOf hu hp
  rcases take1_cases c with ⟨rfl, _⟩ | ⟨x, r, rfl, _, _⟩
  · obtain ⟨n, e⟩ := ho.2 rfl
    simp only at e
    subst e
    rw [get_leaf] at hy
    have ey : y = [] := Classical.byContradiction fun h => hy (if_neg h)
    subst ey
    simp only [List.append_nil, List.drop_length, List.take_nil, hb, Option.bind_some]
    rw [List.drop_eq_nil_of_le (Nat.le_succ _)]
  · have e : r = [] := by
      have := ho.1
      simp only [List.length_cons] at this
      exact List.eq_nil_of_length_eq_zero (by omega)
    subst e
    have e1 : ((s ++ [x] ++ y).drop s.length).take 1 = [x] := by simp [List.append_assoc]
    have e2 : (s ++ [x] ++ y).drop (s.length + 1) = y := by
      rw [← List.drop_drop]
      simp [List.append_assoc]
    rw [e1, e2, hb]
    rfl
theorem wf_some : ∀ t, Wf t → ∃ y, get t y ≠ none := by
  refine Tr.ind (fun r n _ => ⟨r, by simp [get_leaf]⟩) fun s bs ih h => ?_
  obtain ⟨h1, h2, h3⟩ := wf_fork.mp h
  cases bs with
  | nil => simp at h1
  | cons p r =>
    obtain ⟨y, hy⟩ := ih p List.mem_cons_self (h3 p List.mem_cons_self).2
    refine ⟨s ++ p.1 ++ y, ?_⟩
    rw [get_in h2 List.mem_cons_self (h3 p List.mem_cons_self).1 y hy]
    exact hy
theorem get_pre {s : Tx} {bs : List (Tx × Tr)} {y : Tx} (h : get (.fork s bs) y ≠ none) : s <+: y := by
  rw [get_fork] at h
  exact Classical.byContradiction fun e => h (if_neg e)
theorem two_of {α : Type} {l : List α} (h : 2 ≤ l.length) : ∃ a b r, l = a :: b :: r := by
  match l, h with
  | a :: b :: r, _ => exact ⟨a, b, r, rfl⟩
/-- two names of a fork that part just behind its text -/
theorem fork_two {s : Tx} {bs : List (Tx × Tr)} (h : Wf (.fork s bs)) : ∃ y z, get (.fork s bs) y ≠ none ∧ get (.fork s bs) z ≠ none ∧ lcp y z = s ∧ y ≠ z := by
  obtain ⟨h1, h2, h3⟩ := wf_fork.mp h
  obtain ⟨p, q, r, rfl⟩ := two_of h1
  have mp : p ∈ p :: q :: r := List.mem_cons_self
  have mq : q ∈ p :: q :: r := List.mem_cons_of_mem _ List.mem_cons_self
  obtain ⟨y, hy⟩ := wf_some p.2 (h3 p mp).2
  obtain ⟨z, hz⟩ := wf_some q.2 (h3 q mq).2
  have e1 := get_in (s := s) h2 mp (h3 p mp).1 y hy
  have e2 := get_in (s := s) h2 mq (h3 q mq).1 z hz
  have lt : p.1 < q.1 := (List.pairwise_cons.mp h2).1 q List.mem_cons_self
  have hq : ∃ d, q.1 = [d] := by
    rcases take1_cases q.1 with ⟨e, _⟩ | ⟨x, t, e, _, _⟩
    · rw [e] at lt
      exact absurd lt (List.not_lt_nil _)
    · have l := (h3 q mq).1.1
      rw [e] at l ⊢
      simp only [List.length_cons] at l
      exact ⟨x, by rw [List.eq_nil_of_length_eq_zero (show t.length = 0 by omega)]⟩
  obtain ⟨d, hd⟩ := hq
  have key : lcp (s ++ p.1 ++ y) (s ++ q.1 ++ z) = s ∧ s ++ p.1 ++ y ≠ s ++ q.1 ++ z := by
    have lc : ∀ (s a b : Tx), lcp (s ++ a) (s ++ b) = s ++ lcp a b := by
      intro s a b
      induction s with
      | nil => rfl
      | cons x s ih =>
        show lcp (x :: (s ++ a)) (x :: (s ++ b)) = _
        rw [lcp.eq_1, if_pos rfl, ih, List.cons_append]
    rw [List.append_assoc, List.append_assoc, lc]
    rw [hd] at lt ⊢
    rcases take1_cases p.1 with ⟨e, _⟩ | ⟨x, t, e, _, _⟩
    · obtain ⟨n, el⟩ := (h3 p mp).1.2 e
      rw [el, get_leaf] at hy
      have ey : y = [] := Classical.byContradiction fun h => hy (if_neg h)
      rw [e, ey]
      exact ⟨by simp [lcp], by simp⟩
    · have l := (h3 p mp).1.1
      rw [e] at l
      simp only [List.length_cons] at l
      have et : t = [] := List.eq_nil_of_length_eq_zero (by omega)
      rw [e, et] at lt ⊢
      have xd : x ≠ d := fun z => by
        rw [z] at lt
        exact tx_irr _ lt
      refine ⟨by simp [lcp, xd], fun z => ?_⟩
      have z2 := List.append_cancel_left z
      simp at z2
      exact xd z2.1
  exact ⟨_, _, by rw [e1]; exact hy, by rw [e2]; exact hz, key.1, key.2⟩
/-- behind each sign just the names of the branch -/
theorem get_at {s : Tx} {bs : List (Tx × Tr)} (c : Nat) (y : Tx) : get (.fork s bs) (s ++ c :: y) = (brOf bs [c]).bind fun t => get t y := by
  rw [get_fork, if_pos (List.prefix_append _ _)]
  have e2 : (s ++ c :: y).drop (s.length + 1) = y := by rw [← List.drop_drop]; simp
  rw [e2]
  simp
theorem get_end {s : Tx} {bs : List (Tx × Tr)} : get (.fork s bs) s = (brOf bs []).bind fun t => get t [] := by
  rw [get_fork, if_pos (List.prefix_refl _), List.drop_eq_nil_of_le (Nat.le_succ _)]
  simp
theorem wf_ext : ∀ t, Wf t → ∀ u, Wf u → (∀ y, get t y = get u y) → t = u := by
  refine Tr.ind (fun r n _ u hu h => ?_) fun s bs ih ht u hu h => ?_
  · cases u with
    | leaf r' n' =>
      have e := h r
      rw [get_leaf, get_leaf, if_pos rfl] at e
      by_cases c : r = r'
      · subst c
        rw [if_pos rfl] at e
        cases e
        rfl
      · rw [if_neg c] at e
        cases e
    | fork s' bs' =>
      obtain ⟨y, z, h1, h2, _, h3⟩ := fork_two hu
      rw [← h, get_leaf] at h1 h2
      have ey : y = r := Classical.byContradiction fun q => h1 (if_neg q)
      have ez : z = r := Classical.byContradiction fun q => h2 (if_neg q)
      exact absurd (ey.trans ez.symm) h3
  · cases u with
    | leaf r n =>
      obtain ⟨y, z, h1, h2, _, h3⟩ := fork_two ht
      rw [h, get_leaf] at h1 h2
      have ey : y = r := Classical.byContradiction fun q => h1 (if_neg q)
      have ez : z = r := Classical.byContradiction fun q => h2 (if_neg q)
      exact absurd (ey.trans ez.symm) h3
    | fork s' bs' =>
      have es : s = s' := by
        obtain ⟨y, z, h1, h2, h3, _⟩ := fork_two ht
        obtain ⟨y', z', k1, k2, k3, _⟩ := fork_two hu
        have p1 : s' <+: s := by
          rw [← h3]
          exact pre_lcp (get_pre (by rw [← h]; exact h1)) (get_pre (by rw [← h]; exact h2))
        have p2 : s <+: s' := by
          rw [← k3]
          exact pre_lcp (get_pre (by rw [h]; exact k1)) (get_pre (by rw [h]; exact k2))
        exact List.IsPrefix.eq_of_length p2 (Nat.le_antisymm p2.length_le p1.length_le)
      subst es
      obtain ⟨a1, a2, a3⟩ := wf_fork.mp ht
      obtain ⟨b1, b2, b3⟩ := wf_fork.mp hu
      have eb : bs = bs' := by
        refine up_ext a2 b2 fun x => ?_
        have one : ∀ {as bs : List (Tx × Tr)}, (∀ p ∈ as, SignOk p ∧ Wf p.2) → 1 < x.length → brOf as x = none := fun {as bs} hh hl => none_brOf fun p hp e => by
          have := (hh p hp).1.1
          rw [e] at this
          omega
        rcases take1_cases x with ⟨rfl, _⟩ | ⟨c, r, rfl, _, _⟩
        · have e := h s
          rw [get_end, get_end] at e
          cases c1 : brOf bs [] with
          | none =>
            cases c2 : brOf bs' [] with
            | none => rfl
            | some t2 =>
              obtain ⟨n, en⟩ := (b3 _ (brOf_mem c2)).1.2 rfl
              simp only at en
              rw [c1, c2, en] at e
              simp [get_leaf] at e
          | some t1 =>
            obtain ⟨n, en⟩ := (a3 _ (brOf_mem c1)).1.2 rfl
            simp only at en
            cases c2 : brOf bs' [] with
            | none =>
              rw [c1, c2, en] at e
              simp [get_leaf] at e
            | some t2 =>
              obtain ⟨m, em⟩ := (b3 _ (brOf_mem c2)).1.2 rfl
              simp only at em
              rw [c1, c2, en, em] at e
              simp [get_leaf] at e
              rw [en, em, e]
        · by_cases hr : r = []
          · subst hr
            have e : ∀ y, ((brOf bs [c]).bind fun t => get t y) = (brOf bs' [c]).bind fun t => get t y := fun y => by
              rw [← get_at (s := s), ← get_at (s := s)]
              exact h _
            cases c1 : brOf bs [c] with
            | none =>
              cases c2 : brOf bs' [c] with
              | none => rfl
              | some t2 =>
                obtain ⟨y, hy⟩ := wf_some t2 (b3 _ (brOf_mem c2)).2
                have e' := e y
                rw [c1, c2] at e'
                exact absurd e'.symm hy
            | some t1 =>
              cases c2 : brOf bs' [c] with
              | none =>
                obtain ⟨y, hy⟩ := wf_some t1 (a3 _ (brOf_mem c1)).2
                have e' := e y
                rw [c1, c2] at e'
                exact absurd e' hy
              | some t2 =>
                have e' : ∀ y, get t1 y = get t2 y := fun y => by
                  have q := e y
                  rw [c1, c2] at q
                  exact q
                exact congrArg some (ih _ (brOf_mem c1) (a3 _ (brOf_mem c1)).2 t2 (b3 _ (brOf_mem c2)).2 e')
          · have hl : 1 < (c :: r).length := by
              cases r with
              | nil => exact absurd rfl hr
              | cons _ _ => simp
            rw [one (bs := bs) a3 hl, one (bs := bs) b3 hl]
      rw [eb]
def WfO : Option Tr → Prop
  | none => True
  | some t => Wf t
/-- THE ONE TREE of what is kept -/
theorem wfO_ext {t u : Option Tr} (ht : WfO t) (hu : WfO u) (h : ∀ y, getO t y = getO u y) : t = u := by
  cases t with
  | none =>
    cases u with
    | none => rfl
    | some u =>
      obtain ⟨y, hy⟩ := wf_some u hu
      exact absurd (h y).symm hy
  | some t =>
    cases u with
    | none =>
      obtain ⟨y, hy⟩ := wf_some t ht
      exact absurd (h y) hy
    | some u => rw [wf_ext t ht u hu h]
end TM
/-! Mth2: texts of trees changed, branches exchanged, knots, behind a place of the text. -/
namespace TM
def text : Tr → Tx
  | .leaf r _ => r
  | .fork s _ => s
def retext : Tr → Tx → Tr
  | .leaf _ n, x => .leaf x n
  | .fork _ bs, x => .fork x bs
def ahead (b : Tx) (t : Tr) : Tr := retext t (b ++ text t)
theorem text_retext (t : Tr) (x : Tx) : text (retext t x) = x := by cases t <;> rfl
theorem retext_text (t : Tr) : retext t (text t) = t := by cases t <;> rfl
theorem wf_retext {t : Tr} {x : Tx} : Wf (retext t x) ↔ Wf t := by
  cases t with
  | leaf r n => simp [retext, wf_leaf]
  | fork s bs => simp only [retext, wf_fork]
theorem get_retext (t : Tr) (x y : Tx) : get (retext t x) (x ++ y) = get t (text t ++ y) := by
  cases t with
  | leaf r n =>
    show get (.leaf x n) (x ++ y) = get (.leaf r n) (r ++ y)
    rw [get_leaf, get_leaf]
    have e1 : (x ++ y = x) ↔ y = [] := by simp
    have e2 : (r ++ y = r) ↔ y = [] := by simp
    simp only [e1, e2]
  | fork s bs =>
    show get (.fork x bs) (x ++ y) = get (.fork s bs) (s ++ y)
    rw [get_fork, get_fork, if_pos (List.prefix_append _ _), if_pos (List.prefix_append _ _)]
    rw [← List.drop_drop, ← List.drop_drop]
    simp
theorem get_text_pre {t : Tr} {y : Tx} (h : get t y ≠ none) : text t <+: y := by
  cases t with
  | leaf r n =>
    rw [get_leaf] at h
    have e : y = r := Classical.byContradiction fun q => h (if_neg q)
    rw [e]
    exact List.prefix_refl _
  | fork s bs => exact get_pre h
theorem get_ahead (b : Tx) (t : Tr) (y : Tx) : get (ahead b t) y = if b <+: y then get t (y.drop b.length) else none := by
  by_cases h : b <+: y
  · rw [if_pos h]
    obtain ⟨z, rfl⟩ := h
    rw [List.drop_left]
    by_cases q : text t <+: z
    · obtain ⟨u, rfl⟩ := q
      unfold ahead
      rw [← List.append_assoc]
      exact get_retext t _ u
    · have e1 : get t z = none := Classical.byContradiction fun e => q (get_text_pre e)
      rw [e1]
      refine Classical.byContradiction fun e => q ?_
      have e2 := get_text_pre e
      unfold ahead at e2
      rw [text_retext] at e2
      exact (List.prefix_append_right_inj b).mp e2
  · rw [if_neg h]
    refine Classical.byContradiction fun e => h ?_
    have e2 := get_text_pre e
    unfold ahead at e2
    rw [text_retext] at e2
    exact (List.prefix_append _ _).trans e2
theorem wf_ahead {b : Tx} {t : Tr} : Wf (ahead b t) ↔ Wf t := wf_retext
/-- a fork of one branch or more -/
def Pf (bs : List (Tx × Tr)) : Prop := Up bs ∧ (∀ p ∈ bs, SignOk p ∧ Wf p.2) ∧ bs ≠ []
theorem pf_of {s : Tx} {bs : List (Tx × Tr)} (h : Wf (.fork s bs)) : Pf bs := by
  obtain ⟨h1, h2, h3⟩ := wf_fork.mp h
  refine ⟨h2, h3, fun e => ?_⟩
  rw [e] at h1
  simp at h1
theorem of_pf {s : Tx} {bs : List (Tx × Tr)} (h : Pf bs) (h2 : 2 ≤ bs.length) : Wf (.fork s bs) := wf_fork.mpr ⟨h2, h.1, h.2.1⟩

/-! ### a branch exchanged -/
def withB (bs : List (Tx × Tr)) (c : Tx) (o : Option Tr) : List (Tx × Tr) := bs.filter (fun p => decide (p.1 < c)) ++ (match o with | none => [] | some t => [(c, t)]) ++ bs.filter (fun p => decide (c < p.1))
theorem mem_withB {bs : List (Tx × Tr)} {c : Tx} {o : Option Tr} {p : Tx × Tr} : p ∈ withB bs c o ↔ (p.1 = c ∧ o = some p.2) ∨ (p ∈ bs ∧ p.1 ≠ c) := by
  unfold withB
  simp only [List.mem_append, List.mem_filter, decide_eq_true_eq]
  constructor
  · rintro ((⟨h1, h2⟩ | h) | ⟨h1, h2⟩)
    · exact .inr ⟨h1, tx_ne h2⟩
    · cases o with
      | none => simp at h
      | some t =>
        simp at h
        rw [h]
        exact .inl ⟨rfl, rfl⟩
    · exact .inr ⟨h1, (tx_ne h2).symm⟩
  · rintro (⟨h1, h2⟩ | ⟨h1, h2⟩)
    · subst h2
      subst h1
      exact .inl (.inr (by simp))
    · rcases tx_tri p.1 c with l | e | l
      · exact .inl (.inl ⟨h1, l⟩)
      · exact absurd e h2
      · exact .inr ⟨h1, l⟩
theorem up_withB {bs : List (Tx × Tr)} {c : Tx} {o : Option Tr} (h : Up bs) : Up (withB bs c o) := by
  unfold withB Up
  rw [List.pairwise_append, List.pairwise_append]
  refine ⟨⟨h.filter _, ?_, ?_⟩, h.filter _, ?_⟩
  · cases o <;> simp
  · intro a ha b hb
    cases o with
    | none => simp at hb
    | some t =>
      simp only [List.mem_singleton] at hb
      subst hb
      exact of_decide_eq_true (List.mem_filter.mp ha).2
  · intro a ha b hb
    have hb2 : c < b.1 := of_decide_eq_true (List.mem_filter.mp hb).2
    rcases List.mem_append.mp ha with ha | ha
    · exact tx_trans (of_decide_eq_true (List.mem_filter.mp ha).2) hb2
    · cases o with
      | none => simp at ha
      | some t =>
        simp only [List.mem_singleton] at ha
        subst ha
        exact hb2
theorem brOf_withB {bs : List (Tx × Tr)} {c : Tx} {o : Option Tr} (h : Up bs) (x : Tx) : brOf (withB bs c o) x = if x = c then o else brOf bs x := by
  have hu := up_withB (c := c) (o := o) h
  by_cases e : x = c
  · subst e
    rw [if_pos rfl]
    cases o with
    | none =>
      refine none_brOf fun p hp => ?_
      rcases mem_withB.mp hp with ⟨_, q⟩ | ⟨_, q⟩
      · cases q
      · exact q
    | some t => exact mem_brOf hu (mem_withB.mpr (.inl ⟨rfl, rfl⟩))
  · rw [if_neg e]
    cases q : brOf bs x with
    | none =>
      refine none_brOf fun p hp => ?_
      rcases mem_withB.mp hp with ⟨q1, _⟩ | ⟨q1, _⟩
      · rw [q1]
        exact fun z => e z.symm
      · exact brOf_none q p q1
    | some t => exact mem_brOf hu (mem_withB.mpr (.inr ⟨brOf_mem q, e⟩))
theorem ok_withB {bs : List (Tx × Tr)} {c : Tx} {o : Option Tr} (h : ∀ p ∈ bs, SignOk p ∧ Wf p.2) (ho : ∀ t, o = some t → SignOk (c, t) ∧ Wf t) : ∀ p ∈ withB bs c o, SignOk p ∧ Wf p.2 := fun p hp => by
  rcases mem_withB.mp hp with ⟨q1, q2⟩ | ⟨q1, _⟩
  · have := ho p.2 q2
    rw [← q1] at this
    exact this
  · exact h p q1
theorem len_withB_some {bs : List (Tx × Tr)} {c : Tx} {t : Tr} (h : Up bs) : bs.length ≤ (withB bs c (some t)).length := by
  have key : ∀ bs : List (Tx × Tr), Up bs → bs.length ≤ (bs.filter (fun p => decide (p.1 < c))).length + 1 + (bs.filter (fun p => decide (c < p.1))).length := by
    intro bs h
    induction bs with
    | nil => simp
    | cons p r ih =>
      have h' := List.pairwise_cons.mp h
      have ih := ih h'.2
      rcases tx_tri p.1 c with l | e | l
      · have n : ¬ c < p.1 := tx_asymm l
        simp only [List.filter_cons, decide_eq_true l, decide_eq_false n, if_true, if_false, List.length_cons]
        simp
        omega
      · have n1 : ¬ c < p.1 := by rw [e]; exact tx_irr _
        have n2 : ¬ p.1 < c := by rw [e]; exact tx_irr _
        have all : r.filter (fun p => decide (c < p.1)) = r := by
          rw [List.filter_eq_self]
          intro q hq
          rw [← e]
          exact decide_eq_true (h'.1 q hq)
        simp only [List.filter_cons, decide_eq_false n1, decide_eq_false n2, List.length_cons]
        simp [all]
        omega
      · have n : ¬ p.1 < c := tx_asymm l
        simp only [List.filter_cons, decide_eq_true l, decide_eq_false n, List.length_cons]
        simp
        omega
  have := key bs h
  unfold withB
  simp only [List.length_append, List.length_singleton]
  omega
theorem len_withB_new {bs : List (Tx × Tr)} {c : Tx} {t : Tr} (h : Up bs) (hn : brOf bs c = none) : (withB bs c (some t)).length = bs.length + 1 := by
  have key : ∀ bs : List (Tx × Tr), (∀ p ∈ bs, p.1 ≠ c) → bs.length = (bs.filter (fun p => decide (p.1 < c))).length + (bs.filter (fun p => decide (c < p.1))).length := by
    intro bs h
    induction bs with
    | nil => simp
    | cons p r ih =>
      have ih := ih fun q hq => h q (List.mem_cons_of_mem _ hq)
      rcases tx_tri p.1 c with l | e | l
      · have n : ¬ c < p.1 := tx_asymm l
        simp only [List.filter_cons, decide_eq_true l, decide_eq_false n, List.length_cons]
        simp
        omega
      · exact absurd e (h p List.mem_cons_self)
      · have n : ¬ p.1 < c := tx_asymm l
        simp only [List.filter_cons, decide_eq_true l, decide_eq_false n, List.length_cons]
        simp
        omega
  have := key bs (brOf_none hn)
  unfold withB
  simp only [List.length_append, List.length_singleton]
  omega
theorem len_withB_none {bs : List (Tx × Tr)} {c : Tx} (h : Up bs) (hs : brOf bs c ≠ none) : (withB bs c none).length + 1 = bs.length := by
  induction bs with
  | nil => simp [brOf] at hs
  | cons p r ih =>
    have h' := List.pairwise_cons.mp h
    obtain ⟨d, t⟩ := p
    unfold withB
    simp only [List.append_nil, List.length_append]
    rcases tx_tri d c with l | e | l
    · have n : ¬ c < d := tx_asymm l
      have hr : brOf r c ≠ none := by
        intro z
        apply hs
        unfold brOf
        rw [if_neg (tx_ne l)]
        exact z
      have ih := ih h'.2 hr
      unfold withB at ih
      simp only [List.append_nil, List.length_append] at ih
      simp only [List.filter_cons, decide_eq_true l, decide_eq_false n, List.length_cons]
      simp
      omega
    · subst e
      have n1 : ¬ d < d := tx_irr _
      have all : r.filter (fun p => decide (d < p.1)) = r := by
        rw [List.filter_eq_self]
        intro q hq
        exact decide_eq_true (h'.1 q hq)
      have no : r.filter (fun p => decide (p.1 < d)) = [] := by
        rw [List.filter_eq_nil_iff]
        intro q hq
        simpa using tx_asymm (h'.1 q hq)
      simp only [List.filter_cons, decide_eq_false n1, List.length_cons]
      simp [all, no]
    · exfalso
      apply hs
      refine none_brOf fun q hq => ?_
      rcases List.mem_cons.mp hq with rfl | hq
      · exact (tx_ne l).symm
      · exact (tx_ne (tx_trans l (h'.1 q hq))).symm
/-- what is kept behind an exchanged branch -/
theorem get_withB {s : Tx} {bs : List (Tx × Tr)} {c : Tx} {o : Option Tr} (h : Up bs) (y : Tx) : get (.fork s (withB bs c o)) y =
    if s <+: y ∧ (y.drop s.length).take 1 = c then getO o (y.drop (s.length + 1)) else get (.fork s bs) y := by
  rw [get_fork, get_fork, brOf_withB h]
  by_cases h1 : s <+: y
  · rw [if_pos h1, if_pos h1]
    by_cases h2 : (y.drop s.length).take 1 = c
    · rw [if_pos h2, if_pos ⟨h1, h2⟩]
      cases o <;> rfl
    · rw [if_neg h2, if_neg (fun z => h2 z.2)]
  · rw [if_neg h1, if_neg h1, if_neg (fun z => h1 z.1)]

/-! ### a knot of one branch or more -/
def knotOf (s : Tx) (bs : List (Tx × Tr)) : Tr := if bs.length > 1 then .fork s bs else match bs with
  | (c, t) :: _ => ahead (s ++ c) t
  | [] => .leaf [] 0
theorem wf_knot {s : Tx} {bs : List (Tx × Tr)} (h : Pf bs) : Wf (knotOf s bs) := by
  unfold knotOf
  by_cases c : bs.length > 1
  · rw [if_pos c]
    exact of_pf h c
  · rw [if_neg c]
    cases bs with
    | nil => exact absurd rfl h.2.2
    | cons p r => exact wf_ahead.mpr (h.2.1 p List.mem_cons_self).2
theorem get_knot {s : Tx} {bs : List (Tx × Tr)} (h : Pf bs) (y : Tx) : get (knotOf s bs) y = get (.fork s bs) y := by
  unfold knotOf
  by_cases c : bs.length > 1
  · rw [if_pos c]
  · rw [if_neg c]
    match bs, c, h with
    | [], _, h => exact absurd rfl h.2.2
    | [(d, t)], _, h =>
      have ok := (h.2.1 (d, t) List.mem_cons_self).1
      show get (ahead (s ++ d) t) y = _
      rw [get_ahead, get_fork]
      by_cases h1 : s <+: y
      · rw [if_pos h1]
        obtain ⟨z, rfl⟩ := h1
        rw [List.drop_left]
        have e3 : (s ++ z).drop (s.length + 1) = z.drop 1 := by rw [← List.drop_drop, List.drop_left]
        rw [e3]
        unfold brOf
        rcases take1_cases d with ⟨rfl, _⟩ | ⟨x, q, rfl, _, _⟩
        · obtain ⟨n, en⟩ := ok.2 rfl
          simp only at en
          subst en
          rw [if_pos (by simp)]
          simp only [List.append_nil, List.drop_left]
          rcases take1_cases z with ⟨rfl, _⟩ | ⟨x, q, rfl, _, _⟩
          · simp [get_leaf]
          · simp [get_leaf, brOf]
        · have eq : q = [] := by
            have := ok.1
            simp only [List.length_cons] at this
            exact List.eq_nil_of_length_eq_zero (by omega)
          subst eq
          rcases take1_cases z with ⟨rfl, _⟩ | ⟨x', q, rfl, _, _⟩
          · have n : ¬ s ++ [x] <+: s := fun z => by
              have := z.length_le
              rw [List.length_append, List.length_singleton] at this
              omega
            simp [brOf, n]
          · by_cases ex : x = x'
            · subst ex
              have e4 : (s ++ x :: q).drop (s.length + 1) = q := by rw [← List.drop_drop]; simp
              simp [brOf, e4]
            · simp [brOf, ex]
      · rw [if_neg h1, if_neg fun z => h1 ((List.prefix_append _ _).trans z)]
    | _ :: _ :: _, c, _ => exact absurd (by simp) c

/-! ### behind a place of the text -/
def behindT (t : Tr) (k : Nat) : Tx × Tr := (((text t).drop k).take 1, retext t ((text t).drop (k + 1)))
def isLeaf : Tr → Bool
  | .leaf _ _ => true
  | _ => false
def bb (t : Tr) (k : Nat) : List (Tx × Tr) := match t with
  | .fork s bs => if s.length = k then bs else [behindT t k]
  | .leaf _ _ => [behindT t k]
theorem behind_ok {t : Tr} {k : Nat} (h : Wf t) (hk : k < (text t).length ∨ (isLeaf t = true ∧ k ≤ (text t).length)) : SignOk (behindT t k) ∧ Wf (behindT t k).2 := by
  refine ⟨⟨by simp only [behindT, List.length_take]; omega, fun e => ?_⟩, wf_retext.mpr h⟩
  simp only [behindT] at e ⊢
  have e2 : (text t).drop k = [] := by
    rcases take1_cases ((text t).drop k) with ⟨q, _⟩ | ⟨x, q, _, e', _⟩
    · exact q
    · rw [e'] at e
      cases e
  have hl : (text t).length ≤ k := List.drop_eq_nil_iff.mp e2
  rcases hk with hk | ⟨hk, _⟩
  · omega
  · cases t with
    | leaf r n => exact ⟨n, by rw [List.drop_eq_nil_of_le (by omega)]; rfl⟩
    | fork s bs => cases hk
theorem get_behind {t : Tr} {k : Nat} (hk : k < (text t).length ∨ (isLeaf t = true ∧ k ≤ (text t).length)) (y : Tx) : get (.fork ((text t).take k) [behindT t k]) y = get t y := by
  have hk' : k ≤ (text t).length := by rcases hk with h | ⟨_, h⟩ <;> omega
  have hl : ((text t).take k).length = k := by rw [List.length_take]; omega
  rw [get_fork, hl]
  have split : (text t).take k ++ (text t).drop k = text t := List.take_append_drop _ _
  by_cases h1 : (text t).take k <+: y
  · rw [if_pos h1]
    unfold behindT brOf
    have ey : y = (text t).take k ++ y.drop k := by
      obtain ⟨z, rfl⟩ := h1
      rw [List.drop_append_of_le_length (by omega)]
      rw [List.drop_eq_nil_of_le (by omega)]
      simp
    by_cases h2 : ((text t).drop k).take 1 = (y.drop k).take 1
    · rw [if_pos h2]
      show get (retext t ((text t).drop (k + 1))) (y.drop (k + 1)) = get t y
      have s1 : (text t) = (text t).take k ++ (((text t).drop k).take 1 ++ (text t).drop (k + 1)) := by
        rw [← List.drop_drop, take_drop1, split]
      have s2 : y = (text t).take k ++ (((text t).drop k).take 1 ++ y.drop (k + 1)) := by
        rw [h2, ← List.drop_drop, take_drop1]
        exact ey
      by_cases h3 : (text t).drop (k + 1) <+: y.drop (k + 1)
      · obtain ⟨u, hu⟩ := h3
        rw [← hu, get_retext]
        rw [← hu] at s2
        rw [s2, ← List.append_assoc, ← List.append_assoc, List.append_assoc ((text t).take k), ← s1]
      · have e1 : get (retext t ((text t).drop (k + 1))) (y.drop (k + 1)) = none := Classical.byContradiction fun e => h3 (by
          have := get_text_pre e
          rwa [text_retext] at this)
        rw [e1]
        symm
        refine Classical.byContradiction fun e => h3 ?_
        have e2 := get_text_pre e
        rw [s1, s2, List.prefix_append_right_inj, List.prefix_append_right_inj] at e2
        exact e2
    · rw [if_neg h2]
      symm
      show get t y = none
      refine Classical.byContradiction fun e => h2 ?_
      have e2 := get_text_pre e
      rw [← split] at e2
      rw [ey, List.prefix_append_right_inj] at e2
      rcases hk with hk | ⟨hk, _⟩
      · cases q : (text t).drop k with
        | nil =>
          have := List.drop_eq_nil_iff.mp q
          omega
        | cons x r =>
          rw [q] at e2
          obtain ⟨u, hu⟩ := e2
          rw [← hu]
          rfl
      · cases t with
        | fork s bs => cases hk
        | leaf r n =>
          rw [get_leaf] at e
          have er : y = r := Classical.byContradiction fun q => e (if_neg q)
          rw [er]
          rfl
  · rw [if_neg h1]
    symm
    refine Classical.byContradiction fun e => h1 ?_
    exact (List.take_prefix _ _).trans (get_text_pre e)
theorem bb_ok {t : Tr} {k : Nat} (h : Wf t) (hk : k ≤ (text t).length) : Pf (bb t k) ∧ ∀ y, get (.fork ((text t).take k) (bb t k)) y = get t y := by
  have one : (k < (text t).length ∨ (isLeaf t = true ∧ k ≤ (text t).length)) → Pf [behindT t k] ∧ ∀ y, get (.fork ((text t).take k) [behindT t k]) y = get t y := fun q =>
    ⟨⟨List.pairwise_singleton _ _, fun p hp => by
      rw [List.mem_singleton.mp hp]
      exact behind_ok h q, by simp⟩, get_behind q⟩
  cases t with
  | leaf r n => exact one (.inr ⟨rfl, hk⟩)
  | fork s bs =>
    unfold bb
    by_cases c : s.length = k
    · simp only [if_pos c]
      subst c
      refine ⟨pf_of h, fun y => ?_⟩
      show get (.fork (s.take s.length) bs) y = _
      rw [List.take_length]
    · simp only [if_neg c]
      exact one (.inl (by simp only [text] at hk ⊢; omega))
end TM
/-! Mth3: rows, names, knots, how large a tree is. -/
namespace TM
/-! ### rows -/
def Sr (R : List Rw) : Prop := R.Pairwise fun a b => a.1 < b.1
def lk : List Rw → Tx → Option Int
  | [], _ => none
  | (x, v) :: r, y => if x = y then some v else lk r y
theorem lk_mem : ∀ {R : List Rw} {y : Tx} {v : Int}, lk R y = some v → (y, v) ∈ R
  | (x, u) :: r, y, v, h => by
    unfold lk at h
    by_cases e : x = y
    · rw [if_pos e] at h
      cases h
      rw [e]
      exact List.mem_cons_self
    · rw [if_neg e] at h
      exact List.mem_cons_of_mem _ (lk_mem h)
theorem mem_lk : ∀ {R : List Rw} {y : Tx} {v : Int}, Sr R → (y, v) ∈ R → lk R y = some v
  | (x, u) :: r, y, v, hs, h => by
    have hs' := List.pairwise_cons.mp hs
    unfold lk
    rcases List.mem_cons.mp h with e | h
    · cases e
      rw [if_pos rfl]
    · rw [if_neg (tx_ne (hs'.1 _ h))]
      exact mem_lk hs'.2 h
theorem lk_none : ∀ {R : List Rw} {y : Tx}, lk R y = none ↔ ∀ r ∈ R, r.1 ≠ y
  | [], _ => by simp [lk]
  | (x, u) :: r, y => by
    unfold lk
    by_cases e : x = y
    · simp [e]
    · rw [if_neg e, lk_none (R := r)]
      simp [e]
theorem sr_ext : ∀ {A B : List Rw}, Sr A → Sr B → (∀ r, r ∈ A ↔ r ∈ B) → A = B
  | [], [], _, _, _ => rfl
  | [], b :: B, _, _, h => by
    have := (h b).mpr List.mem_cons_self
    simp at this
  | a :: A, [], _, _, h => by
    have := (h a).mp List.mem_cons_self
    simp at this
  | a :: A, b :: B, h1, h2, h => by
    have h1' := List.pairwise_cons.mp h1
    have h2' := List.pairwise_cons.mp h2
    have e : a = b := by
      rcases List.mem_cons.mp ((h a).mp List.mem_cons_self) with e | m
      · exact e
      · rcases List.mem_cons.mp ((h b).mpr List.mem_cons_self) with e | m2
        · exact e.symm
        · exact absurd (h2'.1 a m) (tx_asymm (h1'.1 b m2))
    subst e
    rw [sr_ext h1'.2 h2'.2 fun r => ?_]
    constructor
    · intro m
      rcases List.mem_cons.mp ((h r).mp (List.mem_cons_of_mem _ m)) with e | m2
      · rw [e] at m
        exact absurd (h1'.1 a m) (tx_irr _)
      · exact m2
    · intro m
      rcases List.mem_cons.mp ((h r).mpr (List.mem_cons_of_mem _ m)) with e | m2
      · rw [e] at m
        exact absurd (h2'.1 a m) (tx_irr _)
      · exact m2
theorem sr_filter {R : List Rw} (h : Sr R) (f : Rw → Bool) : Sr (R.filter f) := h.filter f
theorem lk_filter {R : List Rw} (h : Sr R) (f : Rw → Bool) (y : Tx) : lk (R.filter f) y = (lk R y).bind fun v => if f (y, v) = true then some v else none := by
  cases e : lk R y with
  | none =>
    show _ = none
    rw [lk_none] at e ⊢
    intro r hr
    exact e r (List.mem_filter.mp hr).1
  | some v =>
    have hm := lk_mem e
    show _ = if f (y, v) = true then some v else none
    by_cases c : f (y, v) = true
    · rw [if_pos c]
      exact mem_lk (sr_filter h f) (List.mem_filter.mpr ⟨hm, c⟩)
    · rw [if_neg c, lk_none]
      intro r hr q
      obtain ⟨h1, h2⟩ := List.mem_filter.mp hr
      have e2 := mem_lk h h1
      rw [q, e] at e2
      cases e2
      rw [← q] at c
      exact c h2

/-! ### the names of a tree -/
mutual
def names : Tr → List Rw
  | .leaf r n => [(r, n)]
  | .fork s bs => namesB s bs
def namesB : Tx → List (Tx × Tr) → List Rw
  | _, [] => []
  | s, (c, t) :: r => (names t).map (fun p => (s ++ c ++ p.1, p.2)) ++ namesB s r
end
mutual
def knots : Tr → List Rw
  | .leaf r _ => [(r, 0)]
  | .fork s bs => (s, (bs.length : Int)) :: knotsB s bs
def knotsB : Tx → List (Tx × Tr) → List Rw
  | _, [] => []
  | s, (c, t) :: r => (knots t).map (fun p => (s ++ c ++ p.1, p.2)) ++ knotsB s r
end
theorem mem_namesB {s : Tx} : ∀ {bs : List (Tx × Tr)} {q : Rw}, q ∈ namesB s bs ↔ ∃ p ∈ bs, ∃ z ∈ names p.2, q = (s ++ p.1 ++ z.1, z.2)
  | [], q => by simp [namesB]
  | (c, t) :: r, q => by
    unfold namesB
    rw [List.mem_append, mem_namesB (bs := r), List.mem_map]
    constructor
    · rintro (⟨z, h1, h2⟩ | ⟨p, h1, h2⟩)
      · exact ⟨(c, t), List.mem_cons_self, z, h1, h2.symm⟩
      · exact ⟨p, List.mem_cons_of_mem _ h1, h2⟩
    · rintro ⟨p, h1, z, h2, h3⟩
      rcases List.mem_cons.mp h1 with rfl | h1
      · exact .inl ⟨z, h2, h3.symm⟩
      · exact .inr ⟨p, h1, z, h2, h3⟩
theorem get_split {s : Tx} {bs : List (Tx × Tr)} {y : Tx} {v : Int} (hw : Pf bs) (h : get (.fork s bs) y = some v) : ∃ p ∈ bs, ∃ z, get p.2 z = some v ∧ y = s ++ p.1 ++ z := by
  have hp : s <+: y := get_pre (by rw [h]; exact fun z => nomatch z)
  rw [get_fork, if_pos hp] at h
  cases q : brOf bs ((y.drop s.length).take 1) with
  | none =>
    rw [q] at h
    cases h
  | some t =>
    rw [q] at h
    refine ⟨_, brOf_mem q, y.drop (s.length + 1), h, ?_⟩
    rw [← List.drop_drop, List.append_assoc, take_drop1]
    exact pre_split hp
theorem mem_names : ∀ t, Wf t → ∀ (y : Tx) (v : Int), (y, v) ∈ names t ↔ get t y = some v := by
  refine Tr.ind (fun r n _ y v => ?_) fun s bs ih h y v => ?_
  · rw [names, get_leaf]
    by_cases e : y = r
    · subst e
      simp [eq_comm]
    · simp [e]
  · have hp := pf_of h
    rw [names.eq_2, mem_namesB]
    constructor
    · rintro ⟨p, hm, z, hz, e⟩
      cases e
      have g := (ih p hm (hp.2.1 p hm).2 z.1 z.2).mp hz
      rw [get_in hp.1 hm (hp.2.1 p hm).1 z.1 (by rw [g]; exact fun q => nomatch q), g]
    · intro g
      obtain ⟨p, hm, z, hz, e⟩ := get_split hp g
      exact ⟨p, hm, (z, v), (ih p hm (hp.2.1 p hm).2 z v).mpr hz, by rw [e]⟩
theorem lt_pre : ∀ (s : Tx) {a b : Tx}, a < b → s ++ a < s ++ b
  | [], _, _, h => h
  | x :: s, _, _, h => List.Lex.cons (lt_pre s h)
theorem lt_head {x y : Nat} {a b : Tx} (h : x < y) : x :: a < y :: b := List.Lex.rel h
theorem sr_names : ∀ t, Wf t → Sr (names t) := by
  refine Tr.ind (fun r n _ => ?_) fun s bs ih h => ?_
  · rw [names]
    exact List.pairwise_singleton _ _
  · have hp := pf_of h
    rw [names.eq_2]
    have key : ∀ bs : List (Tx × Tr), Up bs → (∀ p ∈ bs, (SignOk p ∧ Wf p.2) ∧ Sr (names p.2)) → Sr (namesB s bs) := by
      intro bs
      induction bs with
      | nil => intro _ _; unfold namesB; exact .nil
      | cons p r ih2 =>
        intro hu hh
        have hu' := List.pairwise_cons.mp hu
        obtain ⟨c, t⟩ := p
        unfold namesB
        refine List.pairwise_append.mpr ⟨?_, ih2 hu'.2 fun q hq => hh q (List.mem_cons_of_mem _ hq), ?_⟩
        · rw [List.pairwise_map]
          exact (hh _ List.mem_cons_self).2.imp fun {a b} hab => lt_pre _ hab
        · intro a ha b hb
          obtain ⟨za, ha1, ha2⟩ := List.mem_map.mp ha
          obtain ⟨q, hq, zb, hb1, hb2⟩ := mem_namesB.mp hb
          subst ha2
          subst hb2
          have l : c < q.1 := hu'.1 q hq
          show s ++ c ++ za.1 < s ++ q.1 ++ zb.1
          rw [List.append_assoc, List.append_assoc]
          refine lt_pre s ?_
          have oq := (hh q (List.mem_cons_of_mem _ hq)).1.1.1
          have oc := (hh (c, t) List.mem_cons_self).1.1
          have hqs : ∃ d, q.1 = [d] := by
            rcases take1_cases q.1 with ⟨e, _⟩ | ⟨x, u, e, _, _⟩
            · rw [e] at l
              exact absurd l (List.not_lt_nil _)
            · rw [e] at oq
              simp only [List.length_cons] at oq
              exact ⟨x, by rw [e, List.eq_nil_of_length_eq_zero (show u.length = 0 by omega)]⟩
          obtain ⟨d, hd⟩ := hqs
          rw [hd] at l ⊢
          rcases take1_cases c with ⟨e, _⟩ | ⟨x, u, e, _, _⟩
          · obtain ⟨n, en⟩ := oc.2 e
            simp only at en
            have hz : za ∈ names (.leaf [] n) := by rw [← en]; exact ha1
            rw [names] at hz
            rw [List.mem_singleton.mp hz, e]
            exact List.Lex.nil
          · have h1 := oc.1
            simp only [e, List.length_cons] at h1
            have eu : u = [] := List.eq_nil_of_length_eq_zero (by omega)
            rw [e, eu] at l ⊢
            have xd : x < d := by
              cases l with
              | rel h => exact h
              | cons h => exact absurd h (List.not_lt_nil _)
            exact lt_head xd
    exact key bs hp.1 fun p hm => ⟨hp.2.1 p hm, ih p hm (hp.2.1 p hm).2⟩
theorem names_of {t : Tr} {R : List Rw} (h : Wf t) (hs : Sr R) (e : ∀ y, get t y = lk R y) : names t = R := by
  refine sr_ext (sr_names t h) hs fun r => ?_
  obtain ⟨y, v⟩ := r
  rw [mem_names t h, e]
  exact ⟨lk_mem, mem_lk hs⟩
def namesO : Option Tr → List Rw
  | none => []
  | some t => names t
def knotsO : Option Tr → List Rw
  | none => []
  | some t => knots t
theorem namesO_of {t : Option Tr} {R : List Rw} (h : WfO t) (hs : Sr R) (e : ∀ y, getO t y = lk R y) : namesO t = R := by
  cases t with
  | none =>
    cases R with
    | nil => rfl
    | cons r R =>
      have := e r.1
      rw [mem_lk (v := r.2) hs List.mem_cons_self] at this
      cases this
  | some t => exact names_of h hs e
theorem lk_names {t : Option Tr} (h : WfO t) (y : Tx) : lk (namesO t) y = getO t y := by
  cases t with
  | none => rfl
  | some t =>
    show lk (names t) y = get t y
    cases e : get t y with
    | none =>
      rw [lk_none]
      rintro ⟨x, v⟩ hr q
      have := (mem_names t h x v).mp hr
      simp only at q
      rw [q, e] at this
      cases this
    | some v => exact mem_lk (sr_names t h) ((mem_names t h y v).mpr e)
theorem sr_namesO {t : Option Tr} (h : WfO t) : Sr (namesO t) := by
  cases t with
  | none => exact .nil
  | some t => exact sr_names t h

/-! ### how large -/
/-- well formed, names of at most L signs, at most M of them -/
structure Ok (L M : Nat) (t : Tr) : Prop where
  wf : Wf t
  ln : ∀ y, get t y ≠ none → y.length ≤ L
  nm : (names t).length ≤ M
def OkO (L M : Nat) : Option Tr → Prop
  | none => True
  | some t => Ok L M t
theorem OkO.wf {L M : Nat} : ∀ {t : Option Tr}, OkO L M t → WfO t
  | none, _ => trivial
  | some t, h => Ok.wf (t := t) h
theorem len_namesB {s : Tx} : ∀ {bs : List (Tx × Tr)} {p : Tx × Tr}, p ∈ bs → (names p.2).length ≤ (namesB s bs).length
  | (c, t) :: r, p, h => by
    unfold namesB
    rw [List.length_append, List.length_map]
    rcases List.mem_cons.mp h with rfl | h
    · exact Nat.le_add_right _ _
    · have := len_namesB (s := s) h
      omega
theorem names_pos {t : Tr} (h : Wf t) : 0 < (names t).length := by
  obtain ⟨y, hy⟩ := wf_some t h
  cases e : get t y with
  | none => exact absurd e hy
  | some v => exact List.length_pos_of_mem ((mem_names t h y v).mpr e)
theorem len_branches {s : Tx} : ∀ {bs : List (Tx × Tr)}, (∀ p ∈ bs, Wf p.2) → bs.length ≤ (namesB s bs).length
  | [], _ => by simp
  | (c, t) :: r, h => by
    unfold namesB
    rw [List.length_append, List.length_map, List.length_cons]
    have h1 := names_pos (h (c, t) List.mem_cons_self)
    have h2 := len_branches (s := s) (bs := r) fun p hp => h p (List.mem_cons_of_mem _ hp)
    simp only at h1
    omega
theorem Ok.text {L M : Nat} {t : Tr} (h : Ok L M t) : (text t).length ≤ L := by
  obtain ⟨y, hy⟩ := wf_some t h.wf
  exact Nat.le_trans (get_text_pre hy).length_le (h.ln y hy)
theorem Ok.len {L M : Nat} {s : Tx} {bs : List (Tx × Tr)} (h : Ok L M (.fork s bs)) : bs.length ≤ M := by
  have hp := pf_of h.wf
  have := h.nm
  rw [names.eq_2] at this
  exact Nat.le_trans (len_branches fun p hm => (hp.2.1 p hm).2) this
theorem Ok.br {L M : Nat} {s : Tx} {bs : List (Tx × Tr)} {p : Tx × Tr} (h : Ok L M (.fork s bs)) (hm : p ∈ bs) : s.length + p.1.length ≤ L ∧ Ok (L - s.length - p.1.length) M p.2 := by
  have hp := pf_of h.wf
  have key : ∀ y, get p.2 y ≠ none → s.length + p.1.length + y.length ≤ L := fun y hy => by
    have := h.ln (s ++ p.1 ++ y) (by rw [get_in hp.1 hm (hp.2.1 p hm).1 y hy]; exact hy)
    simpa [Nat.add_assoc] using this
  obtain ⟨y, hy⟩ := wf_some p.2 (hp.2.1 p hm).2
  refine ⟨by have := key y hy; omega, (hp.2.1 p hm).2, fun y hy => by have := key y hy; omega, ?_⟩
  have := h.nm
  rw [names.eq_2] at this
  exact Nat.le_trans (len_namesB hm) this
theorem Ok.mono {L M L' M' : Nat} {t : Tr} (h : Ok L M t) (h1 : L ≤ L') (h2 : M ≤ M') : Ok L' M' t := ⟨h.wf, fun y hy => Nat.le_trans (h.ln y hy) h1, Nat.le_trans h.nm h2⟩
theorem Ok.sub {L M : Nat} {s : Tx} {bs : List (Tx × Tr)} {p : Tx × Tr} (h : Ok L M (.fork s bs)) (hm : p ∈ bs) : Ok L M p.2 := (h.br hm).2.mono (by omega) (Nat.le_refl _)
/-- the depth by the names' length -/
theorem depth_le : ∀ (L : Nat) {M : Nat} (t : Tr), Ok L M t → depth t ≤ L + 1 := by
  intro L
  induction L using Nat.strongRecOn with
  | ind L ih =>
    intro M t h
    cases t with
    | leaf r n => rw [depth]; omega
    | fork s bs =>
      have hp := pf_of h.wf
      obtain ⟨h2, _, _⟩ := wf_fork.mp h.wf
      -- one branch at least has a sign: L is not nought
      have hL : 1 ≤ L := by
        obtain ⟨p, q, r, rfl⟩ := two_of h2
        have mq : q ∈ p :: q :: r := List.mem_cons_of_mem _ List.mem_cons_self
        have lt : p.1 < q.1 := (List.pairwise_cons.mp hp.1).1 q List.mem_cons_self
        have := (h.br mq).1
        cases e : q.1 with
        | nil =>
          rw [e] at lt
          exact absurd lt (List.not_lt_nil _)
        | cons x u =>
          rw [e] at this
          simp only [List.length_cons] at this
          omega
      rw [depth.eq_2]
      have key : ∀ as : List (Tx × Tr), (∀ p ∈ as, p ∈ bs) → depthB as ≤ L := by
        intro as
        induction as with
        | nil => intro _; rw [depthB]; omega
        | cons p r ih2 =>
          intro hh
          obtain ⟨c, t⟩ := p
          rw [depthB]
          have h1 := ih2 fun q hq => hh q (List.mem_cons_of_mem _ hq)
          have hm := hh (c, t) List.mem_cons_self
          have h3 : depth t ≤ L := by
            have hb := h.br hm
            simp only at hb
            cases c with
            | nil =>
              obtain ⟨n, en⟩ := (hp.2.1 _ hm).1.2 rfl
              simp only at en
              rw [en, depth]
              exact hL
            | cons x u =>
              simp only [List.length_cons] at hb
              have := ih (L - s.length - (u.length + 1)) (by omega) t hb.2
              omega
          exact Nat.max_le.mpr ⟨h3, h1⟩
      have := key bs fun _ h => h
      omega
end TM
namespace TM
theorem sr_sub_len : ∀ {A B : List Rw}, Sr A → Sr B → (∀ r ∈ A, r ∈ B) → A.length ≤ B.length
  | [], _, _, _, _ => by simp
  | a :: A, [], _, _, h => by
    have := h a List.mem_cons_self
    simp at this
  | a :: A, b :: B, h1, h2, h => by
    have h1' := List.pairwise_cons.mp h1
    have h2' := List.pairwise_cons.mp h2
    rcases List.mem_cons.mp (h a List.mem_cons_self) with e | m
    · subst e
      have := sr_sub_len h1'.2 h2'.2 fun r hr => by
        rcases List.mem_cons.mp (h r (List.mem_cons_of_mem _ hr)) with e | m
        · have l := h1'.1 r hr
          rw [e] at l
          exact absurd l (tx_irr _)
        · exact m
      simp only [List.length_cons]
      omega
    · have := sr_sub_len h1 h2'.2 fun r hr => by
        rcases List.mem_cons.mp (h r hr) with e | m'
        · rcases List.mem_cons.mp hr with e2 | hr2
          · rw [e2]; exact m
          · have l := h1'.1 r hr2
            rw [e] at l
            exact absurd (tx_trans (h2'.1 a m) l) (tx_irr _)
        · exact m'
      simp only [List.length_cons] at this ⊢
      omega
theorem ok_sub {L M : Nat} {t u : Tr} (h : Ok L M t) (hu : Wf u) (e : ∀ y v, get u y = some v → get t y = some v) : Ok L M u := by
  refine ⟨hu, fun y hy => h.ln y ?_, Nat.le_trans (sr_sub_len (sr_names u hu) (sr_names t h.wf) fun r hr => ?_) h.nm⟩
  · cases q : get u y with
    | none => exact absurd q hy
    | some v => rw [e y v q]; exact fun z => nomatch z
  · exact (mem_names t h.wf r.1 r.2).mpr (e _ _ ((mem_names u hu r.1 r.2).mp hr))
theorem ok_rows {L M : Nat} {t : Tr} {R : List Rw} (h : Wf t) (hs : Sr R) (e : ∀ y, get t y = lk R y) (hl : ∀ r ∈ R, r.1.length ≤ L) (hm : R.length ≤ M) : Ok L M t := by
  refine ⟨h, fun y hy => ?_, by rw [names_of h hs e]; exact hm⟩
  rw [e] at hy
  cases q : lk R y with
  | none => exact absurd q hy
  | some v => exact hl _ (lk_mem q)
theorem okO_rows {L M : Nat} {t : Option Tr} {R : List Rw} (h : WfO t) (hs : Sr R) (e : ∀ y, getO t y = lk R y) (hl : ∀ r ∈ R, r.1.length ≤ L) (hm : R.length ≤ M) : OkO L M t := by
  cases t with
  | none => trivial
  | some t => exact ok_rows h hs e hl hm
/-- y and x with the same beginning and sign -/
theorem eq_by {s x y : Tx} (h1 : s <+: x) (h2 : s <+: y) (h3 : (y.drop s.length).take 1 = (x.drop s.length).take 1) : y = x ↔ y.drop (s.length + 1) = x.drop (s.length + 1) := by
  refine ⟨fun e => by rw [e], fun e => ?_⟩
  rw [pre_split h1, pre_split h2, ← take_drop1 (y.drop s.length), ← take_drop1 (x.drop s.length), h3, List.drop_drop, List.drop_drop, e]
end TM
/-! Mth4: the tree of sorted rows, branch by branch. -/
namespace TM
theorem lcp_len : ∀ {a b : Tx} {i : Nat}, a.take i = b.take i → i ≤ a.length → i ≤ b.length → (i = a.length ∨ i = b.length ∨ a[i]? ≠ b[i]?) → (lcp a b).length = i
  | [], b, i, _, h1, _, _ => by simp at h1; subst h1; simp [lcp]
  | x :: a, [], i, _, _, h2, _ => by simp at h2; subst h2; simp [lcp]
  | x :: a, y :: b, 0, _, _, _, h => by
    rcases h with h | h | h
    · simp at h
    · simp at h
    · have : ¬ x = y := by simpa using h
      simp [lcp, this]
  | x :: a, y :: b, i + 1, h, h1, h2, h3 => by
    simp only [List.take_succ_cons, List.cons.injEq] at h
    obtain ⟨rfl, h⟩ := h
    unfold lcp
    rw [if_pos rfl, List.length_cons]
    rw [lcp_len h (by simpa using h1) (by simpa using h2) (by simpa using h3)]
theorem take_more {a b : Tx} {i : Nat} (h : a.take i = b.take i) (e : a[i]? = b[i]?) : a.take (i + 1) = b.take (i + 1) := by
  rw [List.take_succ, List.take_succ, h, e]
def sg (s : Tx) (r : Rw) : Tx := (r.1.drop s.length).take 1
def subR (s c : Tx) (R : List Rw) : List Rw := (R.filter fun r => decide (sg s r = c)).map fun r => (r.1.drop (s.length + 1), r.2)
/-- between the first and the last all begin with what these share -/
theorem pre_between {p x y z : Tx} (h1 : p <+: x) (h2 : p <+: z) (hxy : x ≤ y) (hyz : y ≤ z) : p <+: y := by
  induction p generalizing x y z with
  | nil => exact List.nil_prefix
  | cons c p ih =>
    obtain ⟨u, rfl⟩ := h1
    obtain ⟨v, rfl⟩ := h2
    cases y with
    | nil =>
      exfalso
      apply hxy
      exact List.Lex.nil
    | cons d y =>
      have e : c = d := by
        rcases Nat.lt_trichotomy c d with l | e | l
        · exact absurd (show (c :: p ++ v : Tx) < d :: y from List.Lex.rel l) hyz
        · exact e
        · exact absurd (show (d :: y : Tx) < c :: p ++ u from List.Lex.rel l) hxy
      subst e
      have h3 : p ++ u ≤ y := fun l => hxy (List.Lex.cons l)
      have h4 : y ≤ p ++ v := fun l => hyz (List.Lex.cons l)
      exact (List.prefix_cons_inj c).mpr (ih (List.prefix_append _ _) (List.prefix_append _ _) h3 h4)
theorem le_of_tri {a b : Tx} (h : a < b ∨ a = b) : a ≤ b := fun l => by
  rcases h with h | h
  · exact tx_asymm h l
  · rw [h] at l; exact tx_irr _ l
/-- with a shared beginning the signs do not fall -/
theorem sg_mono {s : Tx} {a b : Rw} (h1 : s <+: a.1) (h2 : s <+: b.1) (h : a.1 < b.1) : sg s a < sg s b ∨ sg s a = sg s b := by
  unfold sg
  obtain ⟨u, hu⟩ := h1
  obtain ⟨v, hv⟩ := h2
  rw [← hu, ← hv, List.drop_left, List.drop_left]
  rw [← hu, ← hv] at h
  have l : u < v := by
    clear hu hv
    induction s with
    | nil => exact h
    | cons x s ih =>
      cases h with
      | rel h => exact absurd h (Nat.lt_irrefl _)
      | cons h => exact ih h
  cases u with
  | nil =>
    cases v with
    | nil => exact .inr rfl
    | cons y v => exact .inl List.Lex.nil
  | cons x u =>
    cases l with
    | rel h9 => exact .inl (List.Lex.rel h9)
    | cons h9 => exact .inr rfl
structure GInv (s : Tx) (R dn rm : List Rw) (bs : List (Tx × Tr)) : Prop where
  rows : R = dn ++ rm
  up : Up bs
  ok : ∀ p ∈ bs, SignOk p ∧ Wf p.2
  gt : ∀ p ∈ bs, ∀ z, (p.1 = [] → z = []) → get p.2 z = lk R (s ++ p.1 ++ z)
  there : ∀ r ∈ dn, ∃ p ∈ bs, p.1 = sg s r
  back : ∀ p ∈ bs, ∃ r ∈ dn, sg s r = p.1
  lt : ∀ r ∈ dn, ∀ r' ∈ rm, sg s r < sg s r'
theorem name_split {s : Tx} {r : Rw} (h : s <+: r.1) : r.1 = s ++ sg s r ++ r.1.drop (s.length + 1) := by
  unfold sg
  rw [← List.drop_drop, List.append_assoc, take_drop1]
  exact pre_split h
theorem lk_subR {s c : Tx} : ∀ {R : List Rw}, (∀ r ∈ R, s <+: r.1) → (∃ r, s <+: r.1 ∧ sg s r = c ∧ True) → ∀ z, (c = [] → z = []) → lk (subR s c R) z = lk R (s ++ c ++ z)
  | [], _, _, _, _ => rfl
  | (x, v) :: R, hp, hc, z, hz => by
    have ih := lk_subR (R := R) (fun r hr => hp r (List.mem_cons_of_mem _ hr)) hc z hz
    have hx := hp (x, v) List.mem_cons_self
    have hn := name_split (s := s) hx
    simp only at hn
    by_cases e : sg s (x, v) = c
    · have f : subR s c ((x, v) :: R) = (x.drop (s.length + 1), v) :: subR s c R := by
        unfold subR
        rw [List.filter_cons, if_pos (by simpa using e)]
        rfl
      rw [f]
      unfold lk
      rw [e] at hn
      by_cases q : x.drop (s.length + 1) = z
      · rw [if_pos q, if_pos (by rw [hn, q])]
      · rw [if_neg q, if_neg (fun h => q ?_), ih]
        rw [hn] at h
        exact List.append_cancel_left h
    · have f : subR s c ((x, v) :: R) = subR s c R := by
        unfold subR
        rw [List.filter_cons, if_neg (by simpa using e)]
      rw [f, ih, lk.eq_2, if_neg (fun h => e ?_)]
      -- the name would have that sign
      unfold sg
      simp only
      rw [h, List.append_assoc, List.drop_left]
      obtain ⟨r, h1, h2, _⟩ := hc
      rcases take1_cases c with ⟨rfl, _⟩ | ⟨d, w, rfl, _, _⟩
      · rw [hz rfl]
        rfl
      · have hl : (d :: w).length ≤ 1 := by
          rw [← h2]
          unfold sg
          rw [List.length_take]
          omega
        simp only [List.length_cons] at hl
        rw [List.eq_nil_of_length_eq_zero (show w.length = 0 by omega)]
        rfl
theorem sr_subR {s c : Tx} {R : List Rw} (h : Sr R) (hp : ∀ r ∈ R, s <+: r.1) : Sr (subR s c R) := by
  unfold subR Sr
  rw [List.pairwise_map]
  refine (h.filter _).imp_of_mem fun {a b} ha hb hab => ?_
  obtain ⟨ha1, ha2⟩ := List.mem_filter.mp ha
  obtain ⟨hb1, hb2⟩ := List.mem_filter.mp hb
  have ea := name_split (hp a ha1)
  have eb := name_split (hp b hb1)
  rw [of_decide_eq_true ha2] at ea
  rw [of_decide_eq_true hb2] at eb
  rw [ea, eb] at hab
  -- a common beginning goes
  have key : ∀ (p : Tx) {u v : Tx}, p ++ u < p ++ v → u < v := by
    intro p
    induction p with
    | nil => intro u v h; exact h
    | cons x p ih =>
      intro u v h
      cases h with
      | rel h => exact absurd h (Nat.lt_irrefl _)
      | cons h => exact ih h
  exact key _ hab
/-- the next branch -/
theorem GInv.step {s : Tx} {R dn rm : List Rw} {bs : List (Tx × Tr)} {r : Rw} (G : GInv s R dn (r :: rm) bs) (hs : Sr R) (hp : ∀ r ∈ R, s <+: r.1) {t : Tr} (ht : Wf t) (hg : ∀ z, get t z = lk (subR s (sg s r) R) z) :
    ∃ dn' rm', dn'.length = dn.length + (subR s (sg s r) R).length ∧ GInv s R dn' rm' (bs ++ [(sg s r, t)]) := by
  have hrR : r ∈ R := by rw [G.rows]; simp
  have hl1 : (sg s r).length ≤ 1 := by unfold sg; rw [List.length_take]; omega
  -- the rows of this sign are a block
  have blk : ∀ rm : List Rw, Sr (r :: rm) → (∀ q ∈ r :: rm, s <+: q.1) → ∃ a b, r :: rm = a ++ b ∧ (∀ q ∈ a, sg s q = sg s r) ∧ ∀ q ∈ b, sg s r < sg s q := by
    intro rm
    induction rm with
    | nil => intro _ _; exact ⟨[r], [], rfl, by simp, by simp⟩
    | cons q rm ih =>
      intro h1 h2
      have h1' := List.pairwise_cons.mp h1
      have h1'' := List.pairwise_cons.mp h1'.2
      rcases sg_mono (h2 r List.mem_cons_self) (h2 q (by simp)) (h1'.1 q (by simp)) with l | e
      · refine ⟨[r], q :: rm, rfl, by simp, fun u hu => ?_⟩
        rcases List.mem_cons.mp hu with rfl | hu
        · exact l
        · rcases sg_mono (h2 q (by simp)) (h2 u (by simp [hu])) (h1''.1 u hu) with l2 | e2
          · exact tx_trans l l2
          · rw [← e2]; exact l
      · have hr' : Sr (r :: rm) := List.pairwise_cons.mpr ⟨fun u hu => h1'.1 u (List.mem_cons_of_mem _ hu), h1''.2⟩
        obtain ⟨a, b, e1, e2, e3⟩ := ih hr' (fun u hu => h2 u (by rcases List.mem_cons.mp hu with rfl | hu <;> simp [*]))
        cases a with
        | nil =>
          -- then r itself is behind: it is not
          simp only [List.nil_append] at e1
          have := e3 r (by rw [← e1]; simp)
          exact absurd this (tx_irr _)
        | cons r0 a =>
          simp only [List.cons_append, List.cons.injEq] at e1
          obtain ⟨rfl, e1⟩ := e1
          refine ⟨r :: q :: a, b, by rw [e1]; rfl, fun u hu => ?_, e3⟩
          rcases List.mem_cons.mp hu with rfl | hu
          · rfl
          · rcases List.mem_cons.mp hu with rfl | hu
            · exact e.symm
            · exact e2 u (List.mem_cons_of_mem _ hu)
  have hsr : Sr (r :: rm) := by
    have := hs
    rw [G.rows] at this
    exact (List.pairwise_append.mp this).2.1
  obtain ⟨a, b, e1, e2, e3⟩ := blk rm hsr fun q hq => hp q (by rw [G.rows]; exact List.mem_append_right _ hq)
  have hfil : R.filter (fun q => decide (sg s q = sg s r)) = a := by
    rw [G.rows, e1, List.filter_append, List.filter_append]
    have f1 : dn.filter (fun q => decide (sg s q = sg s r)) = [] := by
      rw [List.filter_eq_nil_iff]
      intro q hq
      have := G.lt q hq r List.mem_cons_self
      simpa using tx_ne this
    have f2 : a.filter (fun q => decide (sg s q = sg s r)) = a := by
      rw [List.filter_eq_self]
      intro q hq
      simpa using e2 q hq
    have f3 : b.filter (fun q => decide (sg s q = sg s r)) = [] := by
      rw [List.filter_eq_nil_iff]
      intro q hq
      simpa using (tx_ne (e3 q hq)).symm
    rw [f1, f2, f3]
    simp
  have hsub : (subR s (sg s r) R).length = a.length := by
    unfold subR
    rw [List.length_map, hfil]
  have empt : sg s r = [] → t = .leaf [] r.2 := fun e => by
    have hd : ∀ q ∈ R, sg s q = sg s r → q.1 = s := fun q hq h => by
      have := name_split (hp q hq)
      rw [h, e] at this
      have h2 : q.1.drop s.length = [] := by
        rcases take1_cases (q.1.drop s.length) with ⟨z, _⟩ | ⟨_, _, _, z, _⟩
        · exact z
        · unfold sg at h
          rw [h] at z
          unfold sg at e
          rw [e] at z
          cases z
      rw [pre_split (hp q hq), h2, List.append_nil]
    refine wf_ext t ht _ (wf_leaf _ _) fun z => ?_
    rw [hg, get_leaf]
    -- the rows of this sign: r alone, behind it nothing
    have rn := hd r hrR rfl
    have er : r.1.drop (s.length + 1) = [] := List.drop_eq_nil_of_le (by rw [rn]; omega)
    have srS := sr_subR (c := sg s r) hs hp
    have mem : (([] : Tx), r.2) ∈ subR s (sg s r) R := by
      unfold subR
      refine List.mem_map.mpr ⟨r, List.mem_filter.mpr ⟨hrR, by simp⟩, by rw [er]⟩
    by_cases hz : z = []
    · rw [if_pos hz, hz]
      exact mem_lk srS mem
    · rw [if_neg hz, lk_none]
      intro q hq
      unfold subR at hq
      obtain ⟨q', h1, rfl⟩ := List.mem_map.mp hq
      obtain ⟨h2, h3⟩ := List.mem_filter.mp h1
      have := hd q' h2 (of_decide_eq_true h3)
      simp only
      rw [this, List.drop_eq_nil_of_le (by omega)]
      exact fun z2 => hz z2.symm
  refine ⟨dn ++ a, b, by rw [List.length_append, hsub], ?_⟩
  have nlt : ∀ p ∈ bs, p.1 < sg s r := fun p hp' => by
    obtain ⟨q, hq, e⟩ := G.back p hp'
    rw [← e]
    exact G.lt q hq r List.mem_cons_self
  refine ⟨by rw [List.append_assoc, ← e1]; exact G.rows, ?_, ?_, ?_, ?_, ?_, ?_⟩
  · refine List.pairwise_append.mpr ⟨G.up, List.pairwise_singleton _ _, fun p hp' q hq => ?_⟩
    rw [List.mem_singleton.mp hq]
    exact nlt p hp'
  · intro p hp'
    rcases List.mem_append.mp hp' with h | h
    · exact G.ok p h
    · rw [List.mem_singleton.mp h]
      exact ⟨⟨hl1, fun e => ⟨_, empt e⟩⟩, ht⟩
  · intro p hp' z hz
    rcases List.mem_append.mp hp' with h | h
    · exact G.gt p h z hz
    · rw [List.mem_singleton.mp h] at hz ⊢
      show get t z = lk R (s ++ sg s r ++ z)
      rw [hg, lk_subR hp ⟨r, hp r hrR, rfl, trivial⟩ z hz]
  · intro q hq
    rcases List.mem_append.mp hq with h | h
    · obtain ⟨p, h1, h2⟩ := G.there q h
      exact ⟨p, List.mem_append_left _ h1, h2⟩
    · exact ⟨_, List.mem_append_right _ (List.mem_singleton.mpr rfl), (e2 q h).symm⟩
  · intro p hp'
    rcases List.mem_append.mp hp' with h | h
    · obtain ⟨q, h1, h2⟩ := G.back p h
      exact ⟨q, List.mem_append_left _ h1, h2⟩
    · rw [List.mem_singleton.mp h]
      refine ⟨r, List.mem_append_right _ ?_, rfl⟩
      have : r ∈ a ++ b := by rw [← e1]; exact List.mem_cons_self
      rcases List.mem_append.mp this with h | h
      · exact h
      · exact absurd (e3 r h) (tx_irr _)
  · intro q hq q' hq'
    rcases List.mem_append.mp hq with h | h
    · refine G.lt q h q' ?_
      rw [e1]
      exact List.mem_append_right _ hq'
    · rw [e2 q h]
      exact e3 q' hq'
/-- all branches are there -/
theorem GInv.done {s : Tx} {R dn : List Rw} {bs : List (Tx × Tr)} (G : GInv s R dn [] bs) (hp : ∀ r ∈ R, s <+: r.1) (h2 : ∃ a ∈ R, ∃ b ∈ R, sg s a ≠ sg s b) : Wf (.fork s bs) ∧ ∀ y, get (.fork s bs) y = lk R y := by
  have eR : R = dn := by rw [G.rows, List.append_nil]
  have hl : 2 ≤ bs.length := by
    obtain ⟨a, ha, b, hb, ne⟩ := h2
    rw [eR] at ha hb
    obtain ⟨p, p1, p2⟩ := G.there a ha
    obtain ⟨q, q1, q2⟩ := G.there b hb
    match bs, p1, q1 with
    | [], p1, _ => cases p1
    | [x], p1, q1 =>
      rw [List.mem_singleton.mp p1] at p2
      rw [List.mem_singleton.mp q1] at q2
      exact absurd (p2.symm.trans q2) ne
    | _ :: _ :: _, _, _ => simp
  refine ⟨wf_fork.mpr ⟨hl, G.up, G.ok⟩, fun y => ?_⟩
  rw [get_fork]
  by_cases h1 : s <+: y
  · rw [if_pos h1]
    have ey : y = s ++ (y.drop s.length).take 1 ++ y.drop (s.length + 1) := name_split (r := (y, 0)) h1
    cases q : brOf bs ((y.drop s.length).take 1) with
    | some t =>
      show get t _ = _
      rw [G.gt _ (brOf_mem q) (y.drop (s.length + 1)) fun e => ?_]
      · rw [← ey]
      · rcases take1_cases (y.drop s.length) with ⟨z, _⟩ | ⟨_, _, _, z, _⟩
        · rw [← List.drop_drop, z]; rfl
        · simp only at e
          rw [z] at e; cases e
    | none =>
      show none = _
      symm
      rw [lk_none]
      intro r hr e
      obtain ⟨p, p1, p2⟩ := G.there r (eR ▸ hr)
      refine brOf_none q p p1 ?_
      rw [p2, ← e]
      rfl
  · rw [if_neg h1]
    symm
    rw [lk_none]
    intro r hr e
    exact h1 (e ▸ hp r hr)
theorem ginv_start {s : Tx} {R : List Rw} : GInv s R [] R [] := ⟨rfl, .nil, (fun _ h => nomatch h), (fun _ h => nomatch h), (fun _ h => nomatch h), (fun _ h => nomatch h), (fun _ h => nomatch h)⟩
/-- all rows begin with what the first and the last share -/
theorem sr_pre {R : List Rw} {a b : Rw} (hs : Sr R) (ha : R.head? = some a) (hb : R.getLast? = some b) : ∀ r ∈ R, lcp a.1 b.1 <+: r.1 := by
  intro r hr
  have h1 : a.1 < r.1 ∨ a.1 = r.1 := by
    cases R with
    | nil => cases hr
    | cons x R =>
      cases ha
      rcases List.mem_cons.mp hr with rfl | hr
      · exact .inr rfl
      · exact .inl ((List.pairwise_cons.mp hs).1 r hr)
  have h2 : r.1 < b.1 ∨ r.1 = b.1 := by
    obtain ⟨R', e⟩ : ∃ R', R = R' ++ [b] := by
      have := List.getLast?_eq_some_iff.mp hb
      exact this
    rw [e] at hr hs
    rcases List.mem_append.mp hr with hr | hr
    · exact .inl ((List.pairwise_append.mp hs).2.2 r hr b (by simp))
    · rw [List.mem_singleton.mp hr]
      exact .inr rfl
  exact pre_between (lcp_pre1 _ _) (lcp_pre2 _ _) (le_of_tri h1) (le_of_tri h2)
/-- the first and the last of two rows or more part behind what they share -/
theorem sr_part {R : List Rw} {a b : Rw} (hs : Sr R) (ha : R.head? = some a) (hb : R.getLast? = some b) (h2 : 2 ≤ R.length) : sg (lcp a.1 b.1) a ≠ sg (lcp a.1 b.1) b ∧ a ∈ R ∧ b ∈ R := by
  have ma := List.mem_of_head? ha
  have mb := List.mem_of_getLast? hb
  refine ⟨fun e => ?_, ma, mb⟩
  have e2 := lcp_off a.1 b.1 e
  match R, h2, hs, ha, hb with
  | x :: y :: R, _, hs, ha, hb =>
    cases ha
    have hm : b ∈ y :: R := by
      rw [List.getLast?_cons_cons] at hb
      exact List.mem_of_getLast? hb
    have := (List.pairwise_cons.mp hs).1 b hm
    rw [e2] at this
    exact tx_irr _ this
end TM
/-! Mth5: two trees joined. -/
namespace TM
theorem bb_leaf (r : Tx) (n : Int) (k : Nat) : bb (.leaf r n) k = [behindT (.leaf r n) k] := rfl
theorem bb_fork (s : Tx) (bs : List (Tx × Tr)) (k : Nat) : bb (.fork s bs) k = if s.length = k then bs else [behindT (.fork s bs) k] := rfl
theorem namesB_len (s s' : Tx) : ∀ bs : List (Tx × Tr), (namesB s bs).length = (namesB s' bs).length
  | [] => by rw [namesB, namesB]
  | (c, t) :: r => by
    rw [namesB, namesB, List.length_append, List.length_append, namesB_len s s' r, List.length_map, List.length_map]
theorem names_retext (t : Tr) (x : Tx) : (names (retext t x)).length = (names t).length := by
  cases t with
  | leaf r n => simp [retext, names]
  | fork s bs => simp only [retext, names]; exact namesB_len _ _ _
theorem bb_len {L M : Nat} {t : Tr} {k : Nat} (h : Ok L M t) : (bb t k).length ≤ M + 1 := by
  cases t with
  | leaf r n => simp [bb_leaf]
  | fork s bs =>
    rw [bb_fork]
    split
    · have := h.len; omega
    · simp
/-- what stands behind k signs is of the bounds, and shorter -/
theorem bb_sub {L M : Nat} {t : Tr} {k : Nat} (h : Ok L M t) (hk : k ≤ (text t).length) {p : Tx × Tr} (hp : p ∈ bb t k) : Ok L M p.2 ∧ SignOk p ∧ ∀ z, get p.2 z ≠ none → get t ((text t).take k ++ p.1 ++ z) = get p.2 z := by
  obtain ⟨pf, hg⟩ := bb_ok h.wf hk
  have hgp : ∀ z, get p.2 z ≠ none → get t ((text t).take k ++ p.1 ++ z) = get p.2 z := fun z hz => by
    rw [← hg]
    exact get_in pf.1 hp (pf.2.1 p hp).1 z hz
  refine ⟨⟨(pf.2.1 p hp).2, fun z hz => ?_, ?_⟩, (pf.2.1 p hp).1, hgp⟩
  · have := h.ln _ (by rw [hgp z hz]; exact hz)
    simp only [List.length_append] at this
    omega
  · cases t with
    | leaf r n =>
      rw [bb_leaf, List.mem_singleton] at hp
      subst hp
      unfold behindT
      rw [names_retext]
      exact h.nm
    | fork s bs =>
      rw [bb_fork] at hp
      split at hp
      · have := len_namesB (s := s) hp
        have h2 := h.nm
        rw [names] at h2
        omega
      · rw [List.mem_singleton] at hp
        subst hp
        unfold behindT
        rw [names_retext]
        exact h.nm
theorem len_withB_le {bs : List (Tx × Tr)} {c : Tx} {o : Option Tr} : (withB bs c o).length ≤ bs.length + 1 := by
  unfold withB
  have key : ∀ as : List (Tx × Tr), (as.filter (fun p => decide (p.1 < c))).length + (as.filter (fun p => decide (c < p.1))).length ≤ as.length := by
    intro as
    induction as with
    | nil => simp
    | cons p r ih =>
      by_cases h1 : p.1 < c
      · have h2 : ¬ c < p.1 := tx_asymm h1
        simp [h1, h2]
        omega
      · by_cases h2 : c < p.1
        · simp [h1, h2]; omega
        · simp [h1, h2]; omega
  have := key bs
  cases o <;> simp <;> omega
theorem bind_get (bs : List (Tx × Tr)) (c z : Tx) : ((brOf bs c).bind fun t => get t z) = getO (brOf bs c) z := by cases brOf bs c <;> rfl
/-- between two branches: dn are joined to A, that is M -/
structure JInv (A dn rm B M : List (Tx × Tr)) : Prop where
  rows : B = dn ++ rm
  up : Up M
  okm : ∀ p ∈ M, SignOk p ∧ Wf p.2
  ne : M ≠ []
  same : ∀ c, brOf dn c = none → brOf M c = brOf A c
  some_ : ∀ c, brOf dn c ≠ none → brOf M c ≠ none
  val : ∀ c z, getO (brOf M c) z = (getO (brOf A c) z).or (getO (brOf dn c) z)
  free : ∀ c z, getO (brOf dn c) z ≠ none → getO (brOf A c) z = none
  keep : ∀ c, brOf A c ≠ none → brOf M c ≠ none
theorem jinv_start {A B : List (Tx × Tr)} (h : Pf A) : JInv A [] B B A := ⟨rfl, h.1, h.2.1, h.2.2, fun _ _ => rfl, fun c z => absurd rfl z, fun c z => by simp [brOf, getO], fun c z h => absurd rfl h, fun c h => h⟩
theorem brOf_app (as : List (Tx × Tr)) (c : Tx) (u : Tr) (x : Tx) (h : brOf as c = none) : brOf (as ++ [(c, u)]) x = if x = c then some u else brOf as x := by
  induction as with
  | nil =>
    show brOf [(c, u)] x = _
    rw [brOf, brOf]
    by_cases e : x = c
    · subst e; simp
    · have : ¬ c = x := fun z => e z.symm
      simp [e, this, brOf]
  | cons p r ih =>
    obtain ⟨d, v⟩ := p
    rw [brOf] at h
    by_cases e : d = c
    · subst e; simp at h
    · simp only [e, if_false, decide_false] at h
      have h' : brOf r c = none := by
        simpa [e] using h
      rw [List.cons_append, brOf, brOf, ih h']
      by_cases e2 : d = x
      · subst e2; simp [e]
      · simp [e2]
theorem up_head {dn rm : List (Tx × Tr)} {p : Tx × Tr} (h : Up (dn ++ p :: rm)) : brOf dn p.1 = none := none_brOf fun q hq => by
  have := (List.pairwise_append.mp h).2.2 q hq p List.mem_cons_self
  exact tx_ne this
theorem JInv.step {A dn rm B M : List (Tx × Tr)} {p : Tx × Tr} (J : JInv A dn (p :: rm) B M) (hB : Pf B) {t' : Tr} (ht : Wf t') (hg : ∀ z, get t' z = (getO (brOf M p.1) z).or (get p.2 z)) (hc : p.1 = [] → brOf M p.1 = none) (hno : ∀ z, getO (brOf M p.1) z = none ∨ get p.2 z = none) (hto : p.1 = [] → t' = p.2) :
    JInv A (dn ++ [p]) rm B (withB M p.1 (some t')) := by
  have hd : brOf dn p.1 = none := up_head (p := p) (rm := rm) (by rw [← J.rows]; exact hB.1)
  have hp : p ∈ B := by rw [J.rows]; simp
  have so := (hB.2.1 p hp).1
  have e1 := J.same _ hd
  have hap := fun x => brOf_app dn p.1 p.2 x hd
  refine ⟨by rw [J.rows]; simp, up_withB J.up, ok_withB J.okm (fun u hu => ?_), ?_, fun c h => ?_, fun c h => ?_, fun c z => ?_, fun c z h => ?_, fun c h => ?_⟩
  · cases hu
    refine ⟨⟨so.1, fun e => ?_⟩, ht⟩
    rw [hto e]
    exact so.2 e
  · intro e
    have := len_withB_some (c := p.1) (t := t') J.up
    rw [e] at this
    have h2 := List.length_pos_iff.mpr J.ne
    simp only [List.length_nil] at this
    omega
  · rw [hap] at h
    rw [brOf_withB J.up]
    by_cases e : c = p.1
    · rw [if_pos e] at h; cases h
    · rw [if_neg e] at h ⊢
      exact J.same c h
  · rw [hap] at h
    rw [brOf_withB J.up]
    by_cases e : c = p.1
    · rw [if_pos e]; exact (fun z => by cases z)
    · rw [if_neg e] at h ⊢
      exact J.some_ c h
  · rw [hap, brOf_withB J.up]
    by_cases e : c = p.1
    · rw [if_pos e, if_pos e, e]
      show get t' z = _
      rw [hg, e1]
      rfl
    · rw [if_neg e, if_neg e]
      exact J.val c z
  · rw [hap] at h
    by_cases e : c = p.1
    · rw [if_pos e] at h
      subst e
      rcases hno z with h2 | h2
      · rw [← e1]; exact h2
      · exact absurd h2 h
    · rw [if_neg e] at h
      exact J.free c z h
  · rw [brOf_withB J.up]
    by_cases e : c = p.1
    · rw [if_pos e]; exact (fun z => by cases z)
    · rw [if_neg e]; exact J.keep c h
theorem get_forkO {s : Tx} {bs : List (Tx × Tr)} (y : Tx) : get (.fork s bs) y = if s <+: y then getO (brOf bs ((y.drop s.length).take 1)) (y.drop (s.length + 1)) else none := by
  rw [get_fork]
  split
  · rw [bind_get]
  · rfl
/-- at the end: all are joined -/
theorem jinv_done {a b : Tr} {M : List (Tx × Tr)} (ha : Wf a) (hb : Wf b) (J : JInv (bb a (lcp (text a) (text b)).length) (bb b (lcp (text a) (text b)).length) [] (bb b (lcp (text a) (text b)).length) M) :
    (∀ y, get a y = none ∨ get b y = none) ∧ Wf (.fork (lcp (text a) (text b)) M) ∧ ∀ y, get (.fork (lcp (text a) (text b)) M) y = (get a y).or (get b y) := by
  have ka := (lcp_pre1 (text a) (text b)).length_le
  have kb := (lcp_pre2 (text a) (text b)).length_le
  obtain ⟨pa, ga⟩ := bb_ok ha ka
  obtain ⟨pb, gb⟩ := bb_ok hb kb
  have ea : (text a).take (lcp (text a) (text b)).length = lcp (text a) (text b) := (List.prefix_iff_eq_take.mp (lcp_pre1 _ _)).symm
  have eb : (text b).take (lcp (text a) (text b)).length = lcp (text a) (text b) := (List.prefix_iff_eq_take.mp (lcp_pre2 _ _)).symm
  rw [ea] at ga
  rw [eb] at gb
  have hfree : ∀ y, get a y = none ∨ get b y = none := fun y => by
    rw [← ga, ← gb, get_forkO, get_forkO]
    split
    · cases q : getO (brOf (bb b (lcp (text a) (text b)).length) ((y.drop (lcp (text a) (text b)).length).take 1)) (y.drop ((lcp (text a) (text b)).length + 1)) with
      | none => exact .inr rfl
      | some v => exact .inl (J.free _ _ (by rw [q]; exact (fun z => by cases z)))
    · exact .inl rfl
  refine ⟨hfree, ?_, fun y => ?_⟩
  · refine of_pf ⟨J.up, J.okm, J.ne⟩ ?_
    -- two signs at least
    apply Classical.byContradiction
    intro h
    have h1 : M.length = 1 := by
      have := List.length_pos_iff.mpr J.ne
      omega
    obtain ⟨m, rfl⟩ := List.length_eq_one_iff.mp h1
    have only : ∀ c, brOf [m] c ≠ none → c = m.1 := fun c hc => by
      cases q : brOf [m] c with
      | none => exact absurd q hc
      | some t =>
        have := List.mem_singleton.mp (brOf_mem q)
        rw [← this]
    have oneOf : ∀ {Z : List (Tx × Tr)}, Pf Z → (∀ c, brOf Z c ≠ none → c = m.1) → ∃ u, Z = [(m.1, u)] := fun {Z} pz hz => by
      match Z, pz with
      | [], pz => exact absurd rfl pz.2.2
      | [q], pz =>
        have := hz q.1 (by rw [mem_brOf (t := q.2) pz.1 (by simp)]; exact (fun z => by cases z))
        exact ⟨q.2, by rw [← this]⟩
      | q :: q2 :: Z, pz =>
        have e1 := hz q.1 (by rw [mem_brOf (t := q.2) pz.1 (by simp)]; exact (fun z => by cases z))
        have e2 := hz q2.1 (by rw [mem_brOf (t := q2.2) pz.1 (by simp)]; exact (fun z => by cases z))
        have l := (List.pairwise_cons.mp pz.1).1 q2 List.mem_cons_self
        rw [e1, e2] at l
        exact absurd l (tx_irr _)
    obtain ⟨u, hu⟩ := oneOf pa fun c hc => only c (J.keep c hc)
    obtain ⟨v, hv⟩ := oneOf pb fun c hc => only c (J.some_ c hc)
    have sgn : ∀ {t : Tr} {k : Nat} {u : Tr}, Wf t → bb t k = [(m.1, u)] → m.1 = ((text t).drop k).take 1 ∧ (isLeaf t = true ∨ k ≠ (text t).length) := fun {t k u} hw e => by
      cases t with
      | leaf r n =>
        rw [bb_leaf] at e
        have := List.cons.inj e
        exact ⟨(congrArg Prod.fst this.1).symm, .inl rfl⟩
      | fork s bs =>
        rw [bb_fork] at e
        split at e
        · have := (wf_fork.mp hw).1
          rw [e] at this
          simp at this
        · rename_i hne
          have := List.cons.inj e
          exact ⟨(congrArg Prod.fst this.1).symm, .inr fun z => hne z.symm⟩
    obtain ⟨a1, a2⟩ := sgn ha hu
    obtain ⟨b1, b2⟩ := sgn hb hv
    have et : text a = text b := lcp_off _ _ (a1.symm.trans b1)
    have lk : (lcp (text a) (text b)).length = (text a).length := by
      rw [← et]
      have : lcp (text a) (text a) = text a := by
        have := pre_lcp (List.prefix_refl (text a)) (List.prefix_refl (text a))
        exact (lcp_pre1 _ _).eq_of_length (Nat.le_antisymm (lcp_pre1 _ _).length_le this.length_le)
      rw [this]
    have la : isLeaf a = true := a2.resolve_right fun z => z lk
    have lb : isLeaf b = true := b2.resolve_right fun z => z (by rw [lk, et])
    cases a with
    | fork _ _ => cases la
    | leaf r n =>
      cases b with
      | fork _ _ => cases lb
      | leaf r' n' =>
        have er : r = r' := et
        subst er
        rcases hfree r with z | z
        · rw [get_leaf, if_pos rfl] at z; cases z
        · rw [get_leaf, if_pos rfl] at z; cases z
  · rw [← ga, ← gb, get_forkO, get_forkO, get_forkO]
    split
    · exact J.val _ _
    · rfl
end TM
/-! Mth6: names one by one; a tree cut at a beginning. -/
namespace TM
theorem withB_ne {bs : List (Tx × Tr)} {c : Tx} {o : Option Tr} (hu : Up bs) (h : 2 ≤ bs.length) : withB bs c o ≠ [] := fun e => by
  cases q : brOf bs c with
  | none =>
    cases bs with
    | nil => simp at h
    | cons p r =>
      have hm : p ∈ withB (p :: r) c o := mem_withB.mpr (.inr ⟨List.mem_cons_self, brOf_none q p List.mem_cons_self⟩)
      rw [e] at hm
      cases hm
  | some t =>
    cases o with
    | none =>
      have := len_withB_none hu (c := c) (by rw [q]; exact fun z => nomatch z)
      rw [e] at this
      simp only [List.length_nil] at this
      omega
    | some u =>
      have := len_withB_some (c := c) (t := u) hu
      rw [e] at this
      simp only [List.length_nil] at this
      omega
theorem namesB_app (s : Tx) : ∀ as bs : List (Tx × Tr), namesB s (as ++ bs) = namesB s as ++ namesB s bs
  | [], bs => by rw [List.nil_append, namesB.eq_1, List.nil_append]
  | (c, t) :: r, bs => by rw [List.cons_append, namesB, namesB, namesB_app s r bs, List.append_assoc]
theorem namesB_at {s : Tx} {bs : List (Tx × Tr)} {i : Nat} {p : Tx × Tr} (h : bs[i]? = some p) : namesB s (bs.take (i + 1)) = namesB s (bs.take i) ++ (names p.2).map (fun q => (s ++ p.1 ++ q.1, q.2)) := by
  obtain ⟨hi, e⟩ := List.getElem?_eq_some_iff.mp h
  rw [List.take_succ_eq_append_getElem hi, namesB_app, e]
  obtain ⟨c, t⟩ := p
  rw [namesB, namesB, List.append_nil]
theorem namesB_take_le (s : Tx) (bs : List (Tx × Tr)) (i : Nat) : (namesB s (bs.take i)).length ≤ (namesB s bs).length := by
  have := namesB_app s (bs.take i) (bs.drop i)
  rw [List.take_append_drop] at this
  rw [this, List.length_append]
  omega
theorem get_cut {t : Tr} {x z : Tx} (h : text t = x ++ z) (y : Tx) : get (retext t z) y = get t (x ++ y) := by
  have e : ahead x (retext t z) = t := by
    unfold ahead
    rw [text_retext, ← h]
    cases t <;> rfl
  have := get_ahead x (retext t z) (x ++ y)
  rw [e, if_pos (List.prefix_append _ _), List.drop_left] at this
  exact this.symm
theorem pre_cmp {a b y : Tx} (h1 : a <+: y) (h2 : b <+: y) : a <+: b ∨ b <+: a := List.prefix_or_prefix_of_prefix h1 h2
theorem lcp_of_pre {a b : Tx} (h : a <+: b) : lcp a b = a := by
  have h2 := pre_lcp (List.prefix_refl a) h
  exact (lcp_pre1 a b).eq_of_length (Nat.le_antisymm (lcp_pre1 _ _).length_le h2.length_le)
/-- what begins with x is nowhere below t, if t has parted from x ahead of x's end -/
theorem no_begin {t : Tr} {x : Tx} (h1 : (lcp (text t) x).length ≠ x.length) (h2 : isLeaf t = true ∨ (lcp (text t) x).length < (text t).length) {y : Tx} (hx : x <+: y) : get t y = none := by
  apply Classical.byContradiction
  intro hy
  have ht := get_text_pre hy
  rcases pre_cmp ht hx with h | h
  · rcases h2 with h2 | h2
    · cases t with
      | fork _ _ => cases h2
      | leaf r n =>
        rw [get_leaf] at hy
        have e : y = r := Classical.byContradiction fun z => hy (if_neg z)
        subst e
        have e2 : text (.leaf y n) = y := rfl
        rw [e2] at h h1
        rw [lcp_of_pre h] at h1
        exact h1 (Nat.le_antisymm h.length_le hx.length_le)
    · rw [lcp_of_pre h] at h2
      omega
  · rw [lcp_comm, lcp_of_pre h] at h1
    exact h1 rfl
structure CutOk (o : Option Tr) (x : Tx) (a b : Option Tr) : Prop where
  wa : WfO a
  wb : WfO b
  vb : ∀ y, getO b y = getO o (x ++ y)
  va : ∀ y, getO a y = if x <+: y then none else getO o y
theorem cut_none (x : Tx) : CutOk none x none none := ⟨trivial, trivial, fun _ => rfl, fun y => by show none = _; split <;> rfl⟩
theorem cut_all {t : Tr} {x : Tx} (h : Wf t) (hx : x <+: text t) : CutOk (some t) x none (some (retext t ((text t).drop x.length))) := by
  have e : text t = x ++ (text t).drop x.length := by
    obtain ⟨z, hz⟩ := hx
    rw [← hz, List.drop_left]
  refine ⟨trivial, wf_retext.mpr h, fun y => get_cut e y, fun y => ?_⟩
  show none = _
  split
  · rfl
  · rename_i hn
    apply Classical.byContradiction
    intro hy
    exact hn (hx.trans (get_text_pre fun z => hy z.symm))
theorem cut_stay {t : Tr} {x : Tx} (h : Wf t) (hn : ∀ y, x <+: y → get t y = none) : CutOk (some t) x (some t) none := by
  refine ⟨h, trivial, fun y => (hn _ (List.prefix_append _ _)).symm, fun y => ?_⟩
  show get t y = _
  split
  · rename_i hx; exact hn y hx
  · rfl
/-- in a fork, behind its text -/
theorem fork_at {s x : Tx} {bs : List (Tx × Tr)} (h : s <+: x) (hl : s.length < x.length) (y : Tx) : get (.fork s bs) (x ++ y) = getO (brOf bs ((x.drop s.length).take 1)) (x.drop (s.length + 1) ++ y) := by
  rw [get_forkO, if_pos (h.trans (List.prefix_append _ _)), List.drop_append_of_le_length (by omega), List.drop_append_of_le_length (by omega), List.take_append_of_le_length (by rw [List.length_drop]; omega)]
theorem cut_fork_no {s x : Tx} {bs : List (Tx × Tr)} {a : Option Tr} (hw : Wf (.fork s bs)) (h : s <+: x) (hl : s.length < x.length) (C : CutOk (brOf bs ((x.drop s.length).take 1)) (x.drop (s.length + 1)) a none) : CutOk (some (.fork s bs)) x (some (.fork s bs)) none := cut_stay hw fun y hy => by
  obtain ⟨z, rfl⟩ := hy
  rw [fork_at h hl, ← C.vb]
  rfl
theorem pre_behind {s x y : Tx} (h : s <+: x) (hl : s.length < x.length) : x <+: y ↔ (s <+: y ∧ (y.drop s.length).take 1 = (x.drop s.length).take 1) ∧ x.drop (s.length + 1) <+: y.drop (s.length + 1) := by
  obtain ⟨z, rfl⟩ := h
  rw [List.length_append] at hl
  cases z with
  | nil => simp at hl
  | cons c z =>
    rw [← List.drop_drop, ← List.drop_drop, List.drop_left]
    constructor
    · rintro ⟨w, rfl⟩
      rw [List.append_assoc, List.drop_left]
      exact ⟨⟨List.prefix_append _ _, rfl⟩, List.prefix_append _ _⟩
    · rintro ⟨⟨⟨w, rfl⟩, e⟩, hp⟩
      rw [List.drop_left] at e hp
      cases w with
      | nil => cases e
      | cons d w =>
        have e' : d = c := by simpa using e
        subst e'
        have hp' : z <+: w := hp
        obtain ⟨v, rfl⟩ := hp'
        exact ⟨v, by simp⟩
theorem cut_fork {s x : Tx} {bs : List (Tx × Tr)} {a : Option Tr} {b : Tr} (hw : Wf (.fork s bs)) (h : s <+: x) (hl : s.length < x.length) (C : CutOk (brOf bs ((x.drop s.length).take 1)) (x.drop (s.length + 1)) a (some b)) (hne : withB bs ((x.drop s.length).take 1) a ≠ []) :
    Pf (withB bs ((x.drop s.length).take 1) a) ∧ CutOk (some (.fork s bs)) x (some (knotOf s (withB bs ((x.drop s.length).take 1) a))) (some b) := by
  have pf := pf_of hw
  have c1 : ((x.drop s.length).take 1).length = 1 := by rw [List.length_take, List.length_drop]; omega
  have pf2 : Pf (withB bs ((x.drop s.length).take 1) a) := ⟨up_withB pf.1, ok_withB pf.2.1 (fun u hu => ⟨⟨by show ((x.drop s.length).take 1).length ≤ 1; omega, fun e => by
    have e' : (x.drop s.length).take 1 = [] := e
    rw [e'] at c1; cases c1⟩, by have := C.wa; rw [hu] at this; exact this⟩), hne⟩
  refine ⟨pf2, wf_knot pf2, C.wb, fun y => ?_, fun y => ?_⟩
  · rw [C.vb]
    exact (fork_at h hl y).symm
  · show get (knotOf s _) y = _
    rw [get_knot pf2, get_withB pf.1]
    by_cases c : s <+: y ∧ (y.drop s.length).take 1 = (x.drop s.length).take 1
    · rw [if_pos c, C.va]
      by_cases d : x.drop (s.length + 1) <+: y.drop (s.length + 1)
      · rw [if_pos d, if_pos ((pre_behind h hl).mpr ⟨c, d⟩)]
      · rw [if_neg d, if_neg fun z => d ((pre_behind h hl).mp z).2]
        show _ = get (.fork s bs) y
        rw [get_forkO, if_pos c.1, c.2]
    · rw [if_neg c, if_neg fun z => c ((pre_behind h hl).mp z).1]
      rfl
/-- the names that begin so -/
theorem under_eq {o b : Option Tr} {x : Tx} (ho : WfO o) (hb : WfO b) (h : ∀ y, getO b y = getO o (x ++ y)) : (namesO b).map (fun r => (x ++ r.1, r.2)) = (namesO o).filter (fun r => decide (x <+: r.1)) := by
  have mem : ∀ {o : Option Tr}, WfO o → ∀ y v, (y, v) ∈ namesO o ↔ getO o y = some v := fun {o} ho y v => by
    cases o with
    | none => simp [namesO, getO]
    | some t => exact mem_names t ho y v
  refine sr_ext ?_ (sr_filter (sr_namesO ho) _) fun r => ?_
  · unfold Sr
    rw [List.pairwise_map]
    exact (sr_namesO hb).imp fun {a b} hh => lt_pre x hh
  · obtain ⟨y, v⟩ := r
    rw [List.mem_map, List.mem_filter, mem ho]
    constructor
    · rintro ⟨⟨z, u⟩, hz, e⟩
      cases e
      rw [mem hb, h] at hz
      exact ⟨hz, by simp⟩
    · rintro ⟨hy, hp⟩
      obtain ⟨z, rfl⟩ : x <+: y := by simpa using hp
      exact ⟨(z, v), by rw [mem hb, h]; exact hy, rfl⟩
/-! ### the longest beginning that is a name -/
def LongP (g : Tx → Option Int) (x : Tx) (r : Option Tx) : Prop := (∀ b, r = some b → b <+: x ∧ g b ≠ none) ∧ ∀ b', b' <+: x → g b' ≠ none → ∃ b, r = some b ∧ b'.length ≤ b.length
theorem longP_one {g : Tx → Option Int} {x : Tx} {r q : Option Tx} (h1 : LongP g x r) (h2 : LongP g x q) : r = q := by
  have pe : ∀ {a b : Tx}, a <+: x → b <+: x → a.length = b.length → a = b := fun ha hb e => by
    rw [List.prefix_iff_eq_take.mp ha, List.prefix_iff_eq_take.mp hb, e]
  cases r with
  | none =>
    cases q with
    | none => rfl
    | some b =>
      obtain ⟨p1, p2⟩ := h2.1 b rfl
      obtain ⟨z, hz, _⟩ := h1.2 b p1 p2
      cases hz
  | some a =>
    obtain ⟨p1, p2⟩ := h1.1 a rfl
    obtain ⟨b, hb, l1⟩ := h2.2 a p1 p2
    obtain ⟨q1, q2⟩ := h2.1 b hb
    obtain ⟨a', ha, l2⟩ := h1.2 b q1 q2
    cases ha
    rw [hb, pe p1 q1 (by omega)]
theorem longP_rows {g : Tx → Option Int} {R : List Rw} (hs : Sr R) (hg : ∀ y, g y = lk R y) (x : Tx) : LongP g x ((R.filter fun r => decide (r.1 <+: x)).getLast?.map (·.1)) := by
  have memR : ∀ b, g b ≠ none → ∃ v, (b, v) ∈ R := fun b hb => by
    rw [hg] at hb
    cases e : lk R b with
    | none => exact absurd e hb
    | some v => exact ⟨v, lk_mem e⟩
  refine ⟨fun b hb => ?_, fun b hb hgb => ?_⟩
  · cases e : (R.filter fun r => decide (r.1 <+: x)).getLast? with
    | none => rw [e] at hb; cases hb
    | some r =>
      rw [e] at hb
      cases hb
      have := List.mem_filter.mp (List.mem_of_getLast? e)
      refine ⟨by simpa using this.2, ?_⟩
      rw [hg, mem_lk hs (show (r.1, r.2) ∈ R from this.1)]
      exact fun z => by cases z
  · obtain ⟨v, hv⟩ := memR b hgb
    have hm : (b, v) ∈ R.filter fun r => decide (r.1 <+: x) := List.mem_filter.mpr ⟨hv, by simpa using hb⟩
    cases e : (R.filter fun r => decide (r.1 <+: x)).getLast? with
    | none =>
      rw [List.getLast?_eq_none_iff] at e
      rw [e] at hm
      cases hm
    | some r =>
      refine ⟨r.1, rfl, ?_⟩
      have hr := List.mem_filter.mp (List.mem_of_getLast? e)
      have hrx : r.1 <+: x := by simpa using hr.2
      -- the last is the greatest
      obtain ⟨l, hl⟩ := List.getLast?_eq_some_iff.mp e
      rw [hl] at hm
      have hsf := sr_filter hs fun r => decide (r.1 <+: x)
      rw [hl] at hsf
      rcases List.mem_append.mp hm with h | h
      · have lt : b < r.1 := (List.pairwise_append.mp hsf).2.2 _ h r (by simp)
        rcases pre_cmp hb hrx with z | z
        · exact z.length_le
        · obtain ⟨w, rfl⟩ := z
          cases w with
          | nil => simp
          | cons c w =>
            have := lt_pre r.1 (show ([] : Tx) < c :: w from List.Lex.nil)
            rw [List.append_nil] at this
            exact absurd this (tx_asymm lt)
      · rw [List.mem_singleton] at h
        rw [← h]
        exact Nat.le_refl _
/-! ### the signs that may follow -/
def dd (l : List Tx) : List Tx := l.foldl (fun acc c => if c ∈ acc then acc else acc ++ [c]) []
def nextS : Option Tr → List Tx
  | none => []
  | some (.leaf r _) => [r.take 1]
  | some (.fork s bs) => if s = [] then bs.map (·.1) else [s.take 1]
theorem fold_same (c : Tx) : ∀ (l : List Tx) (acc : List Tx), (∀ x ∈ l, x = c) → c ∈ acc → l.foldl (fun acc c => if c ∈ acc then acc else acc ++ [c]) acc = acc
  | [], acc, _, _ => rfl
  | x :: l, acc, h, hc => by
    have e := h x List.mem_cons_self
    subst e
    rw [List.foldl_cons, if_pos hc]
    exact fold_same x l acc (fun y hy => h y (List.mem_cons_of_mem _ hy)) hc
theorem fold_new (c : Tx) (l : List Tx) (acc : List Tx) (h : ∀ x ∈ l, x = c) (hn : l ≠ []) (hc : c ∉ acc) : l.foldl (fun acc c => if c ∈ acc then acc else acc ++ [c]) acc = acc ++ [c] := by
  cases l with
  | nil => exact absurd rfl hn
  | cons x l =>
    have e := h x List.mem_cons_self
    subst e
    rw [List.foldl_cons, if_neg hc]
    exact fold_same x l _ (fun y hy => h y (List.mem_cons_of_mem _ hy)) (by simp)
theorem fold_branches : ∀ (bs : List (Tx × Tr)) (acc : List Tx), Up bs → (∀ p ∈ bs, SignOk p ∧ Wf p.2) → (∀ p ∈ bs, p.1 ∉ acc) → ((namesB [] bs).map fun r => r.1.take 1).foldl (fun acc c => if c ∈ acc then acc else acc ++ [c]) acc = acc ++ bs.map (·.1)
  | [], acc, _, _, _ => by rw [namesB]; simp
  | (c, t) :: r, acc, hu, ho, ha => by
    have h2 := List.pairwise_cons.mp hu
    have hp := ho (c, t) List.mem_cons_self
    rw [namesB, List.map_append, List.foldl_append, List.map_map]
    have e1 : ((names t).map ((fun r : Rw => r.1.take 1) ∘ fun p => ([] ++ c ++ p.1, p.2))).foldl (fun acc c => if c ∈ acc then acc else acc ++ [c]) acc = acc ++ [c] := by
      refine fold_new c _ acc (fun x hx => ?_) ?_ (ha (c, t) List.mem_cons_self)
      · obtain ⟨q, hq, rfl⟩ := List.mem_map.mp hx
        show ([] ++ c ++ q.1).take 1 = c
        rw [List.nil_append]
        cases c with
        | nil =>
          obtain ⟨n, hn⟩ := hp.1.2 rfl
          have hn' : t = .leaf [] n := hn
          rw [hn', names, List.mem_singleton] at hq
          rw [hq]
          rfl
        | cons d c =>
          have l1 : (d :: c).length ≤ 1 := hp.1.1
          have : c = [] := by
            cases c with
            | nil => rfl
            | cons _ _ => simp at l1
          subst this
          rfl
      · have np : 0 < (names t).length := names_pos (t := t) hp.2
        intro z
        have := congrArg List.length z
        simp only [List.length_map, List.length_nil] at this
        omega
    rw [e1, fold_branches r (acc ++ [c]) h2.2 (fun p hp => ho p (List.mem_cons_of_mem _ hp)) fun p hp hm => ?_]
    · simp
    · rcases List.mem_append.mp hm with h | h
      · exact ha p (List.mem_cons_of_mem _ hp) h
      · rw [List.mem_singleton] at h
        have := h2.1 p hp
        simp only at this
        rw [h] at this
        exact absurd this (tx_irr _)
theorem signs_eq {b : Option Tr} (h : WfO b) : dd ((namesO b).map fun r => r.1.take 1) = nextS b := by
  cases b with
  | none => rfl
  | some t =>
    cases t with
    | leaf r n => simp [namesO, names, dd, nextS]
    | fork s bs =>
      have pf := pf_of (s := s) (bs := bs) h
      show _ = if s = [] then bs.map (·.1) else [s.take 1]
      by_cases e : s = []
      · subst e
        rw [if_pos rfl]
        show dd ((namesB [] bs).map _) = _
        unfold dd
        rw [fold_branches bs [] pf.1 pf.2.1 (fun _ _ => by simp)]
        rfl
      · rw [if_neg e]
        unfold dd
        refine (fold_new (s.take 1) _ [] (fun x hx => ?_) ?_ (by simp)).trans rfl
        · obtain ⟨q, hq, rfl⟩ := List.mem_map.mp hx
          obtain ⟨p, hp, z, hz, e2⟩ := mem_namesB.mp (show q ∈ namesB s bs from hq)
          rw [e2]
          show (s ++ p.1 ++ z.1).take 1 = _
          cases s with
          | nil => exact absurd rfl e
          | cons d s => rfl
        · have np := names_pos (t := .fork s bs) h
          intro z
          have := congrArg List.length z
          simp only [List.length_map, List.length_nil, namesO] at this
          omega
/-- what all the names of a tree share -/
theorem text_first_last {t : Tr} {a b : Rw} (h : Wf t) (ha : (names t).head? = some a) (hb : (names t).getLast? = some b) : text t = lcp a.1 b.1 := by
  have hs := sr_names t h
  have pre := sr_pre hs ha hb
  have ma := List.mem_of_head? ha
  have mb := List.mem_of_getLast? hb
  have ga : get t a.1 ≠ none := by rw [(mem_names t h a.1 a.2).mp ma]; exact fun z => by cases z
  have gb : get t b.1 ≠ none := by rw [(mem_names t h b.1 b.2).mp mb]; exact fun z => by cases z
  have h1 : text t <+: lcp a.1 b.1 := pre_lcp (get_text_pre ga) (get_text_pre gb)
  cases t with
  | leaf r n =>
    rw [names, List.head?_cons] at ha
    rw [names] at hb
    cases ha
    cases hb
    exact (lcp_of_pre (List.prefix_refl _)).symm
  | fork s bs =>
    obtain ⟨y, z, hy, hz, hl, _⟩ := fork_two h
    have inN : ∀ {y}, get (.fork s bs) y ≠ none → ∃ v, (y, v) ∈ names (.fork s bs) := fun {y} hy => by
      cases e : get (.fork s bs) y with
      | none => exact absurd e hy
      | some v => exact ⟨v, (mem_names _ h y v).mpr e⟩
    obtain ⟨v1, m1⟩ := inN hy
    obtain ⟨v2, m2⟩ := inN hz
    have h2 : lcp a.1 b.1 <+: lcp y z := pre_lcp (pre _ m1) (pre _ m2)
    rw [hl] at h2
    exact h1.eq_of_length (Nat.le_antisymm h1.length_le h2.length_le)
theorem lcp_pre (x : Tx) : ∀ a b : Tx, lcp (x ++ a) (x ++ b) = x ++ lcp a b := fun a b => by
  induction x with
  | nil => rfl
  | cons c x ih => simp [lcp, ih]
end TM
/-! Mth7: knots one by one. -/
namespace TM
theorem knotsB_app (s : Tx) : ∀ as bs : List (Tx × Tr), knotsB s (as ++ bs) = knotsB s as ++ knotsB s bs
  | [], bs => by rw [List.nil_append, knotsB.eq_1, List.nil_append]
  | (c, t) :: r, bs => by rw [List.cons_append, knotsB, knotsB, knotsB_app s r bs, List.append_assoc]
theorem knotsB_at {s : Tx} {bs : List (Tx × Tr)} {i : Nat} {p : Tx × Tr} (h : bs[i]? = some p) : knotsB s (bs.take (i + 1)) = knotsB s (bs.take i) ++ (knots p.2).map (fun q => (s ++ p.1 ++ q.1, q.2)) := by
  obtain ⟨hi, e⟩ := List.getElem?_eq_some_iff.mp h
  rw [List.take_succ_eq_append_getElem hi, knotsB_app, e]
  obtain ⟨c, t⟩ := p
  rw [knotsB, knotsB, List.append_nil]
theorem knotsB_take_le (s : Tx) (bs : List (Tx × Tr)) (i : Nat) : (knotsB s (bs.take i)).length ≤ (knotsB s bs).length := by
  have := knotsB_app s (bs.take i) (bs.drop i)
  rw [List.take_append_drop] at this
  rw [this, List.length_append]
  omega
theorem knots_len : ∀ t, Wf t → (knots t).length + 1 ≤ 2 * (names t).length := by
  refine Tr.ind (fun r n _ => by simp [knots, names]) fun s bs ih h => ?_
  have key : ∀ as : List (Tx × Tr), (∀ p ∈ as, p ∈ bs) → (knotsB s as).length + as.length ≤ 2 * (namesB s as).length := by
    intro as
    induction as with
    | nil => intro _; simp [knotsB, namesB]
    | cons p r ih2 =>
      intro hh
      obtain ⟨c, t⟩ := p
      have h1 := ih2 fun q hq => hh q (List.mem_cons_of_mem _ hq)
      have hm := hh (c, t) List.mem_cons_self
      have h2 : (knots t).length + 1 ≤ 2 * (names t).length := ih (c, t) hm ((pf_of h).2.1 _ hm).2
      simp only [knotsB, namesB, List.length_append, List.length_map, List.length_cons]
      omega
  have := key bs fun _ h => h
  have h2 := (wf_fork.mp h).1
  simp only [knots, names, List.length_cons]
  omega
theorem mem_knotsB {s : Tx} : ∀ {bs : List (Tx × Tr)} {q : Rw}, q ∈ knotsB s bs → ∃ p ∈ bs, ∃ z ∈ knots p.2, q = (s ++ p.1 ++ z.1, z.2)
  | (c, t) :: r, q, h => by
    rw [knotsB, List.mem_append] at h
    rcases h with h | h
    · obtain ⟨z, hz, rfl⟩ := List.mem_map.mp h
      exact ⟨(c, t), List.mem_cons_self, z, hz, rfl⟩
    · obtain ⟨p, hp, z, hz, e⟩ := mem_knotsB h
      exact ⟨p, List.mem_cons_of_mem _ hp, z, hz, e⟩
  | [], q, h => by rw [knotsB] at h; cases h
/-- a knot's text begins a name -/
theorem knots_pre : ∀ t, Wf t → ∀ r ∈ knots t, ∃ y, r.1 <+: y ∧ get t y ≠ none := by
  refine Tr.ind (fun x n _ r hr => ?_) fun s bs ih h r hr => ?_
  · rw [knots, List.mem_singleton] at hr
    subst hr
    exact ⟨x, List.prefix_refl _, by rw [get_leaf, if_pos rfl]; exact fun z => by cases z⟩
  · rw [knots, List.mem_cons] at hr
    rcases hr with rfl | hr
    · obtain ⟨y, hy⟩ := wf_some _ h
      exact ⟨y, get_pre hy, hy⟩
    · obtain ⟨p, hp, z, hz, rfl⟩ := mem_knotsB hr
      have pf := pf_of h
      obtain ⟨y, h1, h2⟩ := ih p hp (pf.2.1 p hp).2 z hz
      refine ⟨s ++ p.1 ++ y, (List.prefix_append_right_inj _).mpr h1, ?_⟩
      rw [get_in pf.1 hp (pf.2.1 p hp).1 y h2]
      exact h2
/-- the knots of less than two branches are the names -/
theorem knots_ends : ∀ t, Wf t → (knots t).filter (fun r => decide (r.2 < 2)) = (names t).map fun r => (r.1, 0) := by
  refine Tr.ind (fun r n _ => by simp [knots, names]) fun s bs ih h => ?_
  have key : ∀ as : List (Tx × Tr), (∀ p ∈ as, p ∈ bs) → (knotsB s as).filter (fun r => decide (r.2 < 2)) = (namesB s as).map fun r => (r.1, 0) := by
    intro as
    induction as with
    | nil => intro _; simp [knotsB, namesB]
    | cons p r ih2 =>
      intro hh
      obtain ⟨c, t⟩ := p
      have h1 := ih2 fun q hq => hh q (List.mem_cons_of_mem _ hq)
      have hm := hh (c, t) List.mem_cons_self
      have h2 : (knots t).filter (fun r => decide (r.2 < 2)) = (names t).map fun r => (r.1, 0) := ih (c, t) hm ((pf_of h).2.1 _ hm).2
      rw [knotsB, namesB, List.filter_append, List.map_append, h1, List.filter_map, List.map_map]
      congr 1
      show ((knots t).filter (fun r => decide (r.2 < 2))).map _ = _
      rw [h2, List.map_map]
      rfl
  have h2 := (wf_fork.mp h).1
  rw [knots, List.filter_cons, if_neg (by simp; omega), names]
  exact key bs fun _ h => h
theorem ok_ahead {L L' M : Nat} {u : Tr} {y : Tx} (h : Ok L M u) (hl : y.length + L ≤ L') : Ok L' M (ahead y u) := by
  refine ⟨wf_ahead.mpr h.wf, fun z hz => ?_, by unfold ahead; rw [names_retext]; exact h.nm⟩
  rw [get_ahead] at hz
  split at hz
  · rename_i hp
    have := h.ln _ hz
    have h2 := hp.length_le
    rw [List.length_drop] at this
    omega
  · exact absurd rfl hz
end TM
/-! Mth8: a branch moved, told by rows. -/
namespace TM
theorem lk_ext {R : List Rw} {g : Tx → Option Int} (hs : Sr R) (h : ∀ y v, (y, v) ∈ R ↔ g y = some v) (y : Tx) : lk R y = g y := by
  cases e : g y with
  | some v => exact mem_lk hs ((h y v).mpr e)
  | none =>
    rw [lk_none]
    intro r hr er
    have := (h r.1 r.2).mp hr
    rw [er, e] at this
    cases this
/-- the rows that come -/
def comeR (x y : Tx) (R : List Rw) : List Rw := (R.filter fun r => decide (x <+: r.1)).map fun r => (y ++ r.1.drop x.length, r.2)
theorem comeR_of {o a b : Option Tr} {x y : Tx} {R : List Rw} (ho : WfO o) (hR : namesO o = R) (C : CutOk o x a b) : comeR x y R = (namesO b).map fun r => (y ++ r.1, r.2) := by
  unfold comeR
  rw [← hR, ← under_eq ho C.wb C.vb, List.map_map]
  apply List.map_congr_left
  intro r _
  show (y ++ (x ++ r.1).drop x.length, r.2) = _
  rw [List.drop_left]
theorem comeR_nil {o a b : Option Tr} {x y : Tx} {R : List Rw} (ho : WfO o) (hR : namesO o = R) (C : CutOk o x a b) : comeR x y R = [] ↔ b = none := by
  rw [comeR_of ho hR C]
  cases b with
  | none => simp [namesO]
  | some u =>
    have := names_pos (t := u) C.wb
    constructor
    · intro h
      have h2 := congrArg List.length h
      rw [List.length_map] at h2
      simp only [namesO, List.length_nil] at h2
      omega
    · intro h; cases h
theorem comeR_sr {o a b : Option Tr} {x y : Tx} {R : List Rw} (ho : WfO o) (hR : namesO o = R) (C : CutOk o x a b) : Sr (comeR x y R) := by
  rw [comeR_of ho hR C]
  unfold Sr
  rw [List.pairwise_map]
  exact (sr_namesO C.wb).imp fun h => lt_pre y h
theorem comeR_lk {o a : Option Tr} {u : Tr} {x y : Tx} {R : List Rw} (ho : WfO o) (hR : namesO o = R) (C : CutOk o x a (some u)) (z : Tx) : lk (comeR x y R) z = get (ahead y u) z := by
  refine lk_ext (comeR_sr ho hR C) (fun z v => ?_) z
  rw [comeR_of ho hR C, List.mem_map, get_ahead]
  constructor
  · rintro ⟨r, hr, e⟩
    cases e
    rw [if_pos (List.prefix_append _ _), List.drop_left]
    exact (mem_names u C.wb r.1 r.2).mp hr
  · intro h
    split at h
    · rename_i hp
      obtain ⟨w, rfl⟩ := hp
      rw [List.drop_left] at h
      exact ⟨(w, v), (mem_names u C.wb w v).mpr h, rfl⟩
    · cases h
theorem stay_lk {o a b : Option Tr} {x : Tx} {R : List Rw} (hs : Sr R) (hg : ∀ y, getO o y = lk R y) (C : CutOk o x a b) (z : Tx) : getO a z = lk (R.filter fun r => !decide (x <+: r.1)) z := by
  rw [C.va, hg, lk_filter hs]
  by_cases h : x <+: z
  · rw [if_pos h]
    cases lk R z <;> simp [h]
  · rw [if_neg h]
    cases lk R z <;> simp [h]
end TM
/-! DL: the data layer. Readings of the hand layer told over plain data: Dv (what a value is), hid (the heap without the cells that may change), wpE .. wpS (weakest wishes over data). -/
namespace DL
open PySem L2

abbrev Tx := List Nat
inductive Dv where
  | non | bl (b : Bool) | int (i : Int) | str (x : Tx) | lst (ds : List Dv) | tup (ds : List Dv) | ref (a : Addr) | scr (ns : List Int)
def sT (x : Tx) : Str := ⟨x.toArray⟩
theorem sT_cps (x : Str) : sT x.cps.toList = x := by
  cases x
  simp [sT]
theorem cps_sT (x : Tx) : (sT x).cps.toList = x := by simp [sT]
theorem len_sT (x : Tx) : (sT x).length = x.length := by
  show (sT x).cps.size = _
  simp [sT]
theorem sT_inj {x y : Tx} : sT x = sT y ↔ x = y := by
  refine ⟨fun h => ?_, fun h => by rw [h]⟩
  have e := congrArg (fun z : Str => z.cps.toList) h
  simpa [cps_sT] using e

mutual
inductive Rp (K : PySem.W.Frag) (H : Hp) : V → Dv → Prop
  | non : Rp K H .non .non
  | bl (b : Bool) : Rp K H (.bl b) (.bl b)
  | int (i : Int) : Rp K H (.int i) (.int i)
  | str (x : Tx) : Rp K H (.str (sT x)) (.str x)
  | ref (a : Addr) : Rp K H (.ref a) (.ref a)
  | lst {a : Addr} {xs : List V} {ds : List Dv} : H a = some (.lst xs) → RpA K H xs ds → Rp K H (.ref a) (.lst ds)
  | tup {a : Addr} {xs : List V} {ds : List Dv} : H a = some (.tup xs) → RpA K H xs ds → Rp K H (.ref a) (.tup ds)
  | scr {a : Addr} {ns : List Int} : SqL K H a (ns.map V.int) → Rp K H (.ref a) (.scr ns)
inductive RpA (K : PySem.W.Frag) (H : Hp) : List V → List Dv → Prop
  | nil : RpA K H [] []
  | cons {v : V} {vs : List V} {d : Dv} {ds : List Dv} : Rp K H v d → RpA K H vs ds → RpA K H (v :: vs) (d :: ds)
end
def Ge (H H' : Hp) : Prop := ∀ a o, H a = some o → H' a = some o
theorem Ge.refl (H : Hp) : Ge H H := fun _ _ h => h
theorem Ge.trans {H H1 H2 : Hp} (a : Ge H H1) (b : Ge H1 H2) : Ge H H2 := fun x o h => b x o (a x o h)
theorem Ge.rd {H H' : Hp} {a : Addr} {u : HO} (e : Ge H H') (h : Rd H a u) : Rd H' a u := by
  rcases h with h | ⟨o, h⟩
  · exact Or.inl (e a _ h)
  · exact Or.inr ⟨o, e a _ h⟩
theorem Ge.l {K : PySem.W.Frag} {H H' : Hp} {a : Addr} {xs : List V} (e : Ge H H') (h : SqL K H a xs) : SqL K H' a xs := by
  rcases h with h | h
  · exact Or.inl (e.rd h)
  · exact Or.inr h
theorem Ge.t {K : PySem.W.Frag} {H H' : Hp} {a : Addr} {xs : List V} (e : Ge H H') (h : SqT K H a xs) : SqT K H' a xs := by
  rcases h with h | h
  · exact Or.inl (e.rd h)
  · exact Or.inr h
mutual
theorem Rp.mono {K : PySem.W.Frag} {H H' : Hp} (e : Ge H H') : ∀ {v : V} {d : Dv}, Rp K H v d → Rp K H' v d
  | _, _, .non => .non
  | _, _, .bl b => .bl b
  | _, _, .int i => .int i
  | _, _, .str x => .str x
  | _, _, .ref a => .ref a
  | _, _, .lst h r => .lst (e _ _ h) (RpA.mono e r)
  | _, _, .tup h r => .tup (e _ _ h) (RpA.mono e r)
  | _, _, .scr h => .scr (e.l h)
theorem RpA.mono {K : PySem.W.Frag} {H H' : Hp} (e : Ge H H') : ∀ {vs : List V} {ds : List Dv}, RpA K H vs ds → RpA K H' vs ds
  | _, _, .nil => .nil
  | _, _, .cons h r => .cons (h.mono e) (RpA.mono e r)
end
section
variable {K : PySem.W.Frag} {H H' : Hp}
theorem RpA.length : ∀ {vs : List V} {ds : List Dv}, RpA K H vs ds → vs.length = ds.length
  | _, _, .nil => rfl
  | _, _, .cons _ r => by rw [List.length_cons, List.length_cons, RpA.length r]
theorem RpA.get : ∀ {vs : List V} {ds : List Dv} {i : Nat} {d : Dv}, RpA K H vs ds → ds[i]? = some d → ∃ v, vs[i]? = some v ∧ Rp K H v d
  | _, _, _, _, .nil, e => by simp at e
  | _, _, 0, _, .cons r _, e => by simp at e; subst e; exact ⟨_, rfl, r⟩
  | _, _, i + 1, d, .cons _ t, e => by
    obtain ⟨u, h1, h2⟩ := RpA.get (i := i) (d := d) t (by simpa using e)
    exact ⟨u, by simpa using h1, h2⟩
theorem RpA.getV : ∀ {vs : List V} {ds : List Dv} {i : Nat} {v : V}, RpA K H vs ds → vs[i]? = some v → ∃ d, ds[i]? = some d ∧ Rp K H v d
  | _, _, _, _, .nil, e => by simp at e
  | _, _, 0, _, .cons r _, e => by simp at e; subst e; exact ⟨_, rfl, r⟩
  | _, _, i + 1, d, .cons _ t, e => by
    obtain ⟨u, h1, h2⟩ := RpA.getV (i := i) (v := d) t (by simpa using e)
    exact ⟨u, by simpa using h1, h2⟩
theorem RpA.append : ∀ {vs us : List V} {ds es : List Dv}, RpA K H vs ds → RpA K H us es → RpA K H (vs ++ us) (ds ++ es)
  | _, _, _, _, .nil, s => s
  | _, _, _, _, .cons r t, s => .cons r (RpA.append t s)
theorem RpA.take : ∀ {vs : List V} {ds : List Dv} (n : Nat), RpA K H vs ds → RpA K H (vs.take n) (ds.take n)
  | _, _, 0, _ => by simp; exact .nil
  | _, _, _ + 1, .nil => .nil
  | _, _, n + 1, .cons r t => .cons r (RpA.take n t)
theorem RpA.drop : ∀ {vs : List V} {ds : List Dv} (n : Nat), RpA K H vs ds → RpA K H (vs.drop n) (ds.drop n)
  | _, _, 0, r => r
  | _, _, _ + 1, .nil => .nil
  | _, _, n + 1, .cons _ t => RpA.drop n t
theorem Rp.int_inv {v : V} {i : Int} (h : Rp K H v (.int i)) : v = .int i := by cases h; rfl
theorem Rp.bl_inv {v : V} {i : Bool} (h : Rp K H v (.bl i)) : v = .bl i := by cases h; rfl
theorem Rp.non_inv {v : V} (h : Rp K H v .non) : v = .non := by cases h; rfl
theorem Rp.str_inv {v : V} {i : Tx} (h : Rp K H v (.str i)) : v = .str (sT i) := by cases h; rfl
theorem Rp.ref_inv {v : V} {i : Addr} (h : Rp K H v (.ref i)) : v = .ref i := by cases h; rfl
theorem Rp.lst_inv {v : V} {ds : List Dv} (h : Rp K H v (.lst ds)) : ∃ a xs, v = .ref a ∧ H a = some (.lst xs) ∧ RpA K H xs ds := by
  cases h with
  | lst h1 h2 => exact ⟨_, _, rfl, h1, h2⟩
theorem Rp.tup_inv {v : V} {ds : List Dv} (h : Rp K H v (.tup ds)) : ∃ a xs, v = .ref a ∧ H a = some (.tup xs) ∧ RpA K H xs ds := by
  cases h with
  | tup h1 h2 => exact ⟨_, _, rfl, h1, h2⟩
theorem Rp.scr_inv {v : V} {ns : List Int} (h : Rp K H v (.scr ns)) : ∃ a, v = .ref a ∧ SqL K H a (ns.map V.int) := by
  cases h with
  | scr h1 => exact ⟨_, rfl, h1⟩
end

/-! ### cells: what may change -/
inductive DCell where
  | lst (ds : List Dv) | ins (C dx : Addr) (fs : List (Str × Dv)) | own (x : Addr) | dct (kvs : List (Tx × Dv)) | lck (o : Obj) (kvs : List (Tx × Dv))
abbrev DMem := List (Addr × DCell)
abbrev keys (μ : DMem) : List Addr := μ.map (·.1)
def hid (H : Hp) (O : List Addr) : Hp := fun a => if a ∈ O then none else H a
theorem hid_of {H : Hp} {O : List Addr} {a : Addr} (h : a ∉ O) : hid H O a = H a := if_neg h
theorem hid_in {H : Hp} {O : List Addr} {a : Addr} (h : a ∈ O) : hid H O a = none := if_pos h
theorem hid_some {H : Hp} {O : List Addr} {a : Addr} {o : HO} (h : hid H O a = some o) : a ∉ O ∧ H a = some o := by
  unfold hid at h
  split at h
  · cases h
  · exact ⟨by assumption, h⟩
theorem hid_ge (H : Hp) (O : List Addr) : Ge (hid H O) H := fun _ _ h => (hid_some h).2
theorem hid_nil (H : Hp) : hid H [] = H := by
  funext a
  exact hid_of (by simp)
inductive FsR (K : PySem.W.Frag) (H : Hp) : List (Str × V) → List (Str × Dv) → Prop
  | nil : FsR K H [] []
  | cons {f : Str} {v : V} {d : Dv} {vs ds} : Rp K H v d → FsR K H vs ds → FsR K H ((f, v) :: vs) ((f, d) :: ds)
inductive KvR (K : PySem.W.Frag) (H : Hp) : List (Key × V) → List (Tx × Dv) → Prop
  | nil : KvR K H [] []
  | cons {f : Tx} {v : V} {d : Dv} {vs ds} : Rp K H v d → KvR K H vs ds → KvR K H ((.inr (sT f), v) :: vs) ((f, d) :: ds)
def CellOk (K : PySem.W.Frag) (H : Hp) (O : List Addr) (a : Addr) : DCell → Prop
  | .lst ds => ∃ vs, H a = some (.lst vs) ∧ RpA K (hid H O) vs ds
  | .ins C dx fs => ∃ vs, H a = some (.ins C dx vs) ∧ FsR K (hid H O) vs fs
  | .own x => H a = some (.own x)
  | .dct kvs => ∃ vs, H a = some (.dK vs) ∧ KvR K (hid H O) vs kvs
  | .lck o kvs => ∃ vs, H a = some (.frz o (.dK vs)) ∧ KvR K (hid H O) vs kvs
theorem FsR.mono {K : PySem.W.Frag} {H H' : Hp} (e : Ge H H') : ∀ {vs ds}, FsR K H vs ds → FsR K H' vs ds
  | _, _, .nil => .nil
  | _, _, .cons r t => .cons (r.mono e) (FsR.mono e t)
theorem KvR.mono {K : PySem.W.Frag} {H H' : Hp} (e : Ge H H') : ∀ {vs ds}, KvR K H vs ds → KvR K H' vs ds
  | _, _, .nil => .nil
  | _, _, .cons r t => .cons (r.mono e) (KvR.mono e t)
theorem CellOk.some {K : PySem.W.Frag} {H : Hp} {O : List Addr} {a : Addr} {c : DCell} (h : CellOk K H O a c) : ∃ o, H a = some o := by
  cases c with
  | lst ds => obtain ⟨vs, h, _⟩ := h; exact ⟨_, h⟩
  | ins C dx fs => obtain ⟨vs, h, _⟩ := h; exact ⟨_, h⟩
  | own x => exact ⟨_, h⟩
  | dct kvs => obtain ⟨vs, h, _⟩ := h; exact ⟨_, h⟩
  | lck o kvs => obtain ⟨vs, h, _⟩ := h; exact ⟨_, h⟩
/-- the cell itself as it was, the pure part larger -/
theorem CellOk.to {K : PySem.W.Frag} {H H' : Hp} {O O' : List Addr} {a : Addr} {c : DCell} (h : CellOk K H O a c) (ha : H' a = H a) (e : Ge (hid H O) (hid H' O')) : CellOk K H' O' a c := by
  cases c with
  | lst ds => obtain ⟨vs, h, r⟩ := h; exact ⟨vs, ha.trans h, r.mono e⟩
  | ins C dx fs => obtain ⟨vs, h, r⟩ := h; exact ⟨vs, ha.trans h, r.mono e⟩
  | own x => exact ha.trans h
  | dct kvs => obtain ⟨vs, h, r⟩ := h; exact ⟨vs, ha.trans h, r.mono e⟩
  | lck o kvs => obtain ⟨vs, h, r⟩ := h; exact ⟨vs, ha.trans h, r.mono e⟩
structure MemOk (K : PySem.W.Frag) (H : Hp) (μ : DMem) : Prop where
  nd : (keys μ).Nodup
  ok : ∀ c ∈ μ, CellOk K H (keys μ) c.1 c.2
theorem MemOk.fresh {K : PySem.W.Frag} {H : Hp} {μ : DMem} (M : MemOk K H μ) {p : Addr} (hp : H p = none) : p ∉ keys μ := fun hm => by
  obtain ⟨c, hc, e⟩ := List.mem_map.mp hm
  obtain ⟨o, ho⟩ := (M.ok c hc).some
  rw [e, hp] at ho
  cases ho
theorem hid_new {H : Hp} {O : List Addr} {p : Addr} {o : HO} (hp : H p = none) : Ge (hid H O) (hid (upd H p o) O) := fun a u h => by
  obtain ⟨h1, h2⟩ := hid_some h
  rw [hid_of h1, upd_ne (ne_of_none h2 hp)]
  exact h2
/-- the heap grew by a pure thing -/
theorem MemOk.grow {K : PySem.W.Frag} {H H' : Hp} {μ : DMem} (M : MemOk K H μ) (e : Ge H H') : MemOk K H' μ := by
  refine ⟨M.nd, fun c hc => ?_⟩
  obtain ⟨o, ho⟩ := (M.ok c hc).some
  refine (M.ok c hc).to ((e _ _ ho).trans ho.symm) fun a u h => ?_
  obtain ⟨h1, h2⟩ := hid_some h
  rw [hid_of h1]
  exact e _ _ h2
theorem hid_grow {H H' : Hp} {O : List Addr} (e : Ge H H') : Ge (hid H O) (hid H' O) := fun a u h => by
  obtain ⟨h1, h2⟩ := hid_some h
  rw [hid_of h1]
  exact e _ _ h2
/-- a new cell -/
theorem MemOk.cell {K : PySem.W.Frag} {H : Hp} {μ : DMem} {p : Addr} {c : DCell} {o : HO} (M : MemOk K H μ) (hp : H p = none) (h : CellOk K (upd H p o) (keys ((p, c) :: μ)) p c) : MemOk K (upd H p o) ((p, c) :: μ) := by
  have hf := M.fresh hp
  have g : Ge (hid H (keys μ)) (hid (upd H p o) (keys ((p, c) :: μ))) := fun a u h => by
    obtain ⟨h1, h2⟩ := hid_some h
    have ne : a ≠ p := ne_of_none h2 hp
    rw [hid_of (by simpa [keys, ne] using h1), upd_ne ne]
    exact h2
  refine ⟨List.nodup_cons.mpr ⟨hf, M.nd⟩, fun c' hc => ?_⟩
  rcases List.mem_cons.mp hc with rfl | hc
  · exact h
  · have ne : c'.1 ≠ p := fun e => hf (e ▸ List.mem_map_of_mem hc)
    exact (M.ok c' hc).to (upd_ne ne) g
theorem hid_cell {H : Hp} {μ : DMem} {p : Addr} {c : DCell} {o : HO} (hp : H p = none) : Ge (hid H (keys μ)) (hid (upd H p o) (keys ((p, c) :: μ))) := fun a u h => by
  obtain ⟨h1, h2⟩ := hid_some h
  have ne : a ≠ p := ne_of_none h2 hp
  rw [hid_of (by simpa [keys, ne] using h1), upd_ne ne]
  exact h2

abbrev DEnv := List (Option Dv)
structure Sta (K : PySem.W.Frag) (H0 : Hp) (ρ : DEnv) (μ : DMem) (σ : St) (H : Hp) : Prop where
  mem : MemOk K H μ
  ge : Ge H0 (hid H (keys μ))
  len : σ.length = ρ.length
  sl : ∀ (i : Nat) (d : Dv), ρ[i]? = some (some d) → ∃ v, σ[i]? = some (some v) ∧ Rp K (hid H (keys μ)) v d
section
variable {K : PySem.W.Frag} {H0 H1 H H' : Hp} {ρ : DEnv} {μ μ' : DMem} {σ : St}
theorem Sta.low (S : Sta K H1 ρ μ σ H) (g : Ge H0 H1) : Sta K H0 ρ μ σ H := ⟨S.mem, g.trans S.ge, S.len, S.sl⟩
theorem Sta.top (S : Sta K H0 ρ μ σ H) : Sta K (hid H (keys μ)) ρ μ σ H := ⟨S.mem, Ge.refl _, S.len, S.sl⟩
theorem Sta.go (S : Sta K H0 ρ μ σ H) (M : MemOk K H' μ') (g : Ge (hid H (keys μ)) (hid H' (keys μ'))) : Sta K H0 ρ μ' σ H' :=
  ⟨M, S.ge.trans g, S.len, fun i d h => let ⟨v, h1, h2⟩ := S.sl i d h; ⟨v, h1, h2.mono g⟩⟩
theorem Sta.set {v : V} {d : Dv} (S : Sta K H0 ρ μ σ H) (r : Rp K (hid H (keys μ)) v d) (i : Nat) : Sta K H0 (ρ.set i (some d)) μ (σ.set i (some v)) H := by
  refine ⟨S.mem, S.ge, by rw [List.length_set, List.length_set, S.len], fun j e h => ?_⟩
  by_cases hj : i = j
  · subst hj
    by_cases hl : i < ρ.length
    · rw [List.getElem?_set_self hl] at h
      cases h
      exact ⟨v, List.getElem?_set_self (by rw [S.len]; exact hl), r⟩
    · rw [List.getElem?_eq_none (by rw [List.length_set]; omega)] at h
      cases h
  · rw [List.getElem?_set_ne hj] at h
    obtain ⟨u, h1, h2⟩ := S.sl j e h
    exact ⟨u, by rw [List.getElem?_set_ne hj]; exact h1, h2⟩
theorem Sta.forget (S : Sta K H0 ρ μ σ H) (i : Nat) (x : Option V) : Sta K H0 (ρ.set i none) μ (σ.set i x) H := by
  refine ⟨S.mem, S.ge, by rw [List.length_set, List.length_set, S.len], fun j e h => ?_⟩
  by_cases hj : i = j
  · subst hj
    by_cases hl : i < ρ.length
    · rw [List.getElem?_set_self hl] at h
      cases h
    · rw [List.getElem?_eq_none (by rw [List.length_set]; omega)] at h
      cases h
  · rw [List.getElem?_set_ne hj] at h
    obtain ⟨u, h1, h2⟩ := S.sl j e h
    exact ⟨u, by rw [List.getElem?_set_ne hj]; exact h1, h2⟩
end

/-! ### wishes -/
section
variable (K : PySem.W.Frag) (H0 : Hp)
/-- what a follower may count on -/
structure Fo (ρ : DEnv) (μ : DMem) (σ : St) (H : Hp) (μ' : DMem) (H' : Hp) : Prop where
  st : Sta K H0 ρ μ' σ H'
  ge : Ge (hid H (keys μ)) (hid H' (keys μ'))
def wpE (te : TE) (ρ : DEnv) (μ : DMem) (k : Dv → DMem → Prop) : Prop :=
  ∀ σ H, Sta K H0 ρ μ σ H → ∀ Q : VK, (∀ d μ' v H', k d μ' → Fo K H0 ρ μ σ H μ' H' → Rp K (hid H' (keys μ')) v d → Q v H') → te σ H Q
def wpT (tt : TT) (ρ : DEnv) (μ : DMem) (k : Bool → DMem → Prop) : Prop :=
  ∀ σ H, Sta K H0 ρ μ σ H → ∀ Q : Bool → Hp → Prop, (∀ b μ' H', k b μ' → Fo K H0 ρ μ σ H μ' H' → Q b H') → tt σ H Q
def wpA (ta : TA) (ρ : DEnv) (μ : DMem) (k : List Dv → DMem → Prop) : Prop :=
  ∀ σ H, Sta K H0 ρ μ σ H → ∀ Q : List V → Hp → Prop, (∀ ds μ' vs H', k ds μ' → Fo K H0 ρ μ σ H μ' H' → RpA K (hid H' (keys μ')) vs ds → Q vs H') → ta σ H Q
def wpR (r : R2) (a b : Dv) (ρ : DEnv) (μ : DMem) (k : Dv → DMem → Prop) : Prop :=
  ∀ σ H x y, Sta K H0 ρ μ σ H → Rp K (hid H (keys μ)) x a → Rp K (hid H (keys μ)) y b → ∀ Q : VK, (∀ d μ' v H', k d μ' → Fo K H0 ρ μ σ H μ' H' → Rp K (hid H' (keys μ')) v d → Q v H') → r x y H Q
def wpU (r : V → Hp → VK → Prop) (a : Dv) (ρ : DEnv) (μ : DMem) (k : Dv → DMem → Prop) : Prop :=
  ∀ σ H x, Sta K H0 ρ μ σ H → Rp K (hid H (keys μ)) x a → ∀ Q : VK, (∀ d μ' v H', k d μ' → Fo K H0 ρ μ σ H μ' H' → Rp K (hid H' (keys μ')) v d → Q v H') → r x H Q
def wpC (r : List V → Hp → VK → Prop) (ds : List Dv) (ρ : DEnv) (μ : DMem) (k : Dv → DMem → Prop) : Prop :=
  ∀ σ H vs, Sta K H0 ρ μ σ H → RpA K (hid H (keys μ)) vs ds → ∀ Q : VK, (∀ d μ' v H', k d μ' → Fo K H0 ρ μ σ H μ' H' → Rp K (hid H' (keys μ')) v d → Q v H') → r vs H Q
structure Post where
  nx : DEnv → DMem → Prop
  rt : Dv → DMem → Prop
  bk : DEnv → DMem → Prop := fun _ _ => False
  ct : DEnv → DMem → Prop := fun _ _ => False
structure PostOk (P : Post) (D : Ends) : Prop where
  nx : ∀ ρ μ σ H, P.nx ρ μ → Sta K H0 ρ μ σ H → D.nx σ H
  rt : ∀ d μ v H, P.rt d μ → MemOk K H μ → Ge H0 (hid H (keys μ)) → Rp K (hid H (keys μ)) v d → D.rt v H
  bk : ∀ ρ μ σ H, P.bk ρ μ → Sta K H0 ρ μ σ H → D.bk σ H
  ct : ∀ ρ μ σ H, P.ct ρ μ → Sta K H0 ρ μ σ H → D.ct σ H
def wpS (ts : TS) (ρ : DEnv) (μ : DMem) (P : Post) : Prop := ∀ H1, Ge H0 H1 → ∀ σ H, Sta K H1 ρ μ σ H → ∀ D : Ends, PostOk K H1 P D → ts D σ H
end
section
variable {K : PySem.W.Frag} {H0 H1 H H' : Hp} {ρ : DEnv} {μ μ' : DMem} {σ : St} {te ta tb : TE} {k k' : Dv → DMem → Prop} {i j : Nat} {d e : Dv} {P : Post} {t u : TS}
theorem Fo.refl (S : Sta K H0 ρ μ σ H) : Fo K H0 ρ μ σ H μ H := ⟨S, Ge.refl _⟩
theorem Fo.trans {H2 : Hp} {μ2 : DMem} (a : Fo K H0 ρ μ σ H μ' H') (b : Fo K H0 ρ μ' σ H' μ2 H2) : Fo K H0 ρ μ σ H μ2 H2 := ⟨b.st, a.ge.trans b.ge⟩
theorem Fo.grow (S : Sta K H0 ρ μ σ H) (e : Ge H H') : Fo K H0 ρ μ σ H μ H' := ⟨S.go (S.mem.grow e) (hid_grow e), hid_grow e⟩
theorem PostOk.up {D : Ends} (h : PostOk K H0 P D) (g : Ge H0 H1) : PostOk K H1 P D :=
  ⟨fun ρ μ σ H p S => h.nx ρ μ σ H p (S.low g), fun d μ v H p M e r => h.rt d μ v H p M (g.trans e) r, fun ρ μ σ H p S => h.bk ρ μ σ H p (S.low g), fun ρ μ σ H p S => h.ct ρ μ σ H p (S.low g)⟩
theorem wpE.imp (h : wpE K H0 te ρ μ k) (q : ∀ d μ, k d μ → k' d μ) : wpE K H0 te ρ μ k' := fun σ H S Q hQ => h σ H S Q fun d μ' v H' hk => hQ d μ' v H' (q d μ' hk)
theorem wpE.up (h : wpE K H0 te ρ μ k) (g : Ge H0 H1) : wpE K H1 te ρ μ k := fun σ H S Q hQ => h σ H (S.low g) Q fun d μ' v H' hk F => hQ d μ' v H' hk ⟨S.go F.st.mem F.ge, F.ge⟩
/-! expressions -/
theorem wp_var (h : ρ[i]? = some (some d)) (q : k d μ) : wpE K H0 (tVar i) ρ μ k := fun σ H S Q hQ => by
  obtain ⟨v, h1, h2⟩ := S.sl i d h
  exact ⟨v, h1, hQ d μ v H q (Fo.refl S) h2⟩
theorem wp_int {n : Int} (q : k (.int n) μ) : wpE K H0 (tC (.int n)) ρ μ k := fun σ H S Q hQ => hQ _ μ _ H q (Fo.refl S) (.int n)
theorem wp_bl {n : Bool} (q : k (.bl n) μ) : wpE K H0 (tC (.bl n)) ρ μ k := fun σ H S Q hQ => hQ _ μ _ H q (Fo.refl S) (.bl n)
theorem wp_non (q : k .non μ) : wpE K H0 (tC .non) ρ μ k := fun σ H S Q hQ => hQ _ μ _ H q (Fo.refl S) .non
theorem wp_str {x : Str} (q : k (.str x.cps.toList) μ) : wpE K H0 (tC (.str x)) ρ μ k := fun σ H S Q hQ => hQ _ μ _ H q (Fo.refl S) (by
  have r : Rp K (hid H (keys μ)) (.str (sT x.cps.toList)) (.str x.cps.toList) := .str _
  rw [sT_cps] at r
  exact r)
theorem wp_op {r : R2} (h : wpE K H0 ta ρ μ fun a μ1 => wpE K H0 tb ρ μ1 fun b μ2 => wpR K H0 r a b ρ μ2 k) : wpE K H0 (tOp r ta tb) ρ μ k := fun σ H S Q hQ => by
  refine h σ H S _ fun a μ1 x H1 q1 F1 r1 => q1 σ H1 F1.st _ fun b μ2 y H2 q2 F2 r2 => ?_
  exact q2 σ H2 x y F2.st (r1.mono F2.ge) r2 Q fun d μ3 v H3 q3 F3 r3 => hQ d μ3 v H3 q3 (F1.trans (F2.trans F3)) r3
theorem wp_un {r : V → Hp → VK → Prop} (h : wpE K H0 ta ρ μ fun a μ1 => wpU K H0 r a ρ μ1 k) : wpE K H0 (tUn r ta) ρ μ k := fun σ H S Q hQ => by
  refine h σ H S _ fun a μ1 x H1 q1 F1 r1 => ?_
  exact q1 σ H1 x F1.st r1 Q fun d μ3 v H3 q3 F3 r3 => hQ d μ3 v H3 q3 (F1.trans F3) r3
theorem wp_nil {ka : List Dv → DMem → Prop} (q : ka [] μ) : wpA K H0 tNil ρ μ ka := fun σ H S Q hQ => hQ _ μ _ H q (Fo.refl S) .nil
theorem wp_cons {tr : TA} {ka : List Dv → DMem → Prop} (h : wpE K H0 ta ρ μ fun a μ1 => wpA K H0 tr ρ μ1 fun ds μ2 => ka (a :: ds) μ2) : wpA K H0 (tCons ta tr) ρ μ ka := fun σ H S Q hQ => by
  refine h σ H S _ fun a μ1 x H1 q1 F1 r1 => q1 σ H1 F1.st _ fun ds μ2 ys H2 q2 F2 r2 => ?_
  exact hQ _ μ2 _ H2 q2 (F1.trans F2) (.cons (r1.mono F2.ge) r2)
theorem wp_tup {ta : TA} (h : wpA K H0 ta ρ μ fun ds μ1 => ds.length ≤ sizeLine ∧ k (.tup ds) μ1) : wpE K H0 (tTup ta) ρ μ k := fun σ H S Q hQ => by
  refine h σ H S _ fun ds μ1 xs H1 q1 F1 r1 => ⟨by rw [r1.length]; exact q1.1, fun p hp => ?_⟩
  have G : Ge H1 (upd H1 p (.tup xs)) := fun a o h => by rw [upd_ne (ne_of_none h hp)]; exact h
  have F2 := Fo.grow F1.st G
  refine hQ _ μ1 _ _ q1.2 (F1.trans F2) (.tup ?_ (r1.mono F2.ge))
  rw [hid_of (F1.st.mem.fresh hp)]
  exact upd_same
/-- a new list, as data -/
theorem wp_lst {ta : TA} (h : wpA K H0 ta ρ μ fun ds μ1 => ds.length ≤ sizeLine ∧ k (.lst ds) μ1) : wpE K H0 (tLst ta) ρ μ k := fun σ H S Q hQ => by
  refine h σ H S _ fun ds μ1 xs H1 q1 F1 r1 => ⟨by rw [r1.length]; exact q1.1, fun p hp => ?_⟩
  have G : Ge H1 (upd H1 p (.lst xs)) := fun a o h => by rw [upd_ne (ne_of_none h hp)]; exact h
  have F2 := Fo.grow F1.st G
  refine hQ _ μ1 _ _ q1.2 (F1.trans F2) (.lst ?_ (r1.mono F2.ge))
  rw [hid_of (F1.st.mem.fresh hp)]
  exact upd_same
/-- a new list that is to change: a cell -/
theorem wp_lstC {ta : TA} (h : wpA K H0 ta ρ μ fun ds μ1 => ds.length ≤ sizeLine ∧ ∀ p, k (.ref p) ((p, .lst ds) :: μ1)) : wpE K H0 (tLst ta) ρ μ k := fun σ H S Q hQ => by
  refine h σ H S _ fun ds μ1 xs H1 q1 F1 r1 => ⟨by rw [r1.length]; exact q1.1, fun p hp => ?_⟩
  have g := hid_cell (μ := μ1) (c := .lst ds) (o := .lst xs) hp
  have M := F1.st.mem.cell (c := .lst ds) (o := .lst xs) hp ⟨xs, upd_same, r1.mono g⟩
  exact hQ _ _ _ _ (q1.2 p) (F1.trans ⟨F1.st.go M g, g⟩) (.ref p)
theorem wp_cb {r : List V → Hp → VK → Prop} {ta : TA} (h : wpA K H0 ta ρ μ fun ds μ1 => wpC K H0 r ds ρ μ1 k) : wpE K H0 (tCB r ta) ρ μ k := fun σ H S Q hQ => by
  refine h σ H S _ fun ds μ1 xs H1 q1 F1 r1 => ?_
  exact q1 σ H1 xs F1.st r1 Q fun d μ3 v H3 q3 F3 r3 => hQ d μ3 v H3 q3 (F1.trans F3) r3
/-! tests -/
variable {kb : Bool → DMem → Prop} {tt tu : TT}
theorem wp_test (h : wpE K H0 te ρ μ fun d μ1 => ∃ b, d = .bl b ∧ kb b μ1) : wpT K H0 (tTest te) ρ μ kb := fun σ H S Q hQ => by
  refine h σ H S _ fun d μ1 v H1 q F r => ?_
  obtain ⟨b, rfl, q⟩ := q
  exact ⟨b, r.bl_inv, hQ b μ1 H1 q F⟩
theorem wp_tB (h : wpE K H0 te ρ μ fun d μ1 => ∃ b, d = .bl b ∧ kb b μ1) : wpT K H0 (tB te) ρ μ kb := fun σ H S Q hQ => by
  refine h σ H S _ fun d μ1 v H1 q F r => ?_
  obtain ⟨b, rfl, q⟩ := q
  exact ⟨b, r.bl_inv, hQ b μ1 H1 q F⟩
theorem wp_and (h : wpT K H0 tt ρ μ fun b μ1 => if b = true then wpT K H0 tu ρ μ1 kb else kb false μ1) : wpT K H0 (tAnd tt tu) ρ μ kb := fun σ H S Q hQ => by
  refine h σ H S _ fun b μ1 H1 q F => ?_
  cases b with
  | true => exact (show wpT K H0 tu ρ μ1 kb from q) σ H1 F.st Q fun b μ2 H2 q2 F2 => hQ b μ2 H2 q2 (F.trans F2)
  | false => exact hQ false μ1 H1 q F
theorem wp_or (h : wpT K H0 tt ρ μ fun b μ1 => if b = true then kb true μ1 else wpT K H0 tu ρ μ1 kb) : wpT K H0 (tOr tt tu) ρ μ kb := fun σ H S Q hQ => by
  refine h σ H S _ fun b μ1 H1 q F => ?_
  cases b with
  | false => exact (show wpT K H0 tu ρ μ1 kb from q) σ H1 F.st Q fun b μ2 H2 q2 F2 => hQ b μ2 H2 q2 (F.trans F2)
  | true => exact hQ true μ1 H1 q F
theorem wp_not (h : wpT K H0 tt ρ μ fun b μ1 => kb (!b) μ1) : wpT K H0 (tNot tt) ρ μ kb := fun σ H S Q hQ => h σ H S _ fun b μ1 H1 q F => hQ _ μ1 H1 q F
theorem wp_yes (h : kb true μ) : wpT K H0 tYes ρ μ kb := fun σ H S Q hQ => hQ true μ H h (Fo.refl S)
/-! and, or, not as values of bools -/
theorem wp_andV (h : wpE K H0 ta ρ μ fun a μ1 => ∃ c, a = .bl c ∧ if c = true then wpE K H0 tb ρ μ1 k else k (.bl false) μ1) : wpE K H0 (tAndV ta tb) ρ μ k := fun σ H S Q hQ => by
  refine h σ H S _ fun a μ1 x H1 q F r => ?_
  obtain ⟨c, rfl, q⟩ := q
  refine ⟨c, r.bl_inv, ?_⟩
  cases c with
  | true => exact (show wpE K H0 tb ρ μ1 k from q) σ H1 F.st Q fun b μ2 v H2 q2 F2 => hQ b μ2 v H2 q2 (F.trans F2)
  | false => exact hQ _ μ1 _ H1 q F (.bl false)
theorem wp_orV (h : wpE K H0 ta ρ μ fun a μ1 => ∃ c, a = .bl c ∧ if c = true then k (.bl true) μ1 else wpE K H0 tb ρ μ1 k) : wpE K H0 (tOrV ta tb) ρ μ k := fun σ H S Q hQ => by
  refine h σ H S _ fun a μ1 x H1 q F r => ?_
  obtain ⟨c, rfl, q⟩ := q
  refine ⟨c, r.bl_inv, ?_⟩
  cases c with
  | false => exact (show wpE K H0 tb ρ μ1 k from q) σ H1 F.st Q fun b μ2 v H2 q2 F2 => hQ b μ2 v H2 q2 (F.trans F2)
  | true => exact hQ _ μ1 _ H1 q F (.bl true)
theorem wp_notV (h : wpE K H0 ta ρ μ fun a μ1 => ∃ c, a = .bl c ∧ k (.bl !c) μ1) : wpE K H0 (tNotV ta) ρ μ k := fun σ H S Q hQ => by
  refine h σ H S _ fun a μ1 x H1 q F r => ?_
  obtain ⟨c, rfl, q⟩ := q
  exact ⟨c, r.bl_inv, hQ _ μ1 _ H1 q F (.bl _)⟩
/-! statements -/
theorem wpS.imp {P' : Post} (h : wpS K H0 t ρ μ P) (n : ∀ ρ μ, P.nx ρ μ → P'.nx ρ μ) (r : ∀ d μ, P.rt d μ → P'.rt d μ) (b : ∀ ρ μ, P.bk ρ μ → P'.bk ρ μ) (c : ∀ ρ μ, P.ct ρ μ → P'.ct ρ μ) : wpS K H0 t ρ μ P' :=
  fun H1 g σ H S D O => h H1 g σ H S D ⟨fun ρ μ σ H p => O.nx ρ μ σ H (n ρ μ p), fun d μ v H p => O.rt d μ v H (r d μ p), fun ρ μ σ H p => O.bk ρ μ σ H (b ρ μ p), fun ρ μ σ H p => O.ct ρ μ σ H (c ρ μ p)⟩
theorem wpS.up (h : wpS K H0 t ρ μ P) (g : Ge H0 H1) : wpS K H1 t ρ μ P := fun H2 g2 => h H2 (g.trans g2)
theorem wp_seq (h : wpS K H0 t ρ μ { P with nx := fun ρ' μ' => wpS K H0 u ρ' μ' P }) : wpS K H0 (tSeq t u) ρ μ P := fun H1 g σ H S D O =>
  h H1 g σ H S { D with nx := u D } ⟨fun ρ' μ' σ' H' p S' => p H1 g σ' H' S' D O, O.rt, O.bk, O.ct⟩
theorem wp_next (h : P.nx ρ μ) : wpS K H0 tNext ρ μ P := fun H1 g σ H S D O => O.nx ρ μ σ H h S
theorem wp_brk (h : P.bk ρ μ) : wpS K H0 tBreak ρ μ P := fun H1 g σ H S D O => O.bk ρ μ σ H h S
theorem wp_cont (h : P.ct ρ μ) : wpS K H0 tCont ρ μ P := fun H1 g σ H S D O => O.ct ρ μ σ H h S
theorem Fo.up {H2 : Hp} (F : Fo K H0 ρ μ σ H μ' H') (S : Sta K H2 ρ μ σ H) : Sta K H2 ρ μ' σ H' := S.go F.st.mem F.ge
theorem wp_set (h : wpE K H0 te ρ μ fun d μ1 => P.nx (ρ.set i (some d)) μ1) : wpS K H0 (tAsg te (gName i)) ρ μ P := fun H1 g σ H S D O =>
  h σ H (S.low g) _ fun d μ1 v H2 q F r => O.nx _ _ _ _ q ((F.up S).set r i)
theorem wp_drop (h : wpE K H0 te ρ μ fun _ μ1 => P.nx ρ μ1) : wpS K H0 (tDrop te) ρ μ P := fun H1 g σ H S D O =>
  h σ H (S.low g) _ fun d μ1 v H2 q F r => O.nx _ _ _ _ q (F.up S)
theorem wp_ret (h : wpE K H0 te ρ μ P.rt) : wpS K H0 (tRet te) ρ μ P := fun H1 g σ H S D O =>
  h σ H (S.low g) _ fun d μ1 v H2 q F r => O.rt d μ1 v H2 q F.st.mem (F.up S).ge r
theorem wp_retN (h : P.rt .non μ) : wpS K H0 tRetN ρ μ P := fun H1 g σ H S D O => O.rt .non μ _ H h S.mem S.ge .non
theorem wp_if (h : wpT K H0 tt ρ μ fun b μ1 => if b = true then wpS K H0 t ρ μ1 P else wpS K H0 u ρ μ1 P) : wpS K H0 (tIfS tt t u) ρ μ P := fun H1 g σ H S D O =>
  h σ H (S.low g) _ fun b μ1 H2 q F => by
    cases b with
    | true => exact (show wpS K H0 t ρ μ1 P from q) H1 g σ H2 (F.up S) D O
    | false => exact (show wpS K H0 u ρ μ1 P from q) H1 g σ H2 (F.up S) D O
theorem wp_while {Inv : Nat → DEnv → DMem → Prop} (h0 : ∃ m, Inv m ρ μ)
    (hs : ∀ m ρ μ, Inv m ρ μ → wpT K H0 tt ρ μ fun b μ1 => if b = true then wpS K H0 t ρ μ1 { P with nx := fun ρ' μ' => ∃ m', m' < m ∧ Inv m' ρ' μ', ct := fun ρ' μ' => ∃ m', m' < m ∧ Inv m' ρ' μ', bk := P.nx } else P.nx ρ μ1) :
    wpS K H0 (tWhile tt t) ρ μ P := fun H1 g σ H S D O => by
  obtain ⟨m0, h0⟩ := h0
  refine ⟨fun m σ H => ∃ ρ μ, Inv m ρ μ ∧ Sta K H1 ρ μ σ H, ⟨m0, ρ, μ, h0, S⟩, fun m σ H ⟨ρ, μ, q, S⟩ => ?_⟩
  refine hs m ρ μ q σ H (S.low g) _ fun b μ1 H2 q F => ?_
  have S2 := F.up S
  cases b with
  | true =>
    refine ⟨fun σ' H' => ∃ m', m' < m ∧ ∃ ρ μ, Inv m' ρ μ ∧ Sta K H1 ρ μ σ' H', fun σ' H' ⟨m', h, z⟩ => ⟨m', h, z⟩, ?_⟩
    refine (show wpS K H0 t ρ μ1 _ from q) H1 g σ H2 S2 _ ⟨fun ρ' μ' σ' H' ⟨m', h, z⟩ S' => ⟨m', h, ρ', μ', z, S'⟩, O.rt, O.nx, fun ρ' μ' σ' H' ⟨m', h, z⟩ S' => ⟨m', h, ρ', μ', z, S'⟩⟩
  | false => exact O.nx _ _ _ _ q S2
end
end DL
/-! DLb: calls, defs, walks, comprehensions, loops, cells. -/
namespace DL
open PySem PySem.Spec PyProof.Rows L2
section
variable {K : PySem.W.Frag} {H0 H1 H H' : Hp} {ρ : DEnv} {μ μ' μa μb : DMem} {σ : L2.St} {te ta tb to : TE} {k k' : Dv → DMem → Prop} {i j : Nat} {d e : Dv} {P : Post} {t u tS : TS} {p : Addr} {c : DCell} {ds : List Dv}
/-! ### cells -/
theorem keys_mid : keys (μa ++ (p, c) :: μb) = keys μa ++ p :: keys μb := by simp [keys]
theorem mem_mid : (p, c) ∈ μa ++ (p, c) :: μb := by simp
theorem hid_less {O O' : List Addr} (h : ∀ a, a ∈ O' → a ∈ O) : Ge (hid H O) (hid H O') := fun a o e => by
  obtain ⟨h1, h2⟩ := hid_some e
  rw [hid_of fun z => h1 (h a z)]
  exact h2
/-- a cell of a list becomes data -/
theorem Sta.frz (S : Sta K H0 ρ (μa ++ (p, .lst ds) :: μb) σ H) : Fo K H0 ρ (μa ++ (p, .lst ds) :: μb) σ H (μa ++ μb) H ∧ Rp K (hid H (keys (μa ++ μb))) (.ref p) (.lst ds) := by
  have sub : ∀ a, a ∈ keys (μa ++ μb) → a ∈ keys (μa ++ (p, DCell.lst ds) :: μb) := fun a h => by
    simp only [keys, List.map_append, List.map_cons, List.mem_append, List.mem_cons] at h ⊢
    rcases h with h | h
    · exact .inl h
    · exact .inr (.inr h)
  have g := hid_less (H := H) sub
  have nd := S.mem.nd
  have np : p ∉ keys (μa ++ μb) := by
    rw [keys_mid] at nd
    have h2 := List.nodup_append.mp nd
    have h3 := List.nodup_cons.mp h2.2.1
    intro h
    simp only [keys, List.map_append, List.mem_append] at h
    rcases h with h | h
    · exact h2.2.2 p h p List.mem_cons_self rfl
    · exact h3.1 h
  have M : MemOk K H (μa ++ μb) := by
    refine ⟨?_, fun c hc => ?_⟩
    · have e : keys (μa ++ μb) = keys μa ++ keys μb := by simp [keys]
      rw [e]
      rw [keys_mid] at nd
      exact nd.sublist (List.Sublist.append (List.Sublist.refl _) (List.sublist_cons_self _ _))
    · refine (S.mem.ok c ?_).to rfl g
      rcases List.mem_append.mp hc with h | h
      · exact List.mem_append_left _ h
      · exact List.mem_append_right _ (List.mem_cons_of_mem _ h)
  refine ⟨⟨S.go M g, g⟩, ?_⟩
  obtain ⟨vs, h1, h2⟩ := S.mem.ok (p, .lst ds) mem_mid
  exact .lst (by rw [hid_of np]; exact h1) (h2.mono g)
/-- a cell's content changes -/
theorem MemOk.upd {c' : DCell} {o : HO} (M : MemOk K H (μa ++ (p, c) :: μb)) (h : CellOk K (L2.upd H p o) (keys (μa ++ (p, c') :: μb)) p c') : MemOk K (L2.upd H p o) (μa ++ (p, c') :: μb) ∧ Ge (hid H (keys (μa ++ (p, c) :: μb))) (hid (L2.upd H p o) (keys (μa ++ (p, c') :: μb))) := by
  have ek : keys (μa ++ (p, c') :: μb) = keys (μa ++ (p, c) :: μb) := by rw [keys_mid, keys_mid]
  have nd := M.nd
  have g : Ge (hid H (keys (μa ++ (p, c) :: μb))) (hid (L2.upd H p o) (keys (μa ++ (p, c') :: μb))) := fun a u e => by
    obtain ⟨h1, h2⟩ := hid_some e
    have ne : a ≠ p := fun z => h1 (by rw [z, keys_mid]; simp)
    rw [ek, hid_of h1, upd_ne ne]
    exact h2
  refine ⟨⟨by rw [ek]; exact nd, fun c1 hc => ?_⟩, g⟩
  rw [keys_mid] at nd
  have h2 := List.nodup_append.mp nd
  have h3 := List.nodup_cons.mp h2.2.1
  rcases List.mem_append.mp hc with hm | hm
  · have ne : c1.1 ≠ p := fun z => h2.2.2 c1.1 (List.mem_map_of_mem hm) p List.mem_cons_self z
    exact (M.ok c1 (List.mem_append_left _ hm)).to (upd_ne ne) g
  · rcases List.mem_cons.mp hm with rfl | hm
    · exact h
    · have ne : c1.1 ≠ p := fun z => h3.1 (by rw [← z]; exact List.mem_map_of_mem hm)
      exact (M.ok c1 (List.mem_append_right _ (List.mem_cons_of_mem _ hm))).to (upd_ne ne) g
/-- the list in slot i, a cell, becomes data -/
theorem wp_frz (μa μb : DMem) (hm : μ = μa ++ (p, .lst ds) :: μb) (hi : ρ[i]? = some (some (.ref p))) (h : wpS K H0 t (ρ.set i (some (.lst ds))) (μa ++ μb) P) : wpS K H0 t ρ μ P := fun H1 g σ H S D O => by
  subst hm
  obtain ⟨F, r⟩ := S.frz
  obtain ⟨v, h1, h2⟩ := S.sl i _ hi
  have ev := h2.ref_inv
  subst ev
  have S2 := F.st.set r i
  have es : σ.set i (some (.ref p)) = σ := by
    apply List.ext_getElem?
    intro n
    by_cases hn : i = n
    · subst hn
      rw [List.getElem?_set_self (by have := (List.getElem?_eq_some_iff.mp h1).1; exact this), h1]
    · rw [List.getElem?_set_ne hn]
  rw [es] at S2
  exact h H1 g σ H S2 D O
/-- a list: data or a cell -/
def IsL (μ : DMem) (d : Dv) (ds : List Dv) : Prop := d = .lst ds ∨ ∃ p, d = .ref p ∧ (p, DCell.lst ds) ∈ μ
theorem isL_d : IsL μ (.lst ds) ds := .inl rfl
theorem isL_c (h : (p, DCell.lst ds) ∈ μ) : IsL μ (.ref p) ds := .inr ⟨p, rfl, h⟩
theorem IsL.at {v : V} (h : IsL μ d ds) (M : MemOk K H μ) (r : Rp K (hid H (keys μ)) v d) : ∃ p vs, v = .ref p ∧ H p = some (.lst vs) ∧ RpA K (hid H (keys μ)) vs ds := by
  rcases h with rfl | ⟨p, rfl, hm⟩
  · obtain ⟨a, xs, rfl, h1, h2⟩ := r.lst_inv
    exact ⟨a, xs, rfl, (hid_some h1).2, h2⟩
  · obtain ⟨vs, h1, h2⟩ := M.ok _ hm
    exact ⟨p, vs, r.ref_inv, h1, h2⟩
theorem Rp.tupAt {v : V} (r : Rp K (hid H (keys μ)) v (.tup ds)) : ∃ p vs, v = .ref p ∧ H p = some (.tup vs) ∧ RpA K (hid H (keys μ)) vs ds := by
  obtain ⟨a, xs, rfl, h1, h2⟩ := r.tup_inv
  exact ⟨a, xs, rfl, (hid_some h1).2, h2⟩
/-- xs.append(e), xs a cell -/
theorem wp_app (h : wpE K H0 to ρ μ fun o μ1 => ∃ p, o = .ref p ∧ (∃ ds0, (p, DCell.lst ds0) ∈ μ1) ∧ wpE K H0 te ρ μ1 fun d μ2 => ∃ μa ds μb, μ2 = μa ++ (p, .lst ds) :: μb ∧ ds.length < sizeLine ∧ k .non (μa ++ (p, .lst (ds ++ [d])) :: μb)) :
    wpE K H0 (tBM K "list" rAppend to (tCons te tNil)) ρ μ k := fun σ H S Q hQ => by
  refine h σ H S _ fun o μ1 v H1 q F r => ?_
  obtain ⟨p, rfl, ⟨ds0, hm⟩, q⟩ := q
  obtain ⟨vs0, h1, _⟩ := F.st.mem.ok _ hm
  have ev := r.ref_inv
  subst ev
  refine ⟨.inl ⟨rfl, vs0, .inl (.inl h1)⟩, ?_⟩
  refine q σ H1 F.st _ fun d μ2 y H2 q2 F2 r2 => ?_
  obtain ⟨μa, ds, μb, rfl, hl, q3⟩ := q2
  obtain ⟨vs, e1, e2⟩ := F2.st.mem.ok (p, .lst ds) mem_mid
  refine ⟨p, vs, y, rfl, rfl, e1, by rw [e2.length]; exact hl, ?_⟩
  have ek : keys (μa ++ (p, DCell.lst (ds ++ [d])) :: μb) = keys (μa ++ (p, DCell.lst ds) :: μb) := by rw [keys_mid, keys_mid]
  have g0 : Ge (hid H2 (keys (μa ++ (p, DCell.lst ds) :: μb))) (hid (L2.upd H2 p (.lst (vs ++ [y]))) (keys (μa ++ (p, DCell.lst (ds ++ [d])) :: μb))) := fun a u e => by
    obtain ⟨z1, z2⟩ := hid_some e
    have ne : a ≠ p := fun z => z1 (by rw [z, keys_mid]; simp)
    rw [ek, hid_of z1, upd_ne ne]
    exact z2
  obtain ⟨M, g⟩ := F2.st.mem.upd (c' := .lst (ds ++ [d])) (o := .lst (vs ++ [y])) ⟨vs ++ [y], upd_same, (e2.mono g0).append (.cons (r2.mono g0) .nil)⟩
  exact hQ _ _ _ _ q3 (F.trans (F2.trans ⟨F2.st.go M g, g⟩)) .non
/-! ### fields of a cell -/
theorem FsR.look : ∀ {vs : List (Str × V)} {fs : List (Str × Dv)} {f : Str}, FsR K H vs fs → fs.lookup f = some d → ∃ v, vs.lookup f = some v ∧ Rp K H v d
  | _, _, _, .nil, e => by simp at e
  | _, _, f, .cons (f := g) r t, e => by
    rw [List.lookup_cons] at e ⊢
    by_cases hg : (f == g) = true
    · rw [hg] at e ⊢
      cases e
      exact ⟨_, rfl, r⟩
    · have hg' : (f == g) = false := by simpa using hg
      rw [hg'] at e ⊢
      exact FsR.look t e
theorem wp_fld {f : Str} (h : wpE K H0 ta ρ μ fun o μ1 => ∃ a C dx fs d, o = .ref a ∧ (a, DCell.ins C dx fs) ∈ μ1 ∧ Cls K C ∧ NoAttr K C f ∧ fs.lookup f = some d ∧ k d μ1) : wpE K H0 (tFld K ta f) ρ μ k := fun σ H S Q hQ => by
  refine h σ H S _ fun o μ1 v H1 q F r => ?_
  obtain ⟨a, C, dx, fs, d, rfl, hm, hc, hn, hl, q⟩ := q
  obtain ⟨vs, e1, e2⟩ := F.st.mem.ok _ hm
  obtain ⟨u, l1, l2⟩ := e2.look hl
  exact ⟨a, C, dx, vs, u, r.ref_inv, e1, hc, hn, l1, hQ d μ1 u H1 q F l2⟩
end

/-! ### defs -/
abbrev Spc := List Dv → DMem → (Dv → DMem → Prop) → (Str → DMem → Prop) → Prop
/-- the promise of a def, told over data: S arguments memory (what follows) (what is raised) -/
def spOf (K : PySem.W.Frag) (mg : Str → Option Value) (n : Nat) (S : Spc) : Sp := fun vs H Q E => ∃ ds μ k ex, ds.length = n ∧ RpA K (hid H (keys μ)) vs ds ∧ MemOk K H μ ∧ S ds μ k ex ∧
  (∀ d μ' v H', k d μ' → MemOk K H' μ' → Ge (hid H (keys μ)) (hid H' (keys μ')) → Rp K (hid H' (keys μ')) v d → Q v H') ∧
  (∀ c C μ' H', ex c μ' → mg c = some (Value.ref C) → MemOk K H' μ' → Ge (hid H (keys μ)) (hid H' (keys μ')) → E (.ref C) none H')
/-- room for m calls, one in the other: a call takes one of depth and three units -/
structure Rm (m : Nat) (A : Around) : Prop where
  hd : A.handled = none
  dp : A.depth + m + 8 < recursionLimit
  un : A.units + 5 * m + 250 < cLine
theorem Rm.mono {j m : Nat} {A : Around} (r : Rm m A) (h : j ≤ m) : Rm j A := by
  obtain ⟨a, b, c⟩ := r
  exact ⟨a, by omega, by omega⟩
theorem Rm.room {m : Nat} {A : Around} (r : Rm m A) : Room 0 A := by
  obtain ⟨a, b, c⟩ := r
  exact ⟨a, by omega, by omega⟩
theorem Rm.units {m : Nat} {A : Around} (r : Rm m A) : A.units + 64 < cLine := by
  have := r.un
  omega
theorem Rm.below {m : Nat} {A : Around} (r : Rm (m + 1) A) (v : Env) : Rm m (A.deeper v) := by
  obtain ⟨a, b, c⟩ := r
  refine ⟨a, ?_, ?_⟩
  · show A.depth + 1 + m + 8 < _
    omega
  · show A.units + 3 + 5 * m + 250 < _
    omega
theorem rm_of {j m : Nat} {A : Around} (r : Room j A) (h : m + 3 ≤ 3 * j) (h2 : 5 * m + 50 ≤ 16 * j) : Rm m A := by
  obtain ⟨a, b, c⟩ := r
  exact ⟨a, by omega, by omega⟩
/-- what a def keeps, where there is room for m calls -/
structure FnD (P : Program) (w : World) (K : PySem.W.Frag) (mg : Str → Option Value) (base : Heap) (m : Nat) (f : Addr) (fd : FuncData) (ps : List Str) (sp : Sp) : Prop where
  ln : ∀ vs H Q E, sp vs H Q E → vs.length = ps.length
  go : ∀ (A : Around) (out : List Env) (s : Shared) (H : Hp) (as : Args) (us : List Value) (vs : List V) (Q : VK) (E : XK), Rm m A → Env0 P w K mg base A out s H → BindsTo s fd as (ps.zip us) → Vals vs us → sp vs H Q E →
    codeAny (model P w) A (.call (.ref f) as) (CR (L2.CX P w) out P w H s Q E) s
theorem FnD.ok {P : Program} {w : World} {K : PySem.W.Frag} {mg : Str → Option Value} {base : Heap} {m j : Nat} {f : Addr} {fd : FuncData} {ps : List Str} {sp : Sp} (F : FnD P w K mg base m f fd ps sp) (h : m + 3 ≤ 3 * j) (h2 : 5 * m + 50 ≤ 16 * j) : FnOk P w K mg base (L2.CX P w) j f fd ps sp :=
  ⟨F.ln, fun A out s H as us vs Q E r => F.go A out s H as us vs Q E (rm_of r h h2)⟩
/-- a def by its body -/
theorem fnD_of {P : Program} {w : World} {K : PySem.W.Frag} {mg : Str → Option Value} {base : Heap} {x qual : Str} {st : Stmt} {f : Addr} {fd : FuncData} {N ps : List Str} {m : Nat} {sp : Sp} (F : Fun K x qual st f fd) (Sc : FnScope N ps (defScope st)) (ln : ∀ vs H Q E, sp vs H Q E → vs.length = ps.length)
    (hb : ∀ (cdv : Value) (A : Around) (out : List Env) (s : Shared) (H : Hp) (vs : List V) (Q : VK) (E : XK), Rm m (A.deeper (envOfC qual (defScope st) s.heap.objs.size f cdv)) → sp vs H Q E →
      ∃ t, PSs (cxOf (L2.CX P w) P w K mg base N qual (defScope st) f cdv A out s H E) (defBody st) t ∧ t { nx := fun _ H' => Q .non H', rt := Q } (start N vs) H) : FnD P w K mg base (m + 1) f fd ps sp := by
  obtain ⟨oc, od, kV, doc, pm, an, cdv, ct, osl, e, lk, cd⟩ := F.ex
  subst e
  refine ⟨ln, fun A out s H as us vs Q E hr he hbd hv hs => ?_⟩
  have hlen := ln vs H Q E hs
  have inK : K.In s.heap := he.mod.kin.keeps fun a o z => (he.bs a o z).1
  have noL : s.heap.NoLimit := he.mod.nolimit.keeps fun a o z => (he.bs a o z).1
  have kinds : ∀ q ∈ ps.zip us, (defScope st).names.lookup q.1 = some .local ∨ ((defScope st).names.lookup q.1 = some .cell ∧ ((cellsFrom (s.heap.objs.size + 1) (defScope st).names []).lookup q.1).isSome = true) := by
    rintro ⟨a, b⟩ hq
    have hin := (List.of_mem_zip hq).1
    cases Sc.par a hin with
    | inl z => exact .inl z
    | inr z => exact .inr ⟨z, PySem.W.cellsFrom_some _ _ _ (.inl z)⟩
  have hdep : A.depth < recursionLimit := by
    have := hr.dp
    omega
  refine codeAny_call_function hdep (inK _ _ lk) rfl Sc.co Sc.gen rfl (PySem.W.codeRec_of inK cd) (hbd _ _ _ _ ?_)
  refine wpAny_newFunctionEnv_cells Sc.kind kinds fun env z s1 ic => ?_
  subst z
  refine ⟨noL.keeps ic.toInCall.keep, codeAny_func ?_⟩
  obtain ⟨t, p1, p2⟩ := hb cdv A out s H vs Q E (hr.below _) hs
  have J0 : Inv (cxOf (L2.CX P w) P w K mg base N qual (defScope st) f cdv A out s H E) [] (start N vs) H s1 := inv_start Sc hr.hd he hlen hv ic
  refine wpAny_mono (p1.run [] s1 (start N vs) H _ J0 p2) (fun fl s2 z => ?_) (fun _ _ z => z)
  cases fl with
  | brk => exact (z.elim fun _ z => z.elim fun _ z => z.2).elim
  | cont => exact (z.elim fun _ z => z.elim fun _ z => z.2).elim
  | next =>
    obtain ⟨σ2, H2, J, q⟩ := z
    exact ⟨.non, H2, J.os, J.bare, J.base, J.hok, rfl, q⟩
  | ret u =>
    obtain ⟨v, σ2, H2, J, rv, q⟩ := z
    exact ⟨v, H2, J.os, J.bare, J.base, J.hok, rv, q⟩
/-- its call -/
theorem pe_fnD {X : Cx} {m : Nat} {f : Addr} {fd : FuncData} {ps : List Str} {sp : Sp} {E : L2.St → XK} {x : Str} {p pos : Pos} {e : Expr} {es : List Expr} {t : TA} (F : FnD X.prog X.w X.K X.mg X.base m f fd ps sp) (hr : Rm m X.A) (hg : Gl X x) (hm : X.mg x = some (.ref f)) (hk : PySem.W.keepIn X.K (.ref f) = true) (hb : Binds X.K fd ps []) (hx : ∀ σ, PassesAt (L2.CX X.prog X.w) X σ (E σ))
    (ha : PA X (e :: es) t) (hdb : (x == ("__debug__" : Str)) = false) (he : starEach (e :: es) X.env = (false, eval e X.env) :: starEach es X.env) (hpl : (backTo pos (starEach es X.env)).any (·.1) = false) : PE X (.Call (.Name x p) (e :: es) [] pos) (tCallS sp E t) := by
  constructor
  intro pins s σ H Q I h
  refine wpAny_Call_Name_kw (ld_glob I hg hm ?_ hdb)
  refine PySem.W.callWith_K (h₀ := X.base) I.ok.mod.kin hk (thn (ha.run pos pins s σ H _ I h) fun us s1 z => ?_) he hpl
  obtain ⟨vs, H1, I1, rv, q⟩ := z
  refine ⟨I1.kIn, ?_⟩
  have hlen : us.length = ps.length := by
    rw [← rv.length]
    exact F.ln _ _ _ _ q
  have bd := hb s1 us I1.kIn (by rw [List.append_nil]; exact hlen)
  rw [List.append_nil] at bd
  refine wpAny_call (codeAny_mono (F.go X.A X.stack s1 H1 ⟨us, []⟩ us vs Q (E σ) hr I1.env0 bd rv q) fun r s2 z => ?_)
  cases r with
  | error ev => exact hx σ pins H1 s1 ev s2 I1 z
  | ok fl =>
    cases fl with
    | ret u => exact I1.after z
    | next => exact z.elim
    | brk => exact z.elim
    | cont => exact z.elim
structure Df (P : Program) (w : World) (K : PySem.W.Frag) (mg : Str → Option Value) (base : Heap) (k : Nat) (x : Str) (ps : List Str) (S : Spc) : Prop where
  ex : ∃ f fd, FnD P w K mg base k f fd ps (spOf K mg ps.length S) ∧ mg x = some (.ref f) ∧ PySem.W.keepIn K (.ref f) = true ∧ Binds K fd ps []
/-- what may be raised here -/
def Wok (K : PySem.W.Frag) (H0 : Hp) (mg : Str → Option Value) (W : WX) (ex : Str → DEnv → DMem → Prop) : Prop :=
  ∀ c C ρ μ σ H, ex c ρ μ → mg c = some (Value.ref C) → Sta K H0 ρ μ σ H → W (.ref C) none σ H
def noEx : Str → DEnv → DMem → Prop := fun _ _ _ => False
theorem wok0 {K : PySem.W.Frag} {H0 : Hp} {mg : Str → Option Value} {W : WX} : Wok K H0 mg W noEx := fun _ _ _ _ _ _ h => h.elim
section
variable {X : Cx} {k : Nat} {x : Str} {ps : List Str} {S : Spc} {W : WX} {e : Expr} {es : List Expr} {p pos : Pos} {t : TA}
theorem pe_df (F : Df X.prog X.w X.K X.mg X.base k x ps S) (hr : Rm k X.A) (tk : Takes X W) (hg : Gl X x)
    (ha : PA X (e :: es) t) (hdb : (x == ("__debug__" : Str)) = false := by decide) (he : starEach (e :: es) X.env = (false, eval e X.env) :: starEach es X.env := by rfl) (hpl : (backTo pos (starEach es X.env)).any (·.1) = false := by rfl) :
    PE X (.Call (.Name x p) (e :: es) [] pos) (tCallS (spOf X.K X.mg ps.length S) (WE W) t) := by
  obtain ⟨f, fd, F, hm, hk, hb⟩ := F.ex
  exact pe_fnD F hr hg hm hk hb (fun σ => passAt tk σ) ha hdb he hpl
end
section
variable {K : PySem.W.Frag} {mg : Str → Option Value} {H0 : Hp} {ρ : DEnv} {μ : DMem} {k : Dv → DMem → Prop} {W : WX} {ex : Str → DEnv → DMem → Prop} {S : Spc} {ta : TA} {n : Nat}
theorem wp_call (hW : Wok K H0 mg W ex) (h : wpA K H0 ta ρ μ fun ds μ1 => ds.length = n ∧ S ds μ1 k (fun c μ2 => ex c ρ μ2)) : wpE K H0 (tCallS (spOf K mg n S) (WE W) ta) ρ μ k := fun σ H St Q hQ => by
  refine h σ H St _ fun ds μ1 vs H1 q F r => ?_
  exact ⟨ds, μ1, k, fun c μ2 => ex c ρ μ2, q.1, r, F.st.mem, q.2, fun d μ' v H' hk M g r' => hQ d μ' v H' hk (F.trans ⟨F.st.go M g, g⟩) r', fun c C μ' H' he hm M g => hW c C ρ μ' σ H' he hm (F.st.go M g)⟩
end
/-- at a def's start -/
def envOf (N : List Str) (ds : List Dv) : DEnv := ds.map some ++ List.replicate (N.length - ds.length) none
theorem envOf_c {x : Str} {N : List Str} {d : Dv} {ds : List Dv} : envOf (x :: N) (d :: ds) = some d :: envOf N ds := by simp [envOf]
theorem envOf_m {x : Str} {N : List Str} : envOf (x :: N) [] = none :: envOf N [] := by simp [envOf, List.replicate_succ]
theorem envOf_n : envOf [] [] = [] := rfl
theorem iteD {c A B : Prop} [Decidable c] (h1 : c → A) (h2 : ¬ c → B) : if decide c = true then A else B := by
  by_cases h : c
  · rw [decide_eq_true h]
    exact h1 h
  · rw [decide_eq_false h]
    exact h2 h
theorem iteND {c A B : Prop} [Decidable c] (h1 : ¬ c → A) (h2 : c → B) : if (!decide c) = true then A else B := by
  by_cases h : c
  · rw [decide_eq_true h]
    exact h2 h
  · rw [decide_eq_false h]
    exact h1 h
theorem iteB {b : Bool} {A B : Prop} (h1 : b = true → A) (h2 : b = false → B) : if b = true then A else B := by
  cases b with
  | true => exact h1 rfl
  | false => exact h2 rfl
theorem sta_start {K : PySem.W.Frag} {H : Hp} {μ : DMem} {vs : List V} {ds : List Dv} {N : List Str} (r : RpA K (hid H (keys μ)) vs ds) (M : MemOk K H μ) : Sta K (hid H (keys μ)) (envOf N ds) μ (L2.start N vs) H := by
  have hl := r.length
  refine ⟨M, Ge.refl _, by simp [envOf, L2.start, hl], fun i d h => ?_⟩
  unfold envOf at h
  unfold L2.start
  by_cases hi : i < ds.length
  · rw [List.getElem?_append_left (by rw [List.length_map]; exact hi), List.getElem?_map] at h
    rw [List.getElem?_append_left (by rw [List.length_map, hl]; exact hi), List.getElem?_map]
    cases hd : ds[i]? with
    | none => rw [hd] at h; cases h
    | some d' =>
      rw [hd] at h
      cases h
      obtain ⟨v, h1, h2⟩ := r.get hd
      exact ⟨v, by rw [h1]; rfl, h2⟩
  · rw [List.getElem?_append_right (by rw [List.length_map]; omega), List.getElem?_replicate] at h
    split at h <;> cases h
section
variable {P : Program} {w : World} {K : PySem.W.Frag} {mg : Str → Option Value} {base : Heap}
/-- THE RULE for a def over data -/
theorem okD {x qual : Str} {st : Stmt} {f : Addr} {fd : FuncData} {N ps : List Str} {k : Nat} {S : Spc} (F : Fun K x qual st f fd) (Sc : FnScope N ps (defScope st))
    (hbody : ∀ (cdv : Value) (A : Around) (outer : List Env) (s : Shared) (H : Hp) (E : XK), Rm k (A.deeper (envOfC qual (defScope st) s.heap.objs.size f cdv)) →
      ∃ t, PSs (cxOf (L2.CX P w) P w K mg base N qual (defScope st) f cdv A outer s H E) (defBody st) t ∧
        ∀ H0 ds μ kk ex, Wok K H0 mg (fun cls d _ H' => E cls d H') (fun c _ μ' => ex c μ') → S ds μ kk ex → wpS K H0 t (envOf N ds) μ { nx := fun _ μ' => kk .non μ', rt := kk }) :
    FnD P w K mg base (k + 1) f fd ps (spOf K mg ps.length S) := by
  refine fnD_of F Sc (fun vs H Q E h => ?_) (fun cdv A outer s H vs Q E hr h => ?_)
  · obtain ⟨ds, μ, kk, ex, hl, r, _⟩ := h
    rw [r.length]
    exact hl
  · obtain ⟨ds, μ, kk, ex, hl, r, M, hS, hk, he⟩ := h
    obtain ⟨t, hp, hw⟩ := hbody cdv A outer s H E hr
    refine ⟨t, hp, ?_⟩
    have hW : Wok K (hid H (keys μ)) mg (fun cls d _ H' => E cls d H') (fun c _ μ' => ex c μ') := fun c C ρ μ' σ H' h1 h2 S' => he c C μ' H' h1 h2 S'.mem S'.ge
    refine hw _ ds μ kk ex hW hS _ (Ge.refl _) _ H (sta_start r M) _ ⟨fun ρ μ' σ H' p S' => ?_, fun d μ' v H' p M' g r' => ?_, fun _ _ _ _ p => p.elim, fun _ _ _ _ p => p.elim⟩
    · exact hk _ μ' _ H' p S'.mem S'.ge .non
    · exact hk d μ' v H' p M' g r'
theorem Df.mk' {x qual : Str} {st : Stmt} {f : Addr} {fd : FuncData} {ps : List Str} {k : Nat} {S : Spc} (F : Fun K x qual st f fd) (hm : mg x = some (.ref f)) (b : Binds K fd ps []) (h : FnD P w K mg base k f fd ps (spOf K mg ps.length S)) : Df P w K mg base k x ps S := ⟨f, fd, h, hm, F.kp, b⟩
theorem Df.mono {x : Str} {ps : List Str} {j k : Nat} {S : Spc} (F : Df P w K mg base j x ps S) (h : j ≤ k) : Df P w K mg base k x ps S := by
  obtain ⟨f, fd, G, a, b, c⟩ := F.ex
  exact ⟨f, fd, ⟨G.ln, fun A outer s H args us vs Q E hr => G.go A outer s H args us vs Q E (hr.mono h)⟩, a, b, c⟩
/-- a weaker promise -/
theorem Df.imp {x : Str} {ps : List Str} {k : Nat} {S S' : Spc} (F : Df P w K mg base k x ps S) (h : ∀ ds μ kk ex, S' ds μ kk ex → S ds μ kk ex) : Df P w K mg base k x ps S' := by
  obtain ⟨f, fd, G, a, b, c⟩ := F.ex
  have q : ∀ vs H Q E, spOf K mg ps.length S' vs H Q E → spOf K mg ps.length S vs H Q E := fun vs H Q E ⟨ds, μ, kk, ex, hl, r, M, hS, z⟩ => ⟨ds, μ, kk, ex, hl, r, M, h _ _ _ _ hS, z⟩
  exact ⟨f, fd, ⟨fun vs H Q E z => G.ln vs H Q E (q vs H Q E z), fun A outer s H args us vs Q E hr h1 h2 h3 z => G.go A outer s H args us vs Q E hr h1 h2 h3 (q _ _ _ _ z)⟩, a, b, c⟩
end

/-- an exception class of the text -/
def RaiseOk (K : PySem.W.Frag) (mg : Str → Option Value) (x : Str) (C : Addr) : Prop :=
  PySem.W.excIn K C [.type "ValueError", .type "Exception", .type "BaseException", .type "object"] "ValueError.__new__" = true ∧ mg x = some (.ref C) ∧ PySem.W.keepIn K (.ref C) = true ∧
    PySem.W.subIn K (.ref C) (.type "BaseException") = some true ∧ PySem.W.typeIn K (.ref C) = some (.type "type")
/-- raise X('..') -/
theorem wp_raise {K : PySem.W.Frag} {mg : Str → Option Value} {H0 : Hp} {ρ : DEnv} {μ : DMem} {W : WX} {ex : Str → DEnv → DMem → Prop} {C : Addr} {c : Str} {P : Post} (hW : Wok K H0 mg W ex) (hm : mg c = some (Value.ref C)) (h : ex c ρ μ) :
    wpS K H0 (fun _ σ H => (fun (_ : L2.St) (H : Hp) (Q : XK) => Q (.ref C) none H) σ H fun cls d H' => W cls d σ H') ρ μ P := fun H1 g σ H S D O => hW c C ρ μ σ H h hm (S.low g)
/-- a block cut in two: what holds between is said once -/
theorem wp_mid {K : PySem.W.Frag} {H0 : Hp} {ρ : DEnv} {μ : DMem} {t u : TS} {P : Post} (Mid : DEnv → DMem → Prop) (h1 : wpS K H0 t ρ μ { P with nx := Mid }) (h2 : ∀ ρ' μ', Mid ρ' μ' → wpS K H0 u ρ' μ' P) : wpS K H0 (tSeq t u) ρ μ P :=
  wp_seq (h1.imp h2 (fun _ _ h => h) (fun _ _ h => h) (fun _ _ h => h))
/-! ### walks -/
def WalkD (K : PySem.W.Frag) (Hb : Hp) (J : It) (ds : List Dv) : Prop := ∀ H, Ge Hb H → ∀ i : Nat, (i < ds.length → J.go i H) ∧ (ds.length ≤ i → J.stop i H) ∧
  (∀ x H', i < ds.length → J.yld i H x H' → Ge H H' ∧ ∃ d, ds[i]? = some d ∧ ∀ O : List Addr, Ge Hb (hid H O) → (∀ a ∈ O, H a ≠ none) → Rp K (hid H' O) x d)
def wpI (K : PySem.W.Frag) (H0 : Hp) (wi : TI) (ρ : DEnv) (μ : DMem) (k : List Dv → DMem → Prop) : Prop :=
  ∀ σ H, Sta K H0 ρ μ σ H → ∀ R : It → Hp → Prop, (∀ ds μ' J H', k ds μ' → Fo K H0 ρ μ σ H μ' H' → WalkD K (hid H' (keys μ')) J ds → R J H') → wi σ H R
/-- a list or a tuple is walked -/
def iSeq (K : PySem.W.Frag) (tl : TE) : TI := fun σ H R => tl σ H fun x H1 => ∃ a, x = .ref a ∧ ((∃ xs, SqL K H1 a xs ∧ R (Itl K a) H1) ∨ ∃ xs, SqT K H1 a xs ∧ R (Itt K a) H1)
theorem pi_seq {X : Cx} {tg l : Expr} {tl : TE} (hl : PE X l tl) : PI X tg l (iSeq X.K tl) := by
  constructor
  intro pins st σ H R I h
  refine thn (hl.run pins st σ H _ I h) ?_
  rintro v s1 ⟨x, H1, I1, r1, a, rfl, q⟩
  have hv : v = Value.ref a := r1
  subst hv
  rcases q with ⟨xs, hq, q⟩ | ⟨xs, hq, q⟩
  · obtain ⟨its, _, isl, _⟩ := I1.list hq
    refine wpAny_pyIter_list isl.isList ⟨s1.heap.objs.size, [s1.heap.objs.size], _, Itl X.K a, H1, rfl, I1.kept (t' := s1.toks) (fun b o e => Heap.get?_push_of_some _ e), turn_list a _, ⟨_, Heap.get?_push_size _ rfl, rfl, rfl⟩, ?_, q⟩
    intro b hb
    have eb : b = s1.heap.objs.size := by simpa using hb
    rw [eb]
    exact I1.fpOk (Nat.le_refl _) (I1.hok.fresh (Nat.le_refl _))
  · obtain ⟨its, _, ist, _⟩ := I1.tuple hq
    have ist' : s1.heap.IsTuple a its.toArray := ist
    refine wpAny_pyIter_tuple ist' ⟨s1.heap.objs.size, [s1.heap.objs.size], _, Itt X.K a, H1, rfl, I1.kept (t' := s1.toks) (fun b o e => Heap.get?_push_of_some _ e), turn_tuple a _, ⟨_, Heap.get?_push_size _ rfl, rfl, rfl⟩, ?_, q⟩
    intro b hb
    have eb : b = s1.heap.objs.size := by simpa using hb
    rw [eb]
    exact I1.fpOk (Nat.le_refl _) (I1.hok.fresh (Nat.le_refl _))
section
variable {K : PySem.W.Frag} {H0 H1 H H' : Hp} {ρ : DEnv} {μ μ' : DMem} {σ : L2.St} {te tl : TE} {ta : TA} {tt : TT} {k : Dv → DMem → Prop} {ki : List Dv → DMem → Prop} {i j : Nat} {P : Post} {t : TS} {wi : TI}
theorem atV {α : Type} {xs : List α} {x : α} {i : Nat} : atI xs (i : Int) = some x ↔ xs[i]? = some x := by
  unfold atI ixN
  rw [if_pos (by omega)]
  by_cases h : i < xs.length
  · rw [if_pos (by omega)]
    simp
  · rw [if_neg (by omega)]
    simp
    intro e
    rw [List.getElem?_eq_none (by omega)] at e
    cases e
theorem atI_rp {vs : List V} {ds : List Dv} {i : Int} {d : Dv} (r : RpA K H vs ds) (h : atI ds i = some d) : ∃ v, atI vs i = some v ∧ Rp K H v d := by
  unfold atI at h ⊢
  rw [r.length]
  cases e : ixN ds.length i with
  | none => rw [e] at h; cases h
  | some n =>
    rw [e] at h
    exact r.get h
theorem walk_l {a : Addr} {xs : List V} {ds : List Dv} {Hb : Hp} (h : Hb a = some (.lst xs)) (r : RpA K Hb xs ds) : WalkD K Hb (Itl K a) ds := fun H g i => by
  have sq : ∀ {H : Hp}, Ge Hb H → SqL K H a xs := fun g => .inl (.inl (g _ _ h))
  refine ⟨fun hi => ?_, fun hi => ⟨xs, sq g, by rw [r.length]; exact hi⟩, fun x H' hi ⟨e, y⟩ => ?_⟩
  · obtain ⟨v, h1, _⟩ := r.get (List.getElem?_eq_getElem hi)
    exact ⟨xs, v, sq g, h1⟩
  · subst e
    obtain ⟨v, h1, h2⟩ := r.get (List.getElem?_eq_getElem hi)
    have e2 := y xs (sq g)
    rw [h1] at e2
    cases e2
    exact ⟨Ge.refl _, _, List.getElem?_eq_getElem hi, fun O gO _ => h2.mono gO⟩
theorem walk_t {a : Addr} {xs : List V} {ds : List Dv} {Hb : Hp} (h : Hb a = some (.tup xs)) (r : RpA K Hb xs ds) : WalkD K Hb (Itt K a) ds := fun H g i => by
  have sq : ∀ {H : Hp}, Ge Hb H → SqT K H a xs := fun g => .inl (.inl (g _ _ h))
  refine ⟨fun hi => ?_, fun hi => ⟨xs, sq g, by rw [r.length]; exact hi⟩, fun x H' hi ⟨e, y⟩ => ?_⟩
  · obtain ⟨v, h1, _⟩ := r.get (List.getElem?_eq_getElem hi)
    exact ⟨xs, v, sq g, h1⟩
  · subst e
    obtain ⟨v, h1, h2⟩ := r.get (List.getElem?_eq_getElem hi)
    have e2 := y xs (sq g)
    rw [h1] at e2
    cases e2
    exact ⟨Ge.refl _, _, List.getElem?_eq_getElem hi, fun O gO _ => h2.mono gO⟩
theorem walk_r {lo : Int} {n : Nat} {Hb : Hp} : WalkD K Hb (Itr lo n) ((List.range n).map fun i => .int (lo + (i : Nat))) := fun H g i => by
  rw [List.length_map, List.length_range]
  refine ⟨fun hi => hi, fun hi => hi, fun x H' hi ⟨e, y⟩ => ?_⟩
  subst e
  subst y
  refine ⟨Ge.refl _, .int (lo + (i : Nat)), ?_, fun O _ _ => .int _⟩
  rw [List.getElem?_map, List.getElem?_range hi]
  rfl
theorem wi_seq (h : wpE K H0 tl ρ μ fun d μ1 => ∃ ds, (d = .lst ds ∨ d = .tup ds) ∧ ki ds μ1) : wpI K H0 (iSeq K tl) ρ μ ki := fun σ H S R hR => by
  refine h σ H S _ fun d μ1 v H1 q F r => ?_
  obtain ⟨ds, rfl | rfl, q⟩ := q
  · obtain ⟨a, xs, rfl, h1, h2⟩ := r.lst_inv
    exact ⟨a, rfl, .inl ⟨xs, .inl (.inl (hid_some h1).2), hR ds μ1 _ H1 q F (walk_l h1 h2)⟩⟩
  · obtain ⟨a, xs, rfl, h1, h2⟩ := r.tup_inv
    exact ⟨a, rfl, .inr ⟨xs, .inl (.inl (hid_some h1).2), hR ds μ1 _ H1 q F (walk_t h1 h2)⟩⟩
theorem wi_rng1 (h : wpA K H0 ta ρ μ fun as μ1 => ∃ n : Int, as = [.int n] ∧ n < 2 ^ 62 ∧ -(2 ^ 62) ≤ n ∧ ki ((List.range n.toNat).map fun (i : Nat) => Dv.int (i : Nat)) μ1) : wpI K H0 (iRng1 ta) ρ μ ki := fun σ H S R hR => by
  refine h σ H S _ fun as μ1 vs H1 q F r => ?_
  obtain ⟨n, rfl, h1, h2, q⟩ := q
  cases r with
  | cons r rr =>
    cases rr
    have e : (fun (i : Nat) => Dv.int (i : Nat)) = fun (i : Nat) => Dv.int (0 + (i : Nat)) := by
      funext i
      rw [Int.zero_add]
    rw [e] at q
    exact ⟨n, by rw [r.int_inv], h2, h1, hR _ μ1 _ H1 q F walk_r⟩
theorem wi_rng2 (h : wpA K H0 ta ρ μ fun as μ1 => ∃ a n : Int, as = [.int a, .int n] ∧ (-(2 ^ 62) ≤ a ∧ a < 2 ^ 62 ∧ -(2 ^ 62) ≤ n ∧ n < 2 ^ 62) ∧ ki ((List.range (n - a).toNat).map fun (i : Nat) => Dv.int (a + (i : Nat))) μ1) : wpI K H0 (iRng2 ta) ρ μ ki := fun σ H S R hR => by
  refine h σ H S _ fun as μ1 vs H1 q F r => ?_
  obtain ⟨a, n, rfl, h1, q⟩ := q
  cases r with
  | cons r rr =>
    cases rr with
    | cons r2 rr =>
      cases rr
      exact ⟨a, n, by rw [r.int_inv, r2.int_inv], h1, hR _ μ1 _ H1 q F walk_r⟩
/-- for x in ..: Inv by the number of items that are behind -/
theorem wp_for (h : wpI K H0 wi ρ μ fun ds μ1 => ∃ Inv : Nat → DEnv → DMem → Prop, Inv 0 ρ μ1 ∧
      (∀ (i : Nat) d ρ μ, ds[i]? = some d → Inv i ρ μ → wpS K H0 t (ρ.set j (some d)) μ { P with nx := Inv (i + 1), ct := Inv (i + 1), bk := P.nx }) ∧ (∀ ρ μ, Inv ds.length ρ μ → P.nx ρ μ)) :
    wpS K H0 (tFor wi (gName j) t) ρ μ P := fun H1 g σ H S D O => by
  refine h σ H (S.low g) _ fun ds μ1 J H2 q F W => ?_
  obtain ⟨Inv, h0, hs, hd⟩ := q
  have S2 : Sta K (hid H2 (keys μ1)) ρ μ1 σ H2 := (F.up S).top
  have gg : Ge H1 (hid H2 (keys μ1)) := (F.up S).ge
  have OK := O.up gg
  refine ⟨fun i m σ H => m = ds.length - i ∧ i ≤ ds.length ∧ ∃ ρ μ, Inv i ρ μ ∧ Sta K (hid H2 (keys μ1)) ρ μ σ H, ⟨_, rfl, Nat.zero_le _, ρ, μ1, h0, S2⟩, ?_⟩
  rintro i m σ' H' ⟨rfl, hi, ρ', μ', hI, S'⟩
  obtain ⟨w1, w2, w3⟩ := W H' (S'.ge.trans (hid_ge _ _)) i
  by_cases hlt : i < ds.length
  · refine .inr ⟨w1 hlt, fun σ'' H'' => ∃ ρ μ, Inv (i + 1) ρ μ ∧ Sta K (hid H2 (keys μ1)) ρ μ σ'' H'', fun σ'' H'' z => ⟨ds.length - (i + 1), by omega, rfl, hlt, z⟩, fun x H'' y => ?_⟩
    obtain ⟨g2, d, hd1, hd2⟩ := w3 x H'' hlt y
    have F3 := Fo.grow S' g2
    have r3 := hd2 (keys μ') S'.ge (fun a ha => by
      obtain ⟨c, hc, e⟩ := List.mem_map.mp ha
      obtain ⟨o, ho⟩ := (S'.mem.ok c hc).some
      rw [← e, ho]
      exact fun z => nomatch z)
    exact hs i d ρ' μ' hd1 hI _ (g.trans gg) _ H'' (F3.st.set r3 j) _ ⟨fun ρ μ σ H p S => ⟨ρ, μ, p, S⟩, OK.rt, OK.nx, fun ρ μ σ H p S => ⟨ρ, μ, p, S⟩⟩
  · have e : i = ds.length := by omega
    subst e
    exact .inl ⟨w2 (Nat.le_refl _), OK.nx _ _ _ _ (hd _ _ hI) S'⟩
/-- [e for x in ..]; f which are taken, g what is made of them; the list as data -/
theorem lc_run {α : Type} {xs : List α} {f : α → Bool} {g : α → Dv} {en : α → Dv} {J : It} {D : Addr} {Qd : Hp → Prop} (S : Sta K H0 ρ μ σ H) (W : WalkD K (hid H (keys μ)) J (xs.map en)) (hl : xs.length ≤ sizeLine) (hD : H D = none)
    (ht : ∀ x ∈ xs, ∀ μ', wpT K H0 tt ((ρ.set j none).set j (some (en x))) μ' fun b μ'' => μ'' = μ' ∧ b = f x) (he : ∀ x ∈ xs, f x = true → ∀ μ', wpE K H0 te ((ρ.set j none).set j (some (en x))) μ' fun d μ'' => μ'' = μ' ∧ d = g x)
    (hd : ∀ H', Fo K H0 ρ μ σ H ((D, .lst ((xs.filter f).map g)) :: μ) H' → Qd H') :
    ∃ W : Nat → Nat → Hp → Prop, (∃ m, W 0 m (L2.upd H D (.lst []))) ∧ ∀ i m H, W i m H →
      (J.stop i H ∧ Qd H) ∨ (J.go i H ∧ ∃ Nx : Hp → Prop, (∀ H', Nx H' → ∃ m', m' < m ∧ W (i + 1) m' H') ∧ ∀ x H', J.yld i H x H' → gName j x (wipe σ [j]) H' fun σ2 H2 => wipe σ2 [j] = wipe σ [j] ∧ tt σ2 H2 fun b H3 =>
        if b = true then te σ2 H3 fun y H4 => ∃ acc, H4 D = some (.lst acc) ∧ acc.length < sizeLine ∧ Nx (L2.upd H4 D (.lst (acc ++ [y]))) else Nx H3) := by
  have g0 := hid_cell (μ := μ) (c := .lst []) (o := .lst []) hD
  have M0 := S.mem.cell (c := .lst []) (o := .lst []) hD ⟨[], upd_same, .nil⟩
  refine ⟨fun i m H' => m = xs.length - i ∧ i ≤ xs.length ∧ Fo K H0 ρ μ σ H ((D, .lst (((xs.take i).filter f).map g)) :: μ) H', ⟨_, rfl, Nat.zero_le _, ⟨S.go M0 g0, g0⟩⟩, ?_⟩
  rintro i m H' ⟨rfl, hi, F⟩
  obtain ⟨w1, w2, w3⟩ := W H' (F.ge.trans (hid_ge _ _)) i
  rw [List.length_map] at w1 w2 w3
  by_cases hlt : i < xs.length
  · refine .inr ⟨w1 hlt, fun H'' => Fo K H0 ρ μ σ H ((D, .lst (((xs.take (i + 1)).filter f).map g)) :: μ) H'', fun H'' z => ⟨xs.length - (i + 1), by omega, rfl, hlt, z⟩, fun v H'' y => ?_⟩
    obtain ⟨g2, d, hd1, hd2⟩ := w3 v H'' hlt y
    have F3 := F.trans (Fo.grow F.st g2)
    have r3 := hd2 (keys ((D, DCell.lst (((xs.take i).filter f).map g)) :: μ)) F.ge (fun a ha => by
      obtain ⟨c, hc, e⟩ := List.mem_map.mp ha
      obtain ⟨o, ho⟩ := (F.st.mem.ok c hc).some
      rw [← e, ho]
      exact fun z => nomatch z)
    have hx : xs[i]? = some xs[i] := List.getElem?_eq_getElem hlt
    have hd' : d = en xs[i] := by
      rw [List.getElem?_map, hx] at hd1
      exact (Option.some.inj hd1).symm
    subst hd'
    have hmem : xs[i] ∈ xs := List.getElem_mem hlt
    have S3 : Sta K H0 ((ρ.set j none).set j (some (en xs[i]))) ((D, DCell.lst (((xs.take i).filter f).map g)) :: μ) ((σ.set j none).set j (some v)) H'' := (F3.st.forget j none).set r3 j
    have take1 : xs.take (i + 1) = xs.take i ++ [xs[i]] := by rw [List.take_succ, hx]; rfl
    refine ⟨by show ((σ.set j none).set j (some v)).set j none = σ.set j none; simp, ?_⟩
    refine ht xs[i] hmem _ _ H'' S3 _ fun b μ3 H3 q3 F4 => ?_
    obtain ⟨rfl, rfl⟩ := q3
    have F5 : Fo K H0 ρ μ σ H ((D, DCell.lst (((xs.take i).filter f).map g)) :: μ) H3 := ⟨F3.st.go F4.st.mem F4.ge, F3.ge.trans F4.ge⟩
    by_cases hf : f xs[i] = true
    · rw [if_pos hf]
      refine he xs[i] hmem hf _ _ H3 F4.st _ fun d μ4 y4 H4 q4 F6 r6 => ?_
      obtain ⟨rfl, rfl⟩ := q4
      have F7 : Fo K H0 ρ μ σ H ((D, DCell.lst (((xs.take i).filter f).map g)) :: μ) H4 := ⟨F5.st.go F6.st.mem F6.ge, F5.ge.trans F6.ge⟩
      obtain ⟨vs, e1, e2⟩ := F7.st.mem.ok (D, .lst (((xs.take i).filter f).map g)) (List.mem_cons_self)
      have e1' : H4 D = some (.lst vs) := e1
      have lvs : vs.length ≤ i := by
        rw [e2.length, List.length_map]
        refine Nat.le_trans (List.length_filter_le _ _) ?_
        rw [List.length_take]
        omega
      refine ⟨vs, e1', by omega, ?_⟩
      have en1 : ((xs.take (i + 1)).filter f).map g = ((xs.take i).filter f).map g ++ [g xs[i]] := by rw [take1, List.filter_append, List.map_append, List.filter_cons, if_pos hf] <;> rfl
      rw [en1]
      have F7m : MemOk K H4 (([] : DMem) ++ (D, .lst (((xs.take i).filter f).map g)) :: μ) := F7.st.mem
      have gk : Ge (hid H4 (keys ((D, DCell.lst (((xs.take i).filter f).map g)) :: μ))) (hid (L2.upd H4 D (.lst (vs ++ [y4]))) (keys ((D, DCell.lst (((xs.take i).filter f).map g ++ [g xs[i]])) :: μ))) := fun a u e => by
        obtain ⟨z1, z2⟩ := hid_some e
        have ne : a ≠ D := fun z => z1 (by rw [z]; simp [keys])
        rw [hid_of (by simpa [keys] using z1), upd_ne ne]
        exact z2
      obtain ⟨M8, g8⟩ := F7m.upd (c' := .lst (((xs.take i).filter f).map g ++ [g xs[i]])) (o := .lst (vs ++ [y4])) ⟨vs ++ [y4], upd_same, (e2.mono gk).append (.cons (r6.mono gk) .nil)⟩
      exact F7.trans ⟨F7.st.go M8 g8, g8⟩
    · have en1 : ((xs.take (i + 1)).filter f).map g = ((xs.take i).filter f).map g := by rw [take1, List.filter_append, List.map_append, List.filter_cons, if_neg hf]; simp only [List.filter_nil, List.map_nil, List.append_nil]
      rw [if_neg hf, en1]
      exact F5
  · have e : i = xs.length := by omega
    subst e
    rw [List.take_length] at F
    exact .inl ⟨w2 (Nat.le_refl _), hd _ F⟩
def LcOk (K : PySem.W.Frag) (H0 : Hp) (tt : TT) (te : TE) (j : Nat) (ρ : DEnv) (ds : List Dv) (out : List Dv) : Prop :=
  ∃ (α : Type) (xs : List α) (f : α → Bool) (g en : α → Dv), ds = xs.map en ∧ xs.length ≤ sizeLine ∧ (∀ x ∈ xs, ∀ μ', wpT K H0 tt ((ρ.set j none).set j (some (en x))) μ' fun b μ'' => μ'' = μ' ∧ b = f x) ∧
    (∀ x ∈ xs, f x = true → ∀ μ', wpE K H0 te ((ρ.set j none).set j (some (en x))) μ' fun d μ'' => μ'' = μ' ∧ d = g x) ∧ out = (xs.filter f).map g
theorem lc_all {α : Type} {xs : List α} {en g : α → Dv} (hl : xs.length ≤ sizeLine) (he : ∀ x ∈ xs, ∀ μ', wpE K H0 te ((ρ.set j none).set j (some (en x))) μ' fun d μ'' => μ'' = μ' ∧ d = g x) : LcOk K H0 tYes te j ρ (xs.map en) (xs.map g) :=
  ⟨α, xs, fun _ => true, g, en, rfl, hl, fun x hx μ' => wp_yes ⟨rfl, rfl⟩, fun x hx _ μ' => he x hx μ', by rw [List.filter_eq_self.mpr fun _ _ => rfl]⟩
theorem wp_lc (h : wpI K H0 wi ρ μ fun ds μ1 => ∃ out, LcOk K H0 tt te j ρ ds out ∧ k (.lst out) μ1) : wpE K H0 (tLc wi (gName j) tt te [j]) ρ μ k := fun σ H S Q hQ => by
  refine h σ H S _ fun ds μ1 J H1 q F W => ?_
  obtain ⟨out, ⟨α, xs, f, g, en, rfl, hl, ht, he, rfl⟩, hk⟩ := q
  intro D hD
  refine lc_run F.st W hl hD ht he fun H' F2 => ?_
  obtain ⟨F3, r3⟩ := Sta.frz (μa := []) F2.st
  exact hQ _ _ _ _ hk (F.trans (F2.trans F3)) r3
/-- .. the list a new cell -/
theorem wp_lcC (h : wpI K H0 wi ρ μ fun ds μ1 => ∃ out, LcOk K H0 tt te j ρ ds out ∧ ∀ p, k (.ref p) ((p, .lst out) :: μ1)) : wpE K H0 (tLc wi (gName j) tt te [j]) ρ μ k := fun σ H S Q hQ => by
  refine h σ H S _ fun ds μ1 J H1 q F W => ?_
  obtain ⟨out, ⟨α, xs, f, g, en, rfl, hl, ht, he, rfl⟩, hk⟩ := q
  intro D hD
  refine lc_run F.st W hl hD ht he fun H' F2 => ?_
  exact hQ _ _ _ _ (hk D) (F.trans F2) (.ref D)
end
end DL
/-! DLc: operators, subscripts, slices, built-ins over data. -/
namespace DL
open PySem PySem.Spec PyProof.Rows L2
/-! ### several rules of one operator in one -/
def orR (a b : R2) : R2 := fun x y H Q => a x y H Q ∨ b x y H Q
def orC (a b : List V → Hp → VK → Prop) : List V → Hp → VK → Prop := fun xs H Q => a xs H Q ∨ b xs H Q
def orS (a b : V → Option Int → Option Int → Hp → VK → Prop) : V → Option Int → Option Int → Hp → VK → Prop := fun x l u H Q => a x l u H Q ∨ b x l u H Q
def rAddS : R2 := fun x y H Q => ∃ i j, x = .str i ∧ y = .str j ∧ i.length + j.length ≤ sizeLine ∧ Q (.str (i ++ j)) H
def rAddU (K : PySem.W.Frag) : R2 := orR (rI0 fun i j => .int (i + j)) (orR rAddS (orR rCat (rCatT K)))
def rSubU : R2 := rI0 fun i j => .int (i - j)
def rMulU : R2 := rI CMul fun i j => .int (i * j)
def rFdvU : R2 := rI CDiv fun i j => .int (i / j)
def rModU : R2 := rI (fun _ j => 0 < j) fun i j => .int (i % j)
def rPowU : R2 := rI CPow fun i j => .int (i ^ j.toNat)
/-- lists of unlike lengths -/
def rEqLen : R2 := fun x y H Q => ∃ a b xs ys, x = .ref a ∧ y = .ref b ∧ H a = some (.lst xs) ∧ H b = some (.lst ys) ∧ xs.length ≠ ys.length ∧ Q (.bl false) H
def rNeLen : R2 := fun x y H Q => ∃ a b xs ys, x = .ref a ∧ y = .ref b ∧ H a = some (.lst xs) ∧ H b = some (.lst ys) ∧ xs.length ≠ ys.length ∧ Q (.bl true) H
def rEqU (K : PySem.W.Frag) : R2 := orR rEq (orR rEqLen (rEqD K))
def rNeU (K : PySem.W.Frag) : R2 := orR rNe (orR rNeLen (rNeD K))
def rSt (g : Tx → Tx → Bool) : R2 := fun x y H Q => ∃ i j : Str, x = .str i ∧ y = .str j ∧ Q (.bl (g i.cps.toList j.cps.toList)) H
def rLtU : R2 := orR (rI0 fun i j => .bl (decide (i < j))) (rSt fun a b => decide (a < b))
def rLeU : R2 := orR (rI0 fun i j => .bl (decide (i ≤ j))) (rSt fun a b => !decide (b < a))
def rGtU : R2 := orR (rI0 fun i j => .bl (decide (j < i))) (rSt fun a b => decide (b < a))
def rGeU : R2 := orR (rI0 fun i j => .bl (decide (j ≤ i))) (rSt fun a b => !decide (a < b))
def rIsU : R2 := orR (fun x y H Q => y = .non ∧ Q (.bl (decide (x = .non))) H) (fun x y H Q => ∃ a b, x = .bl a ∧ y = .bl b ∧ Q (.bl (decide (a = b))) H)
def rNotU : R2 := fun x y H Q => y = .non ∧ Q (.bl (!decide (x = .non))) H
def rInSg : R2 := fun x y H Q => ∃ (c : Nat) (z : Str), x = .str ⟨#[c]⟩ ∧ y = .str z ∧ Q (.bl (decide (c ∈ z.cps.toList))) H
def rNotInSg : R2 := fun x y H Q => ∃ (c : Nat) (z : Str), x = .str ⟨#[c]⟩ ∧ y = .str z ∧ Q (.bl (!decide (c ∈ z.cps.toList))) H
def rInU (K : PySem.W.Frag) : R2 := orR rInSg (rIn K false)
def rNotInU (K : PySem.W.Frag) : R2 := orR rNotInSg (rIn K true)
section
variable {X : Cx}
theorem op_addU : OpR X (binaryOp .Add) (rAddU X.K) := op_add.or (op_add_str.or (op_cat.or op_catT))
theorem op_subU : OpR X (binaryOp .Sub) rSubU := op_sub
theorem op_mulU : OpR X (binaryOp .Mult) rMulU := op_mul
theorem op_fdvU : OpR X (binaryOp .FloorDiv) rFdvU := op_fdiv
theorem op_modU : OpR X (binaryOp .Mod) rModU := op_mod
theorem op_powU : OpR X (binaryOp .Pow) rPowU := op_pow
theorem op_eqLen (hu : X.A.units < cLine) : OpR X (compareOp .Eq) rEqLen := by
  intro pins s σ H x y v u Q I rx ry h
  obtain ⟨a, b, xs, ys, rfl, rfl, h1, h2, hl, q⟩ := h
  cases rx
  cases ry
  obtain ⟨i1, r1, p1, _⟩ := I.list (.inl (.inl h1))
  obtain ⟨i2, r2, p2, _⟩ := I.list (.inl (.inl h2))
  refine SeqAt.eq_list_lengthsAt p1.isList p2.isList ?_ hu ⟨.bl false, H, I, rfl, q⟩
  have e1 := r1.length
  have e2 := r2.length
  simp only [List.size_toArray, bne_iff_ne, ne_eq]
  omega
theorem op_neLen (hu : X.A.units < cLine) : OpR X (compareOp .NotEq) rNeLen := by
  intro pins s σ H x y v u Q I rx ry h
  obtain ⟨a, b, xs, ys, rfl, rfl, h1, h2, hl, q⟩ := h
  cases rx
  cases ry
  obtain ⟨i1, r1, p1, _⟩ := I.list (.inl (.inl h1))
  obtain ⟨i2, r2, p2, _⟩ := I.list (.inl (.inl h2))
  have e1 := r1.length
  have e2 := r2.length
  have hz : (i1.toArray.size != i2.toArray.size) = true := by
    simp only [List.size_toArray, bne_iff_ne, ne_eq]
    omega
  exact SeqAt.RcNeAt.lists_lengths p1.isList p2.isList hz hu _ _ _ _ ⟨.bl true, H, I, rfl, q⟩
theorem op_eqU (hu : X.A.units + 64 < cLine) : OpR X (compareOp .Eq) (rEqU X.K) := op_eq.or ((op_eqLen (by omega)).or (op_eqD hu))
theorem op_neU (hu : X.A.units + 64 < cLine) : OpR X (compareOp .NotEq) (rNeU X.K) := op_ne.or ((op_neLen (by omega)).or (op_neD hu))
theorem op_ltU : OpR X (compareOp .Lt) rLtU := op_lt.or op_lt_str
theorem op_leU : OpR X (compareOp .LtE) rLeU := op_le.or op_le_str
theorem op_gtU : OpR X (compareOp .Gt) rGtU := op_gt.or op_gt_str
theorem op_geU : OpR X (compareOp .GtE) rGeU := op_ge.or op_ge_str
theorem op_isU : OpR X (compareOp .Is) rIsU := op_isN.or op_isBl
theorem op_notU : OpR X (compareOp .IsNot) rNotU := op_notN
theorem op_inU : OpR X (compareOp .In) (rInU X.K) := OpR.or (r := rInSg) op_in_sign op_in_seq
theorem op_notInU : OpR X (compareOp .NotIn) (rNotInU X.K) := OpR.or (r := rNotInSg) op_notIn_sign op_notIn_seq
def rSlU (K : PySem.W.Frag) : V → Option Int → Option Int → Hp → VK → Prop := orS rSlS (orS (rSlL K) (rSlA K))
theorem sl_U : SlR X (rSlU X.K) := sl_str.or (sl_list.or sl_tupA)
def rLenU (K : PySem.W.Frag) : List V → Hp → VK → Prop := fun xs H Q => ∃ x n, xs = [x] ∧ LenV K x H n ∧ Q (.int n) H
theorem call_lenU : CallR X (.builtin "len") (rLenU X.K) := call_len
def rIntU : List V → Hp → VK → Prop := orC (fun xs H Q => (∃ i, xs = [.int i] ∧ Q (.int i) H) ∨ ∃ k, xs = [.bl k] ∧ Q (.int (if k then 1 else 0)) H) (fun xs H Q => ∃ a n, xs = [.str a] ∧ PySem.intText? a = some n ∧ a.length ≤ 640 ∧ Q (.int n) H)
theorem call_intU : CallR X (.type "int") rIntU := call_int1.or (by
  intro pins s σ H xs us Q I r h
  obtain ⟨a, n, e, h1, h2, q⟩ := h
  exact call_int_str pins s σ H xs us Q I r ⟨a, n, e, h1, h2, q⟩)
end
def toPy : Dv → PyData
  | .non => .none
  | .bl b => .bool b
  | .int i => .int i
  | .str x => .str (sT x)
  | .lst ds => .list (toPyA ds)
  | .tup ds => .tuple (toPyA ds)
  | .ref _ => .none
  | .scr _ => .none
where toPyA : List Dv → List PyData
  | [] => []
  | d :: ds => toPy d :: toPyA ds
def pureD : Dv → Bool
  | .lst ds => pureA ds
  | .tup ds => pureA ds
  | .ref _ => false
  | .scr _ => false
  | _ => true
where pureA : List Dv → Bool
  | [] => true
  | d :: ds => pureD d && pureA ds
mutual
theorem rp_dp {K : PySem.W.Frag} {H : Hp} : ∀ {v : V} {d : Dv}, Rp K H v d → pureD d = true → Dp K H v (toPy d)
  | _, _, .non, _ => .non
  | _, _, .bl b, _ => .bl b
  | _, _, .int i, _ => .int i
  | _, _, .str x, _ => .str _
  | _, _, .ref a, h => by simp [pureD] at h
  | _, _, .scr a, h => by simp [pureD] at h
  | _, _, .lst h r, p => .lst (.inl (.inl h)) (rpA_dp r (by simpa [pureD] using p))
  | _, _, .tup h r, p => .tup (.inl (.inl h)) (rpA_dp r (by simpa [pureD] using p))
theorem rpA_dp {K : PySem.W.Frag} {H : Hp} : ∀ {vs : List V} {ds : List Dv}, RpA K H vs ds → pureD.pureA ds = true → DpAll K H vs (toPy.toPyA ds)
  | _, _, .nil, _ => .nil
  | _, _, .cons h r, p => by
    simp only [pureD.pureA, Bool.and_eq_true] at p
    exact .cons (rp_dp h p.1) (rpA_dp r p.2)
end
mutual
theorem Dp.up {K : PySem.W.Frag} {H H' : Hp} (g : Ge H H') : ∀ {v : V} {d : PyData}, Dp K H v d → Dp K H' v d
  | _, _, .non => .non
  | _, _, .bl b => .bl b
  | _, _, .int i => .int i
  | _, _, .str x => .str _
  | _, _, .lst h r => .lst (g.l h) (DpAll.up g r)
  | _, _, .tup h r => .tup (g.t h) (DpAll.up g r)
theorem DpAll.up {K : PySem.W.Frag} {H H' : Hp} (g : Ge H H') : ∀ {vs : List V} {ds : List PyData}, DpAll K H vs ds → DpAll K H' vs ds
  | _, _, .nil => .nil
  | _, _, .cons h r => .cons (Dp.up g h) (DpAll.up g r)
end
/-- how == answers -/
def eqD (a b : Dv) : Bool := PyData.eqv (toPy a) (toPy b)
section
variable {K : PySem.W.Frag} {H0 H H' : Hp} {ρ : DEnv} {μ μ' : DMem} {σ : L2.St} {k : Dv → DMem → Prop} {i j : Int} {x y : Tx} {a b d : Dv} {xs ys ds : List Dv} {p : Addr}
theorem wr_I0 {g : Int → Int → V} {gd : Int → Int → Dv} (hg : ∀ H, Rp K H (g i j) (gd i j)) (q : k (gd i j) μ) : wpR K H0 (rI0 g) (.int i) (.int j) ρ μ k := fun σ H x y S r1 r2 Q hQ =>
  ⟨i, j, r1.int_inv, r2.int_inv, hQ _ μ _ H q (Fo.refl S) (hg _)⟩
theorem wr_I {C : Int → Int → Prop} {g : Int → Int → V} {gd : Int → Int → Dv} (hg : ∀ H, Rp K H (g i j) (gd i j)) (hc : C i j) (q : k (gd i j) μ) : wpR K H0 (rI C g) (.int i) (.int j) ρ μ k := fun σ H x y S r1 r2 Q hQ =>
  ⟨i, j, r1.int_inv, r2.int_inv, hc, hQ _ μ _ H q (Fo.refl S) (hg _)⟩
theorem wr_1 {r1 r2 : R2} (h : wpR K H0 r1 a b ρ μ k) : wpR K H0 (orR r1 r2) a b ρ μ k := fun σ H x y S e1 e2 Q hQ => .inl (h σ H x y S e1 e2 Q hQ)
theorem wr_2 {r1 r2 : R2} (h : wpR K H0 r2 a b ρ μ k) : wpR K H0 (orR r1 r2) a b ρ μ k := fun σ H x y S e1 e2 Q hQ => .inr (h σ H x y S e1 e2 Q hQ)
theorem wr_add (q : k (.int (i + j)) μ) : wpR K H0 (rAddU K) (.int i) (.int j) ρ μ k := wr_1 (wr_I0 (gd := fun i j => .int (i + j)) (fun _ => .int _) q)
theorem wr_sub (q : k (.int (i - j)) μ) : wpR K H0 rSubU (.int i) (.int j) ρ μ k := wr_I0 (gd := fun i j => .int (i - j)) (fun _ => .int _) q
theorem wr_mul (h : (-(2 ^ 64) < i ∧ i < 2 ^ 64) ∨ (-(2 ^ 64) < j ∧ j < 2 ^ 64)) (q : k (.int (i * j)) μ) : wpR K H0 rMulU (.int i) (.int j) ρ μ k := wr_I (gd := fun i j => .int (i * j)) (fun _ => .int _) h q
theorem wr_fdv (h : 0 < j ∧ j < 1073741824) (q : k (.int (i / j)) μ) : wpR K H0 rFdvU (.int i) (.int j) ρ μ k := wr_I (gd := fun i j => .int (i / j)) (fun _ => .int _) h q
theorem wr_mod (h : 0 < j) (q : k (.int (i % j)) μ) : wpR K H0 rModU (.int i) (.int j) ρ μ k := wr_I (gd := fun i j => .int (i % j)) (fun _ => .int _) h q
theorem wr_pow (h : 0 ≤ j ∧ j ≤ 1000000 ∧ i.natAbs < 2 ^ 64) (q : k (.int (i ^ j.toNat)) μ) : wpR K H0 rPowU (.int i) (.int j) ρ μ k := wr_I (gd := fun i j => .int (i ^ j.toNat)) (fun _ => .int _) h q
theorem sT_append : sT x ++ sT y = sT (x ++ y) := by
  have e : (sT x ++ sT y).cps.toList = (sT (x ++ y)).cps.toList := by
    rw [cps_sT]
    show ((sT x).cps ++ (sT y).cps).toList = _
    simp [sT]
  rw [← sT_cps (sT x ++ sT y), e, sT_cps]
theorem wr_addS (h : x.length + y.length ≤ sizeLine) (q : k (.str (x ++ y)) μ) : wpR K H0 (rAddU K) (.str x) (.str y) ρ μ k := wr_2 (wr_1 fun σ H v w S r1 r2 Q hQ =>
  ⟨sT x, sT y, r1.str_inv, r2.str_inv, by rw [len_sT, len_sT]; exact h, by rw [sT_append]; exact hQ _ μ _ H q (Fo.refl S) (.str _)⟩)
theorem grow_new {o : HO} (hp : H p = none) : Ge H (L2.upd H p o) := fun a u h => by rw [upd_ne (ne_of_none h hp)]; exact h
/-- a fresh pure object -/
theorem fo_lst {vs : List V} (S : Sta K H0 ρ μ σ H) (hp : H p = none) (r : RpA K (hid H (keys μ)) vs ds) : Fo K H0 ρ μ σ H μ (L2.upd H p (.lst vs)) ∧ Rp K (hid (L2.upd H p (.lst vs)) (keys μ)) (.ref p) (.lst ds) := by
  have F := Fo.grow (H' := L2.upd H p (.lst vs)) S (grow_new hp)
  exact ⟨F, .lst (by rw [hid_of (S.mem.fresh hp)]; exact upd_same) (r.mono F.ge)⟩
theorem fo_tup {vs : List V} (S : Sta K H0 ρ μ σ H) (hp : H p = none) (r : RpA K (hid H (keys μ)) vs ds) : Fo K H0 ρ μ σ H μ (L2.upd H p (.tup vs)) ∧ Rp K (hid (L2.upd H p (.tup vs)) (keys μ)) (.ref p) (.tup ds) := by
  have F := Fo.grow (H' := L2.upd H p (.tup vs)) S (grow_new hp)
  exact ⟨F, .tup (by rw [hid_of (S.mem.fresh hp)]; exact upd_same) (r.mono F.ge)⟩
theorem wr_cat (h1 : IsL μ a xs) (h2 : IsL μ b ys) (h : xs.length + ys.length ≤ sizeLine) (q : k (.lst (xs ++ ys)) μ) : wpR K H0 (rAddU K) a b ρ μ k := wr_2 (wr_2 (wr_1 fun σ H v w S r1 r2 Q hQ => by
  obtain ⟨l, vs, rfl, e1, e2⟩ := h1.at S.mem r1
  obtain ⟨m, us, rfl, e3, e4⟩ := h2.at S.mem r2
  refine ⟨l, m, vs, us, rfl, rfl, e1, e3, by rw [e2.length, e4.length]; exact h, fun p hp => ?_⟩
  obtain ⟨F, r⟩ := fo_lst S hp (e2.append e4)
  exact hQ _ μ _ _ q F r))
theorem wr_eqS (q : k (.bl (decide (x = y))) μ) : wpR K H0 (rEqU K) (.str x) (.str y) ρ μ k := wr_1 fun σ H v w S r1 r2 Q hQ => by
  cases r1.str_inv
  cases r2.str_inv
  refine ⟨rfl, ?_⟩
  have e : decide (V.str (sT x) = V.str (sT y)) = decide (x = y) := by simp [sT_inj]
  rw [e]
  exact hQ _ μ _ H q (Fo.refl S) (.bl _)
theorem wr_eqI (q : k (.bl (decide (i = j))) μ) : wpR K H0 (rEqU K) (.int i) (.int j) ρ μ k := wr_1 fun σ H v w S r1 r2 Q hQ => by
  cases r1.int_inv
  cases r2.int_inv
  refine ⟨rfl, ?_⟩
  have e : decide (V.int i = V.int j) = decide (i = j) := by simp
  rw [e]
  exact hQ _ μ _ H q (Fo.refl S) (.bl _)
theorem wr_eqB {i j : Bool} (q : k (.bl (decide (i = j))) μ) : wpR K H0 (rEqU K) (.bl i) (.bl j) ρ μ k := wr_1 fun σ H v w S r1 r2 Q hQ => by
  cases r1.bl_inv
  cases r2.bl_inv
  refine ⟨rfl, ?_⟩
  have e : decide (V.bl i = V.bl j) = decide (i = j) := by simp
  rw [e]
  exact hQ _ μ _ H q (Fo.refl S) (.bl _)
theorem wr_neS (q : k (.bl (!decide (x = y))) μ) : wpR K H0 (rNeU K) (.str x) (.str y) ρ μ k := wr_1 fun σ H v w S r1 r2 Q hQ => by
  cases r1.str_inv
  cases r2.str_inv
  refine ⟨rfl, ?_⟩
  have e : decide (V.str (sT x) = V.str (sT y)) = decide (x = y) := by simp [sT_inj]
  rw [e]
  exact hQ _ μ _ H q (Fo.refl S) (.bl _)
theorem wr_neI (q : k (.bl (!decide (i = j))) μ) : wpR K H0 (rNeU K) (.int i) (.int j) ρ μ k := wr_1 fun σ H v w S r1 r2 Q hQ => by
  cases r1.int_inv
  cases r2.int_inv
  refine ⟨rfl, ?_⟩
  have e : decide (V.int i = V.int j) = decide (i = j) := by simp
  rw [e]
  exact hQ _ μ _ H q (Fo.refl S) (.bl _)
theorem wr_neB {i j : Bool} (q : k (.bl (!decide (i = j))) μ) : wpR K H0 (rNeU K) (.bl i) (.bl j) ρ μ k := wr_1 fun σ H v w S r1 r2 Q hQ => by
  cases r1.bl_inv
  cases r2.bl_inv
  refine ⟨rfl, ?_⟩
  have e : decide (V.bl i = V.bl j) = decide (i = j) := by simp
  rw [e]
  exact hQ _ μ _ H q (Fo.refl S) (.bl _)
/-- a list against the empty one -/
theorem wr_eqN (h : IsL μ a xs) (h2 : IsL μ b []) (q : k (.bl xs.isEmpty) μ) : wpR K H0 (rEqU K) a b ρ μ k := wr_2 fun σ H v w S r1 r2 Q hQ => by
  obtain ⟨l, vs, rfl, e1, e2⟩ := h.at S.mem r1
  obtain ⟨m, us, rfl, e3, e4⟩ := h2.at S.mem r2
  cases e4
  cases xs with
  | nil =>
    cases e2
    exact .inr ⟨.list [], .list [], .lst (.inl (.inl e1)) .nil, .lst (.inl (.inl e3)) .nil, by decide, by decide, hQ _ μ _ H q (Fo.refl S) (.bl _)⟩
  | cons z zs => exact .inl ⟨l, m, vs, [], rfl, rfl, e1, e3, by rw [e2.length]; simp, hQ _ μ _ H q (Fo.refl S) (.bl _)⟩
theorem wr_neN (h : IsL μ a xs) (h2 : IsL μ b []) (q : k (.bl (!xs.isEmpty)) μ) : wpR K H0 (rNeU K) a b ρ μ k := wr_2 fun σ H v w S r1 r2 Q hQ => by
  obtain ⟨l, vs, rfl, e1, e2⟩ := h.at S.mem r1
  obtain ⟨m, us, rfl, e3, e4⟩ := h2.at S.mem r2
  cases e4
  cases xs with
  | nil =>
    cases e2
    exact .inr ⟨.list [], .list [], .lst (.inl (.inl e1)) .nil, .lst (.inl (.inl e3)) .nil, by decide, by decide, hQ _ μ _ H q (Fo.refl S) (.bl _)⟩
  | cons z zs => exact .inl ⟨l, m, vs, [], rfl, rfl, e1, e3, by rw [e2.length]; simp, hQ _ μ _ H q (Fo.refl S) (.bl _)⟩
theorem wr_eqD (h1 : pureD a = true) (h2 : pureD b = true) (s1 : SeqAt.shaped (toPy a) = true) (s2 : SeqAt.shaped (toPy b) = true) (q : k (.bl (eqD a b)) μ) : wpR K H0 (rEqU K) a b ρ μ k := wr_2 (wr_2 fun σ H v w S r1 r2 Q hQ =>
  ⟨_, _, Dp.up (hid_ge _ _) (rp_dp r1 h1), Dp.up (hid_ge _ _) (rp_dp r2 h2), s1, s2, hQ _ μ _ H q (Fo.refl S) (.bl _)⟩)
theorem wr_neD (h1 : pureD a = true) (h2 : pureD b = true) (s1 : SeqAt.shaped (toPy a) = true) (s2 : SeqAt.shaped (toPy b) = true) (q : k (.bl (!eqD a b)) μ) : wpR K H0 (rNeU K) a b ρ μ k := wr_2 (wr_2 fun σ H v w S r1 r2 Q hQ =>
  ⟨_, _, Dp.up (hid_ge _ _) (rp_dp r1 h1), Dp.up (hid_ge _ _) (rp_dp r2 h2), s1, s2, hQ _ μ _ H q (Fo.refl S) (.bl _)⟩)
theorem wr_lt (q : k (.bl (decide (i < j))) μ) : wpR K H0 rLtU (.int i) (.int j) ρ μ k := wr_1 (wr_I0 (gd := fun i j => .bl (decide (i < j))) (fun _ => .bl _) q)
theorem wr_le (q : k (.bl (decide (i ≤ j))) μ) : wpR K H0 rLeU (.int i) (.int j) ρ μ k := wr_1 (wr_I0 (gd := fun i j => .bl (decide (i ≤ j))) (fun _ => .bl _) q)
theorem wr_gt (q : k (.bl (decide (j < i))) μ) : wpR K H0 rGtU (.int i) (.int j) ρ μ k := wr_1 (wr_I0 (gd := fun i j => .bl (decide (j < i))) (fun _ => .bl _) q)
theorem wr_ge (q : k (.bl (decide (j ≤ i))) μ) : wpR K H0 rGeU (.int i) (.int j) ρ μ k := wr_1 (wr_I0 (gd := fun i j => .bl (decide (j ≤ i))) (fun _ => .bl _) q)
theorem wr_St {g : Tx → Tx → Bool} (q : k (.bl (g x y)) μ) : wpR K H0 (rSt g) (.str x) (.str y) ρ μ k := fun σ H v w S r1 r2 Q hQ =>
  ⟨sT x, sT y, r1.str_inv, r2.str_inv, by rw [cps_sT, cps_sT]; exact hQ _ μ _ H q (Fo.refl S) (.bl _)⟩
theorem wr_ltS (q : k (.bl (decide (x < y))) μ) : wpR K H0 rLtU (.str x) (.str y) ρ μ k := wr_2 (wr_St q)
theorem wr_leS (q : k (.bl (!decide (y < x))) μ) : wpR K H0 rLeU (.str x) (.str y) ρ μ k := wr_2 (wr_St q)
theorem wr_gtS (q : k (.bl (decide (y < x))) μ) : wpR K H0 rGtU (.str x) (.str y) ρ μ k := wr_2 (wr_St (g := fun a b => decide (b < a)) q)
theorem wr_geS (q : k (.bl (!decide (x < y))) μ) : wpR K H0 rGeU (.str x) (.str y) ρ μ k := wr_2 (wr_St (g := fun a b => !decide (a < b)) q)
def isNonD : Dv → Bool
  | .non => true
  | _ => false
theorem rp_non {v : V} (r : Rp K H v d) : decide (v = .non) = isNonD d := by cases r <;> simp [isNonD]
theorem wr_isN (q : k (.bl (isNonD a)) μ) : wpR K H0 rIsU a .non ρ μ k := wr_1 fun σ H v w S r1 r2 Q hQ => ⟨r2.non_inv, by rw [rp_non r1]; exact hQ _ μ _ H q (Fo.refl S) (.bl _)⟩
theorem wr_notN (q : k (.bl (!isNonD a)) μ) : wpR K H0 rNotU a .non ρ μ k := fun σ H v w S r1 r2 Q hQ => ⟨r2.non_inv, by rw [rp_non r1]; exact hQ _ μ _ H q (Fo.refl S) (.bl _)⟩
theorem wr_isB {i j : Bool} (q : k (.bl (decide (i = j))) μ) : wpR K H0 rIsU (.bl i) (.bl j) ρ μ k := wr_2 fun σ H v w S r1 r2 Q hQ => ⟨i, j, r1.bl_inv, r2.bl_inv, hQ _ μ _ H q (Fo.refl S) (.bl _)⟩
/-! subscripts -/
theorem wr_ixL (h : IsL μ a ds) (hi : atI ds i = some d) (q : k d μ) : wpR K H0 (rIx K) a (.int i) ρ μ k := fun σ H v w S r1 r2 Q hQ => by
  obtain ⟨l, vs, rfl, e1, e2⟩ := h.at S.mem r1
  obtain ⟨u, h1, h2⟩ := atI_rp e2 hi
  exact .inl ⟨l, vs, i, u, rfl, r2.int_inv, .inl (.inl e1), h1, hQ d μ _ H q (Fo.refl S) h2⟩
theorem wr_ixT (hi : atI ds i = some d) (q : k d μ) : wpR K H0 (rIx K) (.tup ds) (.int i) ρ μ k := fun σ H v w S r1 r2 Q hQ => by
  obtain ⟨l, vs, rfl, e1, e2⟩ := r1.tupAt
  obtain ⟨u, h1, h2⟩ := atI_rp e2 hi
  exact .inr (.inl ⟨l, vs, i, u, rfl, r2.int_inv, .inl (.inl e1), h1, hQ d μ _ H q (Fo.refl S) h2⟩)
theorem wr_ixS {c : Nat} (hz : x.length ≤ sizeLine) (hi : atI x i = some c) (q : k (.str [c]) μ) : wpR K H0 (rIx K) (.str x) (.int i) ρ μ k := fun σ H v w S r1 r2 Q hQ =>
  .inr (.inr ⟨sT x, i, c, r1.str_inv, r2.int_inv, by rw [len_sT]; exact hz, by rw [cps_sT]; exact hi, hQ _ μ _ H q (Fo.refl S) (.str [c])⟩)
theorem wr_ixC {ns : List Int} {n : Int} (hi : atI ns i = some n) (q : k (.int n) μ) : wpR K H0 (rIx K) (.scr ns) (.int i) ρ μ k := fun σ H v w S r1 r2 Q hQ => by
  obtain ⟨l, rfl, e1⟩ := r1.scr_inv
  refine .inl ⟨l, ns.map V.int, i, .int n, rfl, r2.int_inv, (hid_ge _ _).l e1, ?_, hQ _ μ _ H q (Fo.refl S) (.int n)⟩
  unfold atI at hi ⊢
  rw [List.length_map]
  cases e : ixN ns.length i with
  | none => rw [e] at hi; cases hi
  | some m =>
    rw [e] at hi
    show (ns.map V.int)[m]? = _
    rw [List.getElem?_map, show ns[m]? = some n from hi]
    rfl
/-! slices -/
/-- l[lo:hi] -/
def cutL {α : Type} (l : List α) (lo hi : Option Int) : List α := (l.drop (HT.sIx l.length 0 lo)).take (HT.sIx l.length l.length hi - HT.sIx l.length 0 lo)
def wpX (r : V → Option Int → Option Int → Hp → VK → Prop) (a : Dv) (lo hi : Option Int) (ρ : DEnv) (μ : DMem) (k : Dv → DMem → Prop) : Prop :=
  ∀ σ H x, Sta K H0 ρ μ σ H → Rp K (hid H (keys μ)) x a → ∀ Q : VK, (∀ d μ' v H', k d μ' → Fo K H0 ρ μ σ H μ' H' → Rp K (hid H' (keys μ')) v d → Q v H') → r x lo hi H Q
def wpO (to : TO) (ρ : DEnv) (μ : DMem) (k : Option Int → DMem → Prop) : Prop := ∀ σ H, Sta K H0 ρ μ σ H → ∀ Q : Option Int → Hp → Prop, (∀ o μ' H', k o μ' → Fo K H0 ρ μ σ H μ' H' → Q o H') → to σ H Q
theorem wo_no {ko : Option Int → DMem → Prop} (q : ko none μ) : wpO (K := K) (H0 := H0) tNoPart ρ μ ko := fun σ H S Q hQ => hQ none μ H q (Fo.refl S)
theorem wo_part {te : TE} {ko : Option Int → DMem → Prop} (h : wpE K H0 te ρ μ fun d μ1 => ∃ i, d = .int i ∧ ko (some i) μ1) : wpO (K := K) (H0 := H0) (tPart te) ρ μ ko := fun σ H S Q hQ => by
  refine h σ H S _ fun d μ1 v H1 q F r => ?_
  obtain ⟨i, rfl, q⟩ := q
  exact ⟨i, r.int_inv, hQ _ μ1 H1 q F⟩
theorem wp_sl {r : V → Option Int → Option Int → Hp → VK → Prop} {te : TE} {tl th : TO} (h : wpE K H0 te ρ μ fun a μ1 => wpO (K := K) (H0 := H0) tl ρ μ1 fun lo μ2 => wpO (K := K) (H0 := H0) th ρ μ2 fun hi μ3 => wpX (K := K) (H0 := H0) r a lo hi ρ μ3 k) : wpE K H0 (tSl r te tl th) ρ μ k := fun σ H S Q hQ => by
  refine h σ H S _ fun a μ1 x H1 q1 F1 r1 => q1 σ H1 F1.st _ fun lo μ2 H2 q2 F2 => q2 σ H2 F2.st _ fun hi μ3 H3 q3 F3 => ?_
  exact q3 σ H3 x F3.st ((r1.mono F2.ge).mono F3.ge) Q fun d μ4 v H4 q4 F4 r4 => hQ d μ4 v H4 q4 (F1.trans (F2.trans (F3.trans F4))) r4
theorem RpA.cut {vs : List V} (r : RpA K H vs ds) (lo hi : Option Int) : RpA K H (cutV vs lo hi) (cutL ds lo hi) := by
  unfold cutV cutL
  rw [r.length]
  exact (r.drop _).take _
theorem wx_str {lo hi : Option Int} (hz : x.length ≤ sizeLine) (q : k (.str (cutL x lo hi)) μ) : wpX (K := K) (H0 := H0) (rSlU K) (.str x) lo hi ρ μ k := fun σ H v S r Q hQ =>
  .inl ⟨sT x, r.str_inv, by rw [len_sT]; exact hz, by
    have e : cutS (sT x) lo hi = sT (cutL x lo hi) := by
      unfold cutS cutL
      rw [cps_sT, len_sT]
      rfl
    rw [e]
    exact hQ _ μ _ H q (Fo.refl S) (.str _)⟩
theorem wx_lst {lo hi : Option Int} (h : IsL μ a ds) (q : k (.lst (cutL ds lo hi)) μ) : wpX (K := K) (H0 := H0) (rSlU K) a lo hi ρ μ k := fun σ H v S r Q hQ => .inr (.inl (by
  obtain ⟨l, vs, rfl, e1, e2⟩ := h.at S.mem r
  refine ⟨l, vs, rfl, .inl (.inl e1), fun p hp => ?_⟩
  obtain ⟨F, r⟩ := fo_lst S hp (e2.cut lo hi)
  exact hQ _ μ _ _ q F r))
theorem wx_scr {ns : List Int} {lo hi : Option Int} (q : k (.lst ((cutL ns lo hi).map .int)) μ) : wpX (K := K) (H0 := H0) (rSlU K) (.scr ns) lo hi ρ μ k := fun σ H v S r Q hQ => .inr (.inl (by
  obtain ⟨l, rfl, e1⟩ := r.scr_inv
  refine ⟨l, ns.map V.int, rfl, (hid_ge _ _).l e1, fun p hp => ?_⟩
  have rr : ∀ ns : List Int, RpA K (hid H (keys μ)) (ns.map V.int) (ns.map .int) := fun ns => by
    induction ns with
    | nil => exact .nil
    | cons n r ih => exact .cons (.int n) ih
  have e : cutV (ns.map V.int) lo hi = (cutL ns lo hi).map V.int := by
    unfold cutV cutL
    rw [List.length_map, ← List.map_drop, ← List.map_take]
  rw [e]
  obtain ⟨F, r⟩ := fo_lst S hp (rr (cutL ns lo hi))
  exact hQ _ μ _ _ q F r))
theorem wx_tup {lo hi : Option Int} (q : k (.tup (cutL ds lo hi)) μ) : wpX (K := K) (H0 := H0) (rSlU K) (.tup ds) lo hi ρ μ k := fun σ H v S r Q hQ => .inr (.inr (by
  obtain ⟨l, vs, rfl, e1, e2⟩ := r.tupAt
  refine ⟨l, vs, rfl, .inl (.inl e1), fun h => ?_, fun h p hp => ?_⟩
  · have e : cutL ds lo hi = ds := by
      unfold cutL
      rw [e2.length] at h
      rw [h.1, h.2]
      simp
    rw [e] at q
    exact hQ _ μ _ H q (Fo.refl S) r
  · obtain ⟨F, r⟩ := fo_tup S hp (e2.cut lo hi)
    exact hQ _ μ _ _ q F r))
/-! built-ins -/
theorem wc_lenS (hz : x.length ≤ sizeLine) (q : k (.int x.length) μ) : wpC K H0 (rLenU K) [.str x] ρ μ k := fun σ H vs S r Q hQ => by
  cases r with
  | cons r rr =>
    cases rr
    refine ⟨.str (sT x), x.length, by rw [r.str_inv], ⟨by rw [len_sT]; exact hz, (len_sT x).symm⟩, hQ _ μ _ H q (Fo.refl S) (.int _)⟩
theorem wc_lenL (h : IsL μ a ds) (q : k (.int ds.length) μ) : wpC K H0 (rLenU K) [a] ρ μ k := fun σ H vs S r Q hQ => by
  cases r with
  | cons r rr =>
    cases rr
    obtain ⟨l, vs, rfl, e1, e2⟩ := h.at S.mem r
    exact ⟨_, ds.length, rfl, .inl ⟨vs, .inl (.inl e1), e2.length.symm⟩, hQ _ μ _ H q (Fo.refl S) (.int _)⟩
theorem wc_lenT (q : k (.int ds.length) μ) : wpC K H0 (rLenU K) [.tup ds] ρ μ k := fun σ H vs S r Q hQ => by
  cases r with
  | cons r rr =>
    cases rr
    obtain ⟨l, vs, rfl, e1, e2⟩ := r.tupAt
    exact ⟨_, ds.length, rfl, .inr ⟨vs, .inl (.inl e1), e2.length.symm⟩, hQ _ μ _ H q (Fo.refl S) (.int _)⟩
theorem wc_lenC {ns : List Int} (q : k (.int ns.length) μ) : wpC K H0 (rLenU K) [.scr ns] ρ μ k := fun σ H vs S r Q hQ => by
  cases r with
  | cons r rr =>
    cases rr
    obtain ⟨l, rfl, e1⟩ := r.scr_inv
    exact ⟨_, ns.length, rfl, .inl ⟨_, (hid_ge _ _).l e1, (List.length_map _).symm⟩, hQ _ μ _ H q (Fo.refl S) (.int _)⟩
theorem wc_1 {r1 r2 : List V → Hp → VK → Prop} (h : wpC K H0 r1 ds ρ μ k) : wpC K H0 (orC r1 r2) ds ρ μ k := fun σ H x S e1 Q hQ => .inl (h σ H x S e1 Q hQ)
theorem wc_2 {r1 r2 : List V → Hp → VK → Prop} (h : wpC K H0 r2 ds ρ μ k) : wpC K H0 (orC r1 r2) ds ρ μ k := fun σ H x S e1 Q hQ => .inr (h σ H x S e1 Q hQ)
theorem wc_intI (q : k (.int i) μ) : wpC K H0 rIntU [.int i] ρ μ k := wc_1 fun σ H vs S r Q hQ => by
  cases r with
  | cons r rr =>
    cases rr
    exact .inl ⟨i, by rw [r.int_inv], hQ _ μ _ H q (Fo.refl S) (.int _)⟩
theorem wc_intB {c : Bool} (q : k (.int (if c then 1 else 0)) μ) : wpC K H0 rIntU [.bl c] ρ μ k := wc_1 fun σ H vs S r Q hQ => by
  cases r with
  | cons r rr =>
    cases rr
    exact .inr ⟨c, by rw [r.bl_inv], hQ _ μ _ H q (Fo.refl S) (.int _)⟩
theorem wc_intS {n : Int} (h1 : PySem.intText? (sT x) = some n) (h2 : x.length ≤ 640) (q : k (.int n) μ) : wpC K H0 rIntU [.str x] ρ μ k := wc_2 fun σ H vs S r Q hQ => by
  cases r with
  | cons r rr =>
    cases rr
    exact ⟨sT x, n, by rw [r.str_inv], h1, by rw [len_sT]; exact h2, hQ _ μ _ H q (Fo.refl S) (.int _)⟩
def rMin2 : List V → Hp → VK → Prop := fun xs H Q => ∃ i j, xs = [.int i, .int j] ∧ Q (.int (if j < i then j else i)) H
theorem call_min2U {X : Cx} (hc : X.calm = true) : CallR X (.builtin "min") rMin2 := call_min2 hc
theorem wc_min2 (q : k (.int (if j < i then j else i)) μ) : wpC K H0 rMin2 [.int i, .int j] ρ μ k := fun σ H vs S r Q hQ => by
  cases r with
  | cons r rr =>
    cases rr with
    | cons r2 rr =>
      cases rr
      exact ⟨i, j, by rw [r.int_inv, r2.int_inv], hQ _ μ _ H q (Fo.refl S) (.int _)⟩
def rOrd : List V → Hp → VK → Prop := fun xs H Q => ∃ x, xs = [.str x] ∧ x.length = 1 ∧ Q (.int (x.cps.getD 0 0 : Nat)) H
theorem call_ordU {X : Cx} : CallR X (.builtin "ord") rOrd := call_ord
theorem wc_ord {c : Nat} (q : k (.int c) μ) : wpC K H0 rOrd [.str [c]] ρ μ k := fun σ H vs S r Q hQ => by
  cases r with
  | cons r rr =>
    cases rr
    exact ⟨sT [c], by rw [r.str_inv], by rw [len_sT]; rfl, hQ _ μ _ H q (Fo.refl S) (.int _)⟩
def rStrI : List V → Hp → VK → Prop := fun xs H Q => ∃ i : Int, xs = [.int i] ∧ i.natAbs.log2 < 1920 ∧ Q (.str (toString i)) H
theorem call_strU {X : Cx} : CallR X (.type "str") rStrI := call_str_int
theorem wc_str (h : i.natAbs.log2 < 1920) (q : k (.str ((toString i : String) : Str).cps.toList) μ) : wpC K H0 rStrI [.int i] ρ μ k := fun σ H vs S r Q hQ => by
  cases r with
  | cons r rr =>
    cases rr
    refine ⟨i, by rw [r.int_inv], h, hQ _ μ _ H q (Fo.refl S) ?_⟩
    have r : Rp K (hid H (keys μ)) (.str (sT ((toString i : String) : Str).cps.toList)) (.str ((toString i : String) : Str).cps.toList) := .str _
    rw [sT_cps] at r
    exact r
def rTupU (K : PySem.W.Frag) : List V → Hp → VK → Prop := fun xs H Q => ∃ p ys, xs = [.ref p] ∧ ((SqL K H p ys ∧ ∀ l, H l = none → Q (.ref l) (L2.upd H l (.tup ys))) ∨ (SqT K H p ys ∧ Q (.ref p) H))
theorem call_tupU {X : Cx} : CallR X (.type "tuple") (rTupU X.K) := call_tuple_of
theorem wc_tupL (h : IsL μ a ds) (q : k (.tup ds) μ) : wpC K H0 (rTupU K) [a] ρ μ k := fun σ H vs S r Q hQ => by
  cases r with
  | cons r rr =>
    cases rr
    obtain ⟨l, vs, rfl, e1, e2⟩ := h.at S.mem r
    refine ⟨l, vs, rfl, .inl ⟨.inl (.inl e1), fun p hp => ?_⟩⟩
    obtain ⟨F, r⟩ := fo_tup S hp e2
    exact hQ _ μ _ _ q F r
def rLstU (K : PySem.W.Frag) : List V → Hp → VK → Prop := fun xs H Q => ∃ p ys, xs = [.ref p] ∧ (SqL K H p ys ∨ SqT K H p ys) ∧ ∀ l, H l = none → Q (.ref l) (L2.upd H l (.lst ys))
theorem call_lstU {X : Cx} : CallR X (.type "list") (rLstU X.K) := call_list_of
theorem wc_lstL (h : IsL μ a ds) (q : k (.lst ds) μ) : wpC K H0 (rLstU K) [a] ρ μ k := fun σ H vs S r Q hQ => by
  cases r with
  | cons r rr =>
    cases rr
    obtain ⟨l, vs, rfl, e1, e2⟩ := h.at S.mem r
    refine ⟨l, vs, rfl, .inl (.inl (.inl e1)), fun p hp => ?_⟩
    obtain ⟨F, r⟩ := fo_lst S hp e2
    exact hQ _ μ _ _ q F r
end
end DL
/-! DLd: pairs stored, isinstance, try. -/
namespace DL
open PySem PySem.Spec PyProof.Rows L2
section
variable {K : PySem.W.Frag} {mg : Str → Option Value} {H0 H1 H H' : Hp} {ρ : DEnv} {μ μ' : DMem} {σ : L2.St} {k : Dv → DMem → Prop} {i j : Nat} {a b d : Dv} {P : Post} {ta : TA} {te : TE} {ds : List Dv} {ex ex' : Str → DEnv → DMem → Prop}
theorem wp_par (h : wpA K H0 ta ρ μ fun ds μ1 => ∃ a b, ds = [a, b] ∧ P.nx ((ρ.set i (some a)).set j (some b)) μ1) : wpS K H0 (tPar i j ta) ρ μ P := fun H1 g σ H S D O =>
  h σ H (S.low g) _ fun ds μ1 vs H2 q F r => by
    obtain ⟨a, b, rfl, q⟩ := q
    cases r with
    | cons r1 rr =>
      cases rr with
      | cons r2 rr =>
        cases rr
        exact ⟨_, _, rfl, O.nx _ _ _ _ q (((F.up S).set r1 i).set r2 j)⟩
theorem wu_neg {n : Int} (q : k (.int (-n)) μ) : wpU K H0 (rU fun i => .int (-i)) (.int n) ρ μ k := fun σ H x S r Q hQ => ⟨n, r.int_inv, hQ _ μ _ H q (Fo.refl S) (.int _)⟩
theorem sz_le {n : Nat} (h : n ≤ 16777216) : n ≤ sizeLine := by rw [sizeLine_eq]; exact h
theorem sz_lt {n : Nat} (h : n < 16777216) : n < sizeLine := by rw [sizeLine_eq]; exact h
/-! ### unpacking a tuple -/
def wpGs (g : TGs) (ds : List Dv) (ρ : DEnv) (μ : DMem) (kn : DEnv → DMem → Prop) : Prop :=
  ∀ σ H vs, Sta K H0 ρ μ σ H → RpA K (hid H (keys μ)) vs ds → ∀ Q : L2.St → Hp → Prop, (∀ ρ' μ' σ' H', kn ρ' μ' → Sta K H0 ρ' μ' σ' H' → Q σ' H') → g vs σ H Q
theorem wg_nil {kn : DEnv → DMem → Prop} (q : kn ρ μ) : wpGs (K := K) (H0 := H0) gNil [] ρ μ kn := fun σ H vs S r Q hQ => by
  cases r
  exact ⟨rfl, hQ _ _ _ _ q S⟩
theorem wg_cons {g : TGs} {kn : DEnv → DMem → Prop} (h : wpGs (K := K) (H0 := H0) g ds (ρ.set i (some d)) μ kn) : wpGs (K := K) (H0 := H0) (gCons (gName i) g) (d :: ds) ρ μ kn := fun σ H vs S r Q hQ => by
  cases r with
  | cons r1 rr => exact ⟨_, _, rfl, h _ _ _ (S.set r1 i) rr Q hQ⟩
theorem wp_unpack {g : TGs} {n : Nat} (h : wpE K H0 te ρ μ fun d μ1 => ∃ ds, d = .tup ds ∧ ds.length = n ∧ ∀ H1, wpGs (K := K) (H0 := H1) g ds ρ μ1 P.nx) : wpS K H0 (tAsg te (gTup K n g)) ρ μ P := fun H1 gg σ H S D O =>
  h σ H (S.low gg) _ fun d μ1 v H2 q F r => by
    obtain ⟨ds, rfl, hl, q⟩ := q
    obtain ⟨p, vs, rfl, e1, e2⟩ := r.tupAt
    exact ⟨p, vs, rfl, .inl (.inl e1), by rw [e2.length]; exact hl, q H1 σ H2 vs (F.up S) e2 _ fun ρ' μ' σ' H' hk S' => O.nx _ _ _ _ hk S'⟩
/-! ### isinstance -/
def tyName : Dv → Option String
  | .non => some "NoneType"
  | .bl _ => some "bool"
  | .int _ => some "int"
  | .str _ => some "str"
  | .lst _ => some "list"
  | .tup _ => some "tuple"
  | _ => none
theorem ty_of {v : V} {n : String} (r : Rp K (hid H (keys μ)) v d) (h : tyName d = some n) : TyX K H v (.type n) := by
  cases r with
  | non => cases h; exact .base .non
  | bl b => cases h; exact .base (.bl b)
  | int i => cases h; exact .base (.int i)
  | str x => cases h; exact .base (.str _)
  | ref a => cases h
  | lst h1 _ => cases h; exact .base (.lst (hid_some h1).2)
  | tup h1 _ => cases h; exact .base (.tup (hid_some h1).2)
  | scr _ => cases h
def isiN (n T : String) : Bool := n == T || (n == "bool" && T == "int")
def isiD (d : Dv) (T : String) : Option Bool := (tyName d).map fun n => isiN n T
theorem kit_tab : ∀ n ∈ ["NoneType", "bool", "int", "str", "list", "tuple"], ∀ T ∈ ["int", "bool", "str", "tuple", "list"], kitB n T = some (isiN n T) := by decide +kernel
theorem tyName_in {n : String} (h : tyName d = some n) : n ∈ ["NoneType", "bool", "int", "str", "list", "tuple"] := by
  cases d <;> cases h <;> decide
/-- isinstance(x, T), T a built-in class; x a value or a cell of a list -/
def Isi (μ : DMem) (d : Dv) (T : String) (r : Bool) : Prop := isiD d T = some r ∨ ∃ ds, IsL μ d ds ∧ r = isiN "list" T
theorem wp_isi {T : String} (hT : T ∈ ["int", "bool", "str", "tuple", "list"]) (h : wpE K H0 te ρ μ fun d μ1 => ∃ r, Isi μ1 d T r ∧ k (.bl r) μ1) : wpE K H0 (tCB (rIsi K) (tCons te (tCons (tC (.ty T)) tNil))) ρ μ k := fun σ H S Q hQ => by
  refine h σ H S _ fun d μ1 v H1 q F rr => ?_
  obtain ⟨r, h1 | ⟨ds, h1, rfl⟩, q⟩ := q
  case inr =>
    obtain ⟨p, vs, rfl, e1, e2⟩ := h1.at F.st.mem rr
    exact ⟨_, .ty T, .type "list", .type T, isiN "list" T, rfl, .ty T, .base (.lst e1), kit_ty (kit_tab "list" (by decide) T hT), hQ _ μ1 _ H1 q F (.bl _)⟩
  unfold isiD at h1
  cases e : tyName d with
  | none => rw [e] at h1; cases h1
  | some n =>
    rw [e] at h1
    cases h1
    exact ⟨v, .ty T, .type n, .type T, isiN n T, rfl, .ty T, ty_of rr e, kit_ty (kit_tab n (tyName_in e) T hT), hQ _ μ1 _ H1 q F (.bl _)⟩
/-! ### try -/
theorem Wok.up {W : WX} (h : Wok K H0 mg W ex) (g : Ge H0 H1) : Wok K H1 mg W ex := fun c C ρ μ σ H e m S => h c C ρ μ σ H e m (S.low g)
/-- what follows a suite whose name's slot is emptied -/
def Post.drop (P : Post) (i : Nat) : Post := { nx := fun ρ μ => P.nx (ρ.set i none) μ, rt := P.rt, bk := fun ρ μ => P.bk (ρ.set i none) μ, ct := fun ρ μ => P.ct (ρ.set i none) μ }
theorem PostOk.drop {D : Ends} (O : PostOk K H0 P D) (i : Nat) : PostOk K H0 (P.drop i) { nx := fun σ' H' => D.nx (σ'.set i none) H', rt := D.rt, bk := fun σ' H' => D.bk (σ'.set i none) H', ct := fun σ' H' => D.ct (σ'.set i none) H' } :=
  ⟨fun ρ μ σ H p S => O.nx _ _ _ _ p (S.forget i none), O.rt, fun ρ μ σ H p S => O.bk _ _ _ _ p (S.forget i none), fun ρ μ σ H p S => O.ct _ _ _ _ p (S.forget i none)⟩
def tTryAs (K : PySem.W.Frag) (c : Value) (i : Nat) (tb : WX → TS) (ts : Addr → Value → Option Addr → TS) (Wout : WX) : TS := fun D σ H => tb (wAs K c i ts Wout D) D σ H
def tTryOnly (K : PySem.W.Frag) (c : Value) (tb : WX → TS) (ts : Addr → Value → Option Addr → TS) (Wout : WX) : TS := fun D σ H => tb (wOnly K c ts Wout D) D σ H
theorem ps_tryAsK {X : Cx} {x n : Str} {c : Value} {i : Nat} {body suite : List Stmt} {b₀ : Stmt} {np pos pos' : Pos} {tb : WX → TS} {ts : Addr → Value → Option Addr → TS} {Wout : WX} (hK : X.K = K) (hs : X.stack = X.env :: X.outer) (hf : X.env.frame = some X.env.locals) (hN : X.N.Nodup) (hi : X.N[i]? = some n) (hln : X.env.kindOf n = some .local) (hc : Names X x c) (tk : Takes X Wout)
    (hb : ∀ (W : WX) (pn : List (Addr × Obj)) (xe : Value → Shared → Prop), Takes (X.tr pn xe) W → PassesOwn (model X.prog X.w) X.A X.env xe → PSs (X.tr pn xe) body (tb W))
    (hsu : ∀ (a : Addr) (oe : Obj) (cls : Value) (d : Option Addr) (pn : List (Addr × Obj)), Zc cls d oe → (∃ vs, oe.data = .fields vs) → PSs (X.suite a ((a, oe) :: pn)) (b₀ :: suite) (ts a cls d)) :
    PS X (.Try body [.ExceptHandler (some (.Name x np)) (some n) (b₀ :: suite) pos'] [] [] pos) (tTryAs K c i tb ts Wout) := by subst hK; exact ps_try_as hs hf hN hi hln hc tk hb hsu
theorem ps_tryOnlyK {X : Cx} {x : Str} {c : Value} {body suite : List Stmt} {b₀ : Stmt} {np pos pos' : Pos} {tb : WX → TS} {ts : Addr → Value → Option Addr → TS} {Wout : WX} (hK : X.K = K) (hs : X.stack = X.env :: X.outer) (hf : X.env.frame = some X.env.locals) (hc : Names X x c) (tk : Takes X Wout)
    (hb : ∀ (W : WX) (pn : List (Addr × Obj)) (xe : Value → Shared → Prop), Takes (X.tr pn xe) W → PassesOwn (model X.prog X.w) X.A X.env xe → PSs (X.tr pn xe) body (tb W))
    (hsu : ∀ (a : Addr) (oe : Obj) (cls : Value) (d : Option Addr) (pn : List (Addr × Obj)), Zc cls d oe → (∃ vs, oe.data = .fields vs) → PSs (X.suite a ((a, oe) :: pn)) (b₀ :: suite) (ts a cls d)) :
    PS X (.Try body [.ExceptHandler (some (.Name x np)) none (b₀ :: suite) pos'] [] [] pos) (tTryOnly K c tb ts Wout) := by subst hK; exact ps_try_only hs hf hc tk hb hsu
theorem wp_tryAs {tb : WX → TS} {ts : Addr → Value → Option Addr → TS} {c : Value} {Wout : WX} (ex' : Str → DEnv → DMem → Prop) (hO : Wok K H0 mg Wout ex)
    (hs : ∀ H1, Ge H0 H1 → ∀ x C ρ μ, ex' x ρ μ → mg x = some (Value.ref C) → ∃ b, PySem.W.exmOne K (.ref C) c = some b ∧ (b = true → ∀ a, wpS K H1 (ts a (.ref C) none) (ρ.set i (some (.ref a))) μ (P.drop i)) ∧ (b = false → ex x ρ μ))
    (hb : ∀ H1, Ge H0 H1 → ∀ W, Wok K H1 mg W ex' → wpS K H1 (tb W) ρ μ P) : wpS K H0 (tTryAs K c i tb ts Wout) ρ μ P := fun H1 g σ H S D O => by
  refine hb H1 g _ (fun x C ρ μ σ H e m S => ?_) H1 (Ge.refl _) σ H S D O
  obtain ⟨b, h1, h2, h3⟩ := hs H1 g x C ρ μ e m
  exact ⟨b, h1, fun eb a _ => h2 eb a H1 (Ge.refl _) _ _ (S.set (.ref a) i) _ (O.drop i), fun eb => hO x C ρ μ σ H (h3 eb) m (S.low g)⟩
theorem wp_tryOnly {tb : WX → TS} {ts : Addr → Value → Option Addr → TS} {c : Value} {Wout : WX} (ex' : Str → DEnv → DMem → Prop) (hO : Wok K H0 mg Wout ex)
    (hs : ∀ H1, Ge H0 H1 → ∀ x C ρ μ, ex' x ρ μ → mg x = some (Value.ref C) → ∃ b, PySem.W.exmOne K (.ref C) c = some b ∧ (b = true → ∀ a, wpS K H1 (ts a (.ref C) none) ρ μ P) ∧ (b = false → ex x ρ μ))
    (hb : ∀ H1, Ge H0 H1 → ∀ W, Wok K H1 mg W ex' → wpS K H1 (tb W) ρ μ P) : wpS K H0 (tTryOnly K c tb ts Wout) ρ μ P := fun H1 g σ H S D O => by
  refine hb H1 g _ (fun x C ρ μ σ H e m S => ?_) H1 (Ge.refl _) σ H S D O
  obtain ⟨b, h1, h2, h3⟩ := hs H1 g x C ρ μ e m
  exact ⟨b, h1, fun eb a _ => h2 eb a H1 (Ge.refl _) _ _ S _ O, fun eb => hO x C ρ μ σ H (h3 eb) m (S.low g)⟩
/-! isinstance of the error that a suite holds -/
def rIsS (K : PySem.W.Frag) (cls : Value) (d : Option Addr) (a : Addr) : List V → Hp → VK → Prop := fun xs H Q => ∃ (D : Addr) (c : V) (cv : Value) (b : Bool), cls = .ref D ∧ d = none ∧ ExcC K D ∧ xs = [.ref a, c] ∧ (∀ u, RelV c u → u = cv) ∧ PySem.W.kitOne K (.ref D) cv = some b ∧ Q (.bl b) H
theorem call_isS {X : Cx} {a : Addr} {oe : Obj} {cls : Value} {d : Option Addr} {pn : List (Addr × Obj)} (hz : Zc cls d oe) (hf : ∃ vs, oe.data = .fields vs) : CallR (X.suite a ((a, oe) :: pn)) (.builtin "isinstance") (rIsS X.K cls d a) := by
  intro pins s σ H xs us Q I r h
  obtain ⟨D, c, cv, b, rfl, rfl, hC, e1, e2, e3, q⟩ := h
  exact call_isE hC hz hf pins s σ H xs us Q I r ⟨c, cv, b, e1, e2, e3, q⟩
theorem wp_isS {a : Addr} {D : Addr} {c : V} {cv : Value} {r : Bool} (hC : ExcC K D) (hcv : ∀ u, RelV c u → u = cv) (hk : PySem.W.kitOne K (.ref D) cv = some r) (hi : ρ[i]? = some (some (.ref a))) (q : k (.bl r) μ) :
    wpE K H0 (tCB (rIsS K (.ref D) none a) (tCons (tVar i) (tCons (tC c) tNil))) ρ μ k := fun σ H S Q hQ => by
  obtain ⟨v, h1, h2⟩ := S.sl i _ hi
  have ev := h2.ref_inv
  subst ev
  exact ⟨.ref a, h1, D, c, cv, r, rfl, rfl, hC, rfl, hcv, hk, hQ _ μ _ H q (Fo.refl S) (.bl _)⟩
end
/-! ### the rules with the written part named -/
section
variable {X : Cx} {K : PySem.W.Frag} {mg : Str → Option Value}
theorem op_addK (h : X.K = K) : OpR X (binaryOp .Add) (rAddU K) := by subst h; exact op_addU
theorem op_eqK (h : X.K = K) (hu : X.A.units + 64 < cLine) : OpR X (compareOp .Eq) (rEqU K) := by subst h; exact op_eqU hu
theorem op_neK (h : X.K = K) (hu : X.A.units + 64 < cLine) : OpR X (compareOp .NotEq) (rNeU K) := by subst h; exact op_neU hu
theorem op_inK (h : X.K = K) : OpR X (compareOp .In) (rInU K) := by subst h; exact op_inU
theorem op_notInK (h : X.K = K) : OpR X (compareOp .NotIn) (rNotInU K) := by subst h; exact op_notInU
theorem ix_K (h : X.K = K) : IxR X (rIx K) := by subst h; exact ix_seq
theorem sl_K (h : X.K = K) : SlR X (rSlU K) := by subst h; exact sl_U
theorem call_lenK (h : X.K = K) : CallR X (.builtin "len") (rLenU K) := by subst h; exact call_lenU
theorem call_tupK (h : X.K = K) : CallR X (.type "tuple") (rTupU K) := by subst h; exact call_tupU
theorem call_lstK (h : X.K = K) : CallR X (.type "list") (rLstU K) := by subst h; exact call_lstU
theorem call_isiK' (h : X.K = K) : CallR X (.builtin "isinstance") (rIsi K) := by subst h; exact call_isi
theorem call_isSK {a : Addr} {oe : Obj} {cls : Value} {d : Option Addr} {pn : List (Addr × Obj)} (h : X.K = K) (hz : Zc cls d oe) (hf : ∃ vs, oe.data = .fields vs) : CallR (X.suite a ((a, oe) :: pn)) (.builtin "isinstance") (rIsS K cls d a) := by subst h; exact call_isS hz hf
theorem pe_dfK {k : Nat} {x : Str} {ps : List Str} {S : Spc} {W : WX} {e : Expr} {es : List Expr} {p pos : Pos} {t : TA} {P : Program} {w : World} {base : Heap} (F : Df P w K mg base k x ps S) (h1 : X.prog = P ∧ X.w = w ∧ X.K = K ∧ X.mg = mg ∧ X.base = base) (hr : Rm k X.A) (tk : Takes X W) (hg : Gl X x)
    (ha : PA X (e :: es) t) (hdb : (x == ("__debug__" : Str)) = false := by decide) (he : starEach (e :: es) X.env = (false, eval e X.env) :: starEach es X.env := by rfl) (hpl : (backTo pos (starEach es X.env)).any (·.1) = false := by rfl) :
    PE X (.Call (.Name x p) (e :: es) [] pos) (tCallS (spOf K mg ps.length S) (WE W) t) := by
  obtain ⟨rfl, rfl, rfl, rfl, rfl⟩ := h1
  exact pe_df F hr tk hg ha hdb he hpl
theorem pi_seqK {tg l : Expr} {tl : TE} (h : X.K = K) (hl : PE X l tl) : PI X tg l (iSeq K tl) := by subst h; exact pi_seq hl
end
end DL
/-! DLe: sorted of rows (text, whole number). -/
namespace DL
open PySem PySem.Spec PyProof.Rows L2
open TM (Rw Sr)
def rowPy (r : Rw) : PyData := .tuple [.str (sT r.1), .int r.2]
def encR (r : Rw) : Dv := .tup [.str r.1, .int r.2]
def leR (a b : Rw) : Bool := decide (a.1 < b.1 ∨ (a.1 = b.1 ∧ a.2 ≤ b.2))
theorem le_row (a b : Rw) : (!PySem.W.dataLt (rowPy b) (rowPy a)) = leR a b := by
  unfold rowPy leR
  rw [PySem.W.dataLt_pair (by simp [PySem.W.alike]) (by simp [PySem.W.alike]), PySem.W.dataLt_int, PySem.W.dataLt_str]
  have q1 : (PyData.str (sT b.1)).eqv (.str (sT a.1)) = decide (b.1 = a.1) := by
    by_cases e : b.1 = a.1
    · simp [PyData.eqv, e]
    · have e' : ¬ sT b.1 = sT a.1 := fun z => e (sT_inj.mp z)
      simp [PyData.eqv, e, e']
  have q2 : (PyData.int b.2).eqv (.int a.2) = decide (b.2 = a.2) := by
    by_cases e : b.2 = a.2 <;> simp [PyData.eqv, e]
  rw [q1, q2, cps_sT, cps_sT]
  by_cases h1 : b.1 = a.1
  · have n : ¬ a.1 < b.1 := by rw [h1]; exact TM.tx_irr _
    by_cases h2 : b.2 = a.2
    · simp [h1, h2]
    · by_cases h3 : b.2 < a.2
      · have : ¬ a.2 ≤ b.2 := by omega
        rw [h1] at n
        simp [h1, h2, h3, this, n]
      · have : a.2 ≤ b.2 := by omega
        simp [h1, h2, h3, this]
  · have h1' : ¬ a.1 = b.1 := fun e => h1 e.symm
    by_cases h3 : b.1 < a.1
    · have n := TM.tx_asymm h3
      simp [h1, h1', h3, n]
    · have p : a.1 < b.1 := by
        rcases TM.tx_tri a.1 b.1 with l | e | l
        · exact l
        · exact absurd e h1'
        · exact absurd l h3
      simp [h1, h3, p]
theorem leR_trans (a b c : Rw) (h1 : leR a b = true) (h2 : leR b c = true) : leR a c = true := by
  unfold leR at *
  rw [decide_eq_true_eq] at *
  rcases h1 with h1 | ⟨h1, h1'⟩
  · rcases h2 with h2 | ⟨h2, _⟩
    · exact .inl (TM.tx_trans h1 h2)
    · exact .inl (h2 ▸ h1)
  · rcases h2 with h2 | ⟨h2, h2'⟩
    · exact .inl (h1 ▸ h2)
    · exact .inr ⟨h1.trans h2, Int.le_trans h1' h2'⟩
theorem leR_total (a b : Rw) : (leR a b || leR b a) = true := by
  unfold leR
  rw [Bool.or_eq_true, decide_eq_true_eq, decide_eq_true_eq]
  rcases TM.tx_tri a.1 b.1 with l | e | l
  · exact .inl (.inl l)
  · rcases Int.le_total a.2 b.2 with h | h
    · exact .inl (.inr ⟨e, h⟩)
    · exact .inr (.inr ⟨e.symm, h⟩)
  · exact .inr (.inl l)
def sortR (R : List Rw) : List Rw := R.mergeSort leR
theorem sortR_perm (R : List Rw) : (sortR R).Perm R := List.mergeSort_perm R leR
theorem sortR_sr {R : List Rw} (h : (R.map (·.1)).Nodup) : Sr (sortR R) := by
  have h1 := List.pairwise_mergeSort leR_trans leR_total R
  have h2 : ((sortR R).map (·.1)).Nodup := ((sortR_perm R).map _).nodup_iff.mpr h
  have h3 : (sortR R).Pairwise fun a b => a.1 ≠ b.1 := List.pairwise_map.mp h2
  refine (h1.and h3).imp fun {a b} hab => ?_
  have h := hab.1
  unfold leR at h
  rw [decide_eq_true_eq] at h
  rcases h with l | ⟨e, _⟩
  · exact l
  · exact absurd e hab.2
/-- sorted(list of rows) -/
def rSortR (K : PySem.W.Frag) : List V → Hp → VK → Prop := fun xs H Q => ∃ (a : Addr) (zs : List (V × Rw)), xs = [.ref a] ∧ SqL K H a (zs.map (·.1)) ∧ (∀ z ∈ zs, Dp K H z.1 (rowPy z.2)) ∧
  ∀ p, H p = none → Q (.ref p) (L2.upd H p (.lst ((zs.mergeSort fun a b => leR a.2 b.2).map (·.1))))
theorem each_rel : ∀ {zs : List (V × Rw)} {its : List Value}, Vals (zs.map (·.1)) its → PySem.W.EachIs (fun (v : Value) (z : V × Rw) => RelV z.1 v) its zs
  | [], _, .nil => .nil
  | _ :: _, _, .cons r t => .cons r (each_rel t)
theorem vals_each : ∀ {zs : List (V × Rw)} {its : List Value}, PySem.W.EachIs (fun (v : Value) (z : V × Rw) => RelV z.1 v) its zs → Vals (zs.map (·.1)) its
  | _, _, .nil => .nil
  | _, _, .cons r t => .cons r (vals_each t)
theorem call_sortR {X : Cx} {K : PySem.W.Frag} (hK : X.K = K) {k : Nat} (hrm : Rm k X.A) : CallR X (.builtin "sorted") (rSortR K) := by
  have hr := hrm.room
  subst hK
  intro pins s σ H vs us Q I r h
  obtain ⟨a, zs, rfl, hs, hd, q⟩ := h
  obtain ⟨its, rv, hl, hz⟩ := I.list hs
  rw [Vals.ref1 r]
  rw [List.length_map] at hz
  have e := each_rel rv
  have er : PySem.W.EachIs (fun (v : Value) (z : V × Rw) => ∃ as, Reads s.heap v (rowPy z.2) as) its zs := (PySem.W.each_mem e).mono fun v z ⟨h1, h2⟩ => Dp.reads I _ _ _ (hd z h2) h1
  refine PySem.W.sorted_data (enc := fun z : V × Rw => rowPy z.2) hl.isList e er ?_ ?_ hz ?_ fun out ho heo => ?_
  · intro d h1 d' h2
    obtain ⟨z, _, rfl⟩ := List.mem_map.mp h1
    obtain ⟨z', _, rfl⟩ := List.mem_map.mp h2
    simp [rowPy, PySem.W.alike, PySem.W.alikeAll]
  · refine .inl fun d h1 => ?_
    obtain ⟨z, _, rfl⟩ := List.mem_map.mp h1
    exact ⟨_, _, rfl⟩
  · intro z _
    have := hr.un
    have hdep : (rowPy z.2).depth ≤ 64 := by simp [rowPy, PyData.depth, PyData.depthAll]
    omega
  · have es : (zs.mergeSort (PySem.W.dataLe false fun z : V × Rw => rowPy z.2)) = zs.mergeSort fun a b => leR a.2 b.2 := by
      congr 1
      funext x y
      exact le_row x.2 y.2
    rw [es] at heo
    have rv2 := vals_each heo
    obtain ⟨ep, he'⟩ := PyProof.Rows.sortedAll_at s.heap its out.toArray
    have hlen : ((zs.mergeSort fun a b => leR a.2 b.2).map (·.1)).length ≤ sizeLine := by rw [List.length_map, List.length_mergeSort]; exact hz
    exact ⟨.ref _, L2.upd H (s.heap.objs.size + 1) (.lst ((zs.mergeSort fun a b => leR a.2 b.2).map (·.1))), I.laid (t' := s.toks) (fun _ _ => PyProof.Rows.sortedAll_old) (Nat.le_succ _) ⟨hlen, out, ep, rv2, he'⟩, rfl, q _ (I.hok.fresh (Nat.le_succ _))⟩
theorem rpA_zip {K : PySem.W.Frag} {H : Hp} : ∀ {vs : List V} {R : List Rw}, RpA K H vs (R.map encR) → ∃ zs : List (V × Rw), zs.map (·.1) = vs ∧ zs.map (·.2) = R ∧ ∀ z ∈ zs, Rp K H z.1 (encR z.2)
  | [], [], _ => ⟨[], rfl, rfl, fun _ h => nomatch h⟩
  | [], _ :: _, h => nomatch h
  | _ :: _, [], h => nomatch h
  | v :: vs, r :: R, h => by
    cases h with
    | cons h1 h2 =>
      obtain ⟨zs, e1, e2, e3⟩ := rpA_zip h2
      refine ⟨(v, r) :: zs, by rw [List.map_cons, e1], by rw [List.map_cons, e2], fun z hz => ?_⟩
      rcases List.mem_cons.mp hz with rfl | hz
      · exact h1
      · exact e3 z hz
theorem rpA_of {K : PySem.W.Frag} {H : Hp} : ∀ {zs : List (V × Rw)}, (∀ z ∈ zs, Rp K H z.1 (encR z.2)) → RpA K H (zs.map (·.1)) ((zs.map (·.2)).map encR)
  | [], _ => .nil
  | z :: zs, h => .cons (h z List.mem_cons_self) (rpA_of fun y hy => h y (List.mem_cons_of_mem _ hy))
section
variable {K : PySem.W.Frag} {H0 H : Hp} {ρ : DEnv} {μ : DMem} {k : Dv → DMem → Prop} {R : List Rw} {a : Dv}
theorem wc_sortR (h : IsL μ a (R.map encR)) (q : k (.lst ((sortR R).map encR)) μ) : wpC K H0 (rSortR K) [a] ρ μ k := fun σ H vs S r Q hQ => by
  cases r with
  | cons r rr =>
    cases rr
    obtain ⟨l, vs, rfl, e1, e2⟩ := h.at S.mem r
    obtain ⟨zs, z1, z2, z3⟩ := rpA_zip e2
    refine ⟨l, zs, rfl, .inl (.inl (by rw [z1]; exact e1)), fun z hz => ?_, fun p hp => ?_⟩
    · have := rp_dp (z3 z hz) (by simp [encR, pureD, pureD.pureA])
      exact Dp.up (hid_ge _ _) this
    · have em : (zs.mergeSort fun a b => leR a.2 b.2).map (·.2) = sortR R := by
        rw [← z2]
        exact List.map_mergeSort fun a _ b _ => rfl
      have rr := rpA_of (zs := zs.mergeSort fun a b => leR a.2 b.2) (K := K) (H := hid H (keys μ)) fun z hz => z3 z ((List.mergeSort_perm zs _).mem_iff.mp hz)
      rw [em] at rr
      obtain ⟨F, r⟩ := fo_lst S hp rr
      exact hQ _ μ _ _ q F r
end
end DL
/-! DLf: a text in a list of texts. -/
namespace DL
open PySem PySem.Spec PyProof.Rows L2
section
variable {K : PySem.W.Frag} {H0 H H' : Hp} {ρ : DEnv} {μ μ' : DMem} {σ : L2.St} {k : Dv → DMem → Prop} {x y : Tx} {a b d : Dv} {xs ys ds : List Dv} {p : Addr}
theorem rpA_strs {H : Hp} : ∀ {vs : List V} {ys : List Tx}, RpA K H vs (ys.map Dv.str) → vs = ys.map fun y => V.str (sT y)
  | _, [], .nil => rfl
  | _, _ :: _, .cons h r => by rw [h.str_inv, rpA_strs r]; rfl
theorem inV_strs (x : Tx) (ys : List Tx) : inV (.str (sT x)) (ys.map fun y => V.str (sT y)) = decide (x ∈ ys) := by
  unfold inV
  induction ys with
  | nil => simp
  | cons y ys ih =>
    rw [List.map_cons, List.any_cons, ih]
    have e : eqV (V.str (sT y)) (V.str (sT x)) = decide (x = y) := by
      show (sT y == sT x) = _
      by_cases h : x = y
      · subst h; simp
      · have : ¬ sT y = sT x := fun z => h (sT_inj.mp z).symm
        simp [h, this]
    rw [e]
    by_cases h : x = y
    · subst h; simp
    · simp [h]
theorem flat_strs (ys : List Tx) : (ys.map fun y => V.str (sT y)).all flatV = true := by
  rw [List.all_eq_true]
  intro v hv
  obtain ⟨y, _, rfl⟩ := List.mem_map.mp hv
  rfl
theorem wr_in {ys : List Tx} (h : IsL μ b (ys.map Dv.str)) (q : k (.bl (decide (x ∈ ys))) μ) : wpR K H0 (rInU K) (.str x) b ρ μ k := wr_2 fun σ H v w S r1 r2 Q hQ => by
  obtain ⟨l, vs, rfl, e1, e2⟩ := h.at S.mem r2
  have ev := rpA_strs e2
  subst ev
  cases r1.str_inv
  refine ⟨l, _, rfl, .inl (.inl (.inl e1)), rfl, flat_strs ys, ?_⟩
  rw [if_neg (by decide), inV_strs]
  exact hQ _ μ _ H q (Fo.refl S) (.bl _)
theorem wr_notIn {ys : List Tx} (h : IsL μ b (ys.map Dv.str)) (q : k (.bl (!decide (x ∈ ys))) μ) : wpR K H0 (rNotInU K) (.str x) b ρ μ k := wr_2 fun σ H v w S r1 r2 Q hQ => by
  obtain ⟨l, vs, rfl, e1, e2⟩ := h.at S.mem r2
  have ev := rpA_strs e2
  subst ev
  cases r1.str_inv
  refine ⟨l, _, rfl, .inl (.inl (.inl e1)), rfl, flat_strs ys, ?_⟩
  rw [if_pos rfl, inV_strs]
  exact hQ _ μ _ H q (Fo.refl S) (.bl _)
/-- what has just been made and is told to nobody is a value -/
theorem wp_cool {te : TE} (h : wpE K H0 te ρ μ fun d μ1 => ∃ p ds μ0, d = .ref p ∧ μ1 = (p, DCell.lst ds) :: μ0 ∧ k (.lst ds) μ0) : wpE K H0 te ρ μ k := fun σ H S Q hQ => by
  refine h σ H S _ fun d μ1 v H1 q F r => ?_
  obtain ⟨p, ds, μ0, rfl, rfl, hk⟩ := q
  obtain ⟨F3, r3⟩ := Sta.frz (μa := []) F.st
  have ev := r.ref_inv
  subst ev
  exact hQ _ _ _ _ hk (F.trans F3) r3
end
end DL
/-! DLg: try with several clauses 'except X as n', one name for all. -/
namespace DL
open PySem PySem.Spec PyProof.Rows L2
abbrev Suite := Addr → Value → Option Addr → TS
/-- the slot is emptied behind the suite -/
def endsBut (D : Ends) (i : Nat) : Ends :=
  { nx := fun τ G => D.nx (τ.set i none) G
    rt := D.rt
    bk := fun τ G => D.bk (τ.set i none) G
    ct := fun τ G => D.ct (τ.set i none) G }
/-- what the clauses wish of an exception -/
def wAll (K : PySem.W.Frag) (i : Nat) (Wo : WX) (D : Ends) : List (Value × Suite) → WX
  | [] => Wo
  | q :: r => fun cl d τ G => ∃ b, PySem.W.exmOne K cl q.1 = some b ∧
      (b = true → ∀ a, G a = none → q.2 a cl d (endsBut D i) (τ.set i (some (.ref a))) G) ∧
      (b = false → wAll K i Wo D r cl d τ G)
/-- the clauses' readings -/
inductive HdA (X : Cx) (n : Str) : List ExceptHandler → List (Value × Suite) → Prop
  | nil : HdA X n [] []
  | cons {y : Str} {c : Value} {ts : Suite} {st : Stmt} {su : List Stmt} {p1 p2 : Pos} {hds : List ExceptHandler} {l : List (Value × Suite)} (nm : Names X y c)
      (rd : ∀ (a : Addr) (o : Obj) (cl : Value) (d : Option Addr) (pn : List (Addr × Obj)), Zc cl d o → (∃ vs, o.data = .fields vs) →
        PSs (X.suite a ((a, o) :: pn)) (st :: su) (ts a cl d))
      (r : HdA X n hds l) : HdA X n (.ExceptHandler (some (.Name y p1)) (some n) (st :: su) p2 :: hds) ((c, ts) :: l)
/-- what stands in the heap as an exception is no frame -/
theorem no_frame {B : Heap} {L : List Env} {g : Heap} {o : Obj} {vs : Array Value} {a : Addr} (ff : g.FunFrames B L) (e : g.get? a = some o) (dt : o.data = .fields vs) : a ∉ frs L := fun m => by
  obtain ⟨_, o2, e2, nf⟩ := ff.mem m
  cases e.symm.trans e2
  exact nf _ dt
def tTryAll (K : PySem.W.Frag) (i : Nat) (tb : WX → TS) (L : List (Value × Suite)) (Wo : WX) : TS := fun D τ G => tb (wAll K i Wo D L) D τ G
theorem ps_tryAll {X : Cx} {n : Str} {i : Nat} {body : List Stmt} {k0 : ExceptHandler} {ks : List ExceptHandler} {L : List (Value × Suite)} {pos : Pos} {tb : WX → TS} {Wo : WX} (es : X.stack = X.env :: X.outer) (ef : X.env.frame = some X.env.locals) (nd : X.N.Nodup) (ei : X.N[i]? = some n)
    (el : X.env.kindOf n = some .local) (tk : Takes X Wo)
    (rb : ∀ (W : WX) (pn : List (Addr × Obj)) (xe : Value → Shared → Prop), Takes (X.tr pn xe) W → PassesOwn (model X.prog X.w) X.A X.env xe → PSs (X.tr pn xe) body (tb W)) (hh : HdA X n (k0 :: ks) L) :
    PS X (.Try body (k0 :: ks) [] [] pos) (tTryAll X.K i tb L Wo) := by
  constructor
  intro pins s τ G D I wish
  have ok := I.ok
  have frm : X.A.frames = some (X.env :: X.outer) := by
    rw [ok.frames]
    exact congrArg some es
  apply wpAny_Try_except
  refine wpAny_mono ((rb (wAll X.K i Wo D L) (X.pn ++ pins)
      (fun e t1 => wpAny (model X.prog X.w) X.A (noteFrame e X.env)
        (fun _ t2 => wpAny (model X.prog X.w) X.A (setFlight e none)
          (fun _ t3 => wpAny (model X.prog X.w) X.A (handleBy e X.env (k0 :: ks)) (SP X pins D) X.xe t3) X.xe t2) X.xe t1)
      (fun u s1 got => ?caught) PassesOwn.looking).run [] s τ G D (I.toTry _) wish) (fun fl s2 q => ?through) (fun _ _ q => q)
  case through =>
    cases fl with
    | next => exact q.elim fun τ2 q => q.elim fun G2 q => wpAny_execs_nil ⟨τ2, G2, q.1.ofTry ok, q.2⟩
    | brk => exact q.elim fun τ2 q => q.elim fun G2 q => ⟨τ2, G2, q.1.ofTry ok, q.2⟩
    | cont => exact q.elim fun τ2 q => q.elim fun G2 q => ⟨τ2, G2, q.1.ofTry ok, q.2⟩
    | ret u => exact q.elim fun v q => q.elim fun τ2 q => q.elim fun G2 q => ⟨v, τ2, G2, q.1.ofTry ok, q.2.1, q.2.2⟩
  case caught =>
    obtain ⟨a, B, t0, pins1, τ1, G1, cl, d, rfl, J1, nb, up, sky, na, os, ag, w⟩ := got
    have J : Inv X pins τ1 G1 t0 := J1.ofTry ok
    rw [es] at sky
    show wpAny (model X.prog X.w) X.A (noteFrame (.ref a) X.env) _ _ _
    refine Sky.land Zc.steady frm ef sky fun g3 down up3 => ?_
    have J3 : Inv X pins τ1 G1 { s1 with heap := g3 } := J.landed nb down.1 (up.trans up3) os ag
    obtain ⟨o3, vs3, at3, z3, dt3⟩ := down.there
    have out := no_frame down.2.2.1 at3 dt3
    have aL : a ≠ X.env.locals := by
      rintro rfl
      exact out (List.mem_filterMap.mpr ⟨X.env, by simp, by rw [ef]⟩)
    have aF : a ∉ X.fs := by
      intro m
      obtain ⟨v, hv, ev⟩ := List.mem_filterMap.mp m
      exact out (List.mem_filterMap.mpr ⟨v, List.mem_cons_of_mem X.env hv, ev⟩)
    have T3 := J3.suite at3 dt3 na aL aF
    -- one clause after the other
    have walk : ∀ {ks' : List ExceptHandler} {L' : List (Value × Suite)}, HdA X n ks' L' → wAll X.K i Wo D L' cl d τ1 G1 →
        wpAny (model X.prog X.w) X.A (handleBy (.ref a) X.env ks') (SP X pins D) X.xe { s1 with heap := g3 } := by
      intro ks' L' hk
      induction hk with
      | nil =>
        intro w
        apply wpAny_handleBy_nil
        have down2 := down
        obtain ⟨_, _, _, o, vs, T, oT, ts, at_, zz, dt, at0, _⟩ := down2
        unfold PySem.passOn
        apply wpAny_bind
        refine wpAny_field at_ dt at0 ?_
        rw [if_neg (show ¬ ((Value.ref T == Value.none) = true) by simp)]
        have last : wpAny (model X.prog X.w) X.A (setFlight (.ref a) X.env.frame)
            (fun _ t4 => wpAny (model X.prog X.w) X.A (throw (.ref a) : Sem Flow) (SP X pins D) X.xe t4) X.xe { s1 with heap := g3 } := by
          rw [ef]
          refine HandSPX.setFlight_upZ down fun g4 sky4 up4 => ?_
          apply wpAny_throw
          apply tk
          exact ⟨a, B, t0, pins, τ1, G1, cl, d, rfl, J, nb, (up.trans up3).trans up4, Or.inr (Or.inr (by rw [es]; exact sky4)), na, os, ag, w⟩
        first
          | exact wpAny_bind (wpAny_pure (wpAny_bind last))
          | exact wpAny_bind last
      | @cons y c ts st su p1 p2 ks2 l2 nm rd rest ih =>
        rintro ⟨b, eb, yes, no⟩
        refine wpAny_handleBy_cons (codeAny_handlers_test ?_) (by rintro ⟨⟩)
        have ty : PySem.W.Looks (model X.prog X.w) g3 (typeOf (.ref a)) cl := by
          intro A1 Q1 E1 t1 k1 q1
          exact wpAny_typeOf_ref (k1 _ _ at3) (by rw [z3.1]; exact q1)
        have look := PySem.W.exm_one (M := model X.prog X.w) J3.kIn ty eb
        have named : ∀ {Q1 : Value → Shared → Prop} {E1 : Value → Shared → Prop}, Q1 c { s1 with heap := g3 } →
            wpAny (model X.prog X.w) (X.A.mark (some (.ref a))) (eval (.Name y p1) X.env) Q1 E1 { s1 with heap := g3 } := by
          intro Q1 E1 q1
          obtain ⟨gl, dbg, own | ⟨none_, boot, nn⟩⟩ := nm
          · exact ld_glob (X := X.suite a ((a, o3) :: (X.pn ++ pins))) T3 gl own q1 dbg
          · exact ld_blt (X := X.suite a ((a, o3) :: (X.pn ++ pins))) T3 gl none_ boot q1 nn dbg
        refine named (look.here ?_)
        cases b with
        | false => exact ih (no rfl)
        | true =>
          apply codeAny_handlers_suite_as
          refine HandSPX.lands_againZ down fun g4 down4 up4 => ?_
          have J4 : Inv X pins τ1 G1 { s1 with heap := g4 } := J.landed nb down4.1 ((up.trans up3).trans up4) os ag
          obtain ⟨o4, vs4, at4, z4, dt4⟩ := down4.there
          have T4 := J4.suite at4 dt4 na aL aF
          refine store_ok (X := X.suite a ((a, o4) :: (X.pn ++ pins))) (v := .ref a) T4 nd ei (Or.inl el) rfl (fun t5 T5 => ?_) (Or.inr el)
          refine wpAny_mono ((rd a o4 cl d (X.pn ++ pins) z4 ⟨_, dt4⟩).run [] t5 _ G1 _ T5 (yes rfl a na)) (fun fl t6 q => ?_) (fun _ _ z => z.elim)
          have gone : ∀ {τ6 : L2.St} {G6 : Hp} {Q : Shared → Prop}, Inv (X.suite a ((a, o4) :: (X.pn ++ pins))) [] τ6 G6 t6 → (∀ t7, Inv X pins (τ6.set i none) G6 t7 → Q t7) →
              wpAny (model X.prog X.w) X.A (do bindName X.env n .none; unbindBehindTheSuite X.env n p2) (fun _ t7 => Q t7) X.xe t6 := by
            intro τ6 G6 Q S6 hq
            exact gone_ok (S6.unsuite ok) nd ei el hq
          cases fl with
          | next => exact q.elim fun τ6 q => q.elim fun G6 q => gone q.1 fun t7 J7 => ⟨_, _, J7, q.2⟩
          | brk => exact q.elim fun τ6 q => q.elim fun G6 q => gone q.1 fun t7 J7 => ⟨_, _, J7, q.2⟩
          | cont => exact q.elim fun τ6 q => q.elim fun G6 q => gone q.1 fun t7 J7 => ⟨_, _, J7, q.2⟩
          | ret u => exact q.elim fun v q => q.elim fun τ6 q => q.elim fun G6 q => gone q.1 fun t7 J7 => ⟨_, _, _, J7, q.2.1, q.2.2⟩
    exact walk hh w
theorem ps_tryAllK {X : Cx} {K : PySem.W.Frag} {n : Str} {i : Nat} {body : List Stmt} {k0 : ExceptHandler} {ks : List ExceptHandler} {L : List (Value × Suite)} {pos : Pos} {tb : WX → TS} {Wo : WX} (hK : X.K = K) (es : X.stack = X.env :: X.outer) (ef : X.env.frame = some X.env.locals) (nd : X.N.Nodup) (ei : X.N[i]? = some n)
    (el : X.env.kindOf n = some .local) (tk : Takes X Wo)
    (rb : ∀ (W : WX) (pn : List (Addr × Obj)) (xe : Value → Shared → Prop), Takes (X.tr pn xe) W → PassesOwn (model X.prog X.w) X.A X.env xe → PSs (X.tr pn xe) body (tb W)) (hh : HdA X n (k0 :: ks) L) :
    PS X (.Try body (k0 :: ks) [] [] pos) (tTryAll K i tb L Wo) := by
  subst hK
  exact ps_tryAll es ef nd ei el tk rb hh
/-- over data: what the clauses wish of a raised class -/
def wpAll (K : PySem.W.Frag) (H1 : Hp) (i : Nat) (ρ : DEnv) (μ : DMem) (P : Post) (no : Prop) (C : Addr) : List (Value × Suite) → Prop
  | [] => no
  | q :: r => ∃ b, PySem.W.exmOne K (.ref C) q.1 = some b ∧ (b = true → ∀ a, wpS K H1 (q.2 a (.ref C) none) (ρ.set i (some (.ref a))) μ (P.drop i)) ∧ (b = false → wpAll K H1 i ρ μ P no C r)
theorem wpAll_run {K : PySem.W.Frag} {H1 H0 : Hp} {mg : Str → Option Value} {i : Nat} {ρ : DEnv} {μ : DMem} {P : Post} {ex : Str → DEnv → DMem → Prop} {Wo : WX} {x : Str} {C : Addr} {D : Ends} (hO : Wok K H0 mg Wo ex) (g : Ge H0 H1) (m : mg x = some (Value.ref C)) (O : PostOk K H1 P D) :
    ∀ (L : List (Value × Suite)), wpAll K H1 i ρ μ P (ex x ρ μ) C L → ∀ σ H, Sta K H1 ρ μ σ H → wAll K i Wo D L (.ref C) none σ H
  | [], h, σ, H, S => hO x C ρ μ σ H h m (S.low g)
  | q :: r, ⟨b, e, h1, h2⟩, σ, H, S => ⟨b, e, fun eb a _ => h1 eb a H1 (Ge.refl _) _ _ (S.set (.ref a) i) _ (O.drop i), fun eb => wpAll_run hO g m O r (h2 eb) σ H S⟩
theorem wp_tryAll {K : PySem.W.Frag} {H0 : Hp} {mg : Str → Option Value} {i : Nat} {ρ : DEnv} {μ : DMem} {P : Post} {ex : Str → DEnv → DMem → Prop} {tb : WX → TS} {L : List (Value × Suite)} {Wo : WX} (ex' : Str → DEnv → DMem → Prop) (hO : Wok K H0 mg Wo ex)
    (hs : ∀ H1, Ge H0 H1 → ∀ x C ρ μ, ex' x ρ μ → mg x = some (Value.ref C) → wpAll K H1 i ρ μ P (ex x ρ μ) C L)
    (hb : ∀ H1, Ge H0 H1 → ∀ W, Wok K H1 mg W ex' → wpS K H1 (tb W) ρ μ P) : wpS K H0 (tTryAll K i tb L Wo) ρ μ P := fun H1 g σ H S D O => by
  refine hb H1 g _ (fun x C ρ μ σ H e m S => ?_) H1 (Ge.refl _) σ H S D O
  exact wpAll_run hO g m O L (hs H1 g x C ρ μ e m) σ H S
end DL
/-! DLh: texts: walked sign by sign, split, found, joined. -/
namespace DL
open PySem PySem.Spec PyProof.Rows L2
section
variable {K : PySem.W.Frag} {H0 H H' : Hp} {ρ : DEnv} {μ μ' : DMem} {σ : L2.St} {k : Dv → DMem → Prop} {ki : List Dv → DMem → Prop} {te : TE} {x y : Tx} {a b d : Dv} {xs ys ds : List Dv} {p : Addr}
theorem walk_s {Hb : Hp} : WalkD K Hb (Its (sT x)) (x.map fun c => Dv.str [c]) := fun H g i => by
  have hs : (sT x).cps.size = x.length := by simp [sT]
  refine ⟨fun h => ?_, fun h => ?_, fun v H' hi hy => ?_⟩
  · show i < (sT x).cps.size
    rw [hs]
    simpa using h
  · show (sT x).cps.size ≤ i
    rw [hs]
    simpa using h
  · obtain ⟨rfl, c, hc, rfl⟩ := hy
    have hx : x[i]? = some c := by simpa [sT] using hc
    exact ⟨Ge.refl _, .str [c], by rw [List.getElem?_map, hx]; rfl, fun O _ _ => .str [c]⟩
theorem wi_str (h : wpE K H0 te ρ μ fun d μ1 => ∃ x, d = .str x ∧ ki (x.map fun c => Dv.str [c]) μ1) : wpI K H0 (iStr te) ρ μ ki := fun σ H S R hR => by
  refine h σ H S _ fun d μ1 v H1 q F r => ?_
  obtain ⟨x, rfl, hk⟩ := q
  exact ⟨sT x, r.str_inv, hR _ _ _ _ hk F walk_s⟩
/-- a method of a text with one argument -/
def rFind : V → List V → Hp → VK → Prop := fun x xs H Q => ∃ a b, x = .str a ∧ xs = [.str b] ∧ Q (.int (Txt.find a b)) H
def rSplit : V → List V → Hp → VK → Prop := fun x xs H Q => ∃ a b, x = .str a ∧ xs = [.str b] ∧ (b.length == 0) = false ∧ a.length + 2 ≤ sizeLine ∧ rNewStrs (Txt.split a b) H Q
def rJoin (K : PySem.W.Frag) : V → List V → Hp → VK → Prop := fun x xs H Q => ∃ a p, ∃ ys : List Str, x = .str a ∧ xs = [.ref p] ∧ (SqL K H p (ys.map V.str) ∨ SqT K H p (ys.map V.str)) ∧ (ys.map (·.length)).sum + ys.length * a.length ≤ 16777216 ∧ Q (.str (Txt.join a ys)) H
theorem wp_find {to : TE} (h : wpE K H0 to ρ μ fun o μ1 => ∃ x, o = .str x ∧ wpE K H0 te ρ μ1 fun d μ2 => ∃ y, d = .str y ∧ k (.int (Txt.find (sT x) (sT y))) μ2) : wpE K H0 (tM1 rFind to te) ρ μ k := fun σ H S Q hQ => by
  refine h σ H S _ fun o μ1 v H1 q F r => ?_
  obtain ⟨x, rfl, q⟩ := q
  refine ⟨⟨_, r.str_inv⟩, ?_⟩
  have ev := r.str_inv
  refine q σ H1 F.st _ fun d μ2 w H2 q2 F2 r2 => ?_
  obtain ⟨y, rfl, q2⟩ := q2
  exact ⟨sT x, sT y, ev, by rw [r2.str_inv], hQ _ μ2 _ H2 q2 (F.trans F2) (.int _)⟩
theorem rpA_of_strs {H : Hp} (ys : List Tx) : RpA K H (ys.map fun y => V.str (sT y)) (ys.map Dv.str) := by
  induction ys with
  | nil => exact .nil
  | cons y ys ih => exact .cons (.str y) ih
theorem sT_toList (z : Str) : sT z.cps.toList = z := sT_cps z
/-- x.split(y): a new list -/
theorem wp_split {to : TE} (h : wpE K H0 to ρ μ fun o μ1 => ∃ x, o = .str x ∧ wpE K H0 te ρ μ1 fun d μ2 => ∃ y, d = .str y ∧ y ≠ [] ∧ x.length + 2 ≤ sizeLine ∧ k (.lst ((Txt.split (sT x) (sT y)).map fun z => Dv.str z.cps.toList)) μ2) : wpE K H0 (tM1 rSplit to te) ρ μ k := fun σ H S Q hQ => by
  refine h σ H S _ fun o μ1 v H1 q F r => ?_
  obtain ⟨x, rfl, q⟩ := q
  have ev := r.str_inv
  refine ⟨⟨_, ev⟩, ?_⟩
  refine q σ H1 F.st _ fun d μ2 w H2 q2 F2 r2 => ?_
  obtain ⟨y, rfl, hy, hx, q2⟩ := q2
  refine ⟨sT x, sT y, ev, by rw [r2.str_inv], ?_, by rw [len_sT]; exact hx, fun p hp => ?_⟩
  · rw [len_sT]
    cases y with
    | nil => exact absurd rfl hy
    | cons _ _ => rfl
  · have e : (Txt.split (sT x) (sT y)).map V.str = ((Txt.split (sT x) (sT y)).map fun z => z.cps.toList).map fun z => V.str (sT z) := by
      rw [List.map_map]
      apply List.map_congr_left
      intro z _
      show V.str z = V.str (sT z.cps.toList)
      rw [sT_toList]
    have e2 : ((Txt.split (sT x) (sT y)).map fun z => Dv.str z.cps.toList) = ((Txt.split (sT x) (sT y)).map fun z => z.cps.toList).map Dv.str := by rw [List.map_map]; rfl
    rw [e]
    rw [e2] at q2
    obtain ⟨F3, r3⟩ := fo_lst (ds := ((Txt.split (sT x) (sT y)).map fun z => z.cps.toList).map Dv.str) F2.st hp (rpA_of_strs _)
    exact hQ _ _ _ _ q2 (F.trans (F2.trans F3)) r3
/-- x.join(ys) -/
theorem wp_join {to : TE} (h : wpE K H0 to ρ μ fun o μ1 => ∃ x, o = .str x ∧ wpE K H0 te ρ μ1 fun d μ2 => ∃ ys : List Tx, IsL μ2 d (ys.map Dv.str) ∧ (ys.map (·.length)).sum + ys.length * x.length ≤ 16777216 ∧ k (.str (Txt.join (sT x) (ys.map sT)).cps.toList) μ2) : wpE K H0 (tM1 (rJoin K) to te) ρ μ k := fun σ H S Q hQ => by
  refine h σ H S _ fun o μ1 v H1 q F r => ?_
  obtain ⟨x, rfl, q⟩ := q
  have ev := r.str_inv
  refine ⟨⟨_, ev⟩, ?_⟩
  refine q σ H1 F.st _ fun d μ2 w H2 q2 F2 r2 => ?_
  obtain ⟨ys, hl, hz, q2⟩ := q2
  obtain ⟨p, vs, rfl, e1, e2⟩ := hl.at F2.st.mem r2
  have e3 := rpA_strs e2
  subst e3
  refine ⟨sT x, p, ys.map sT, ev, rfl, .inl (.inl (.inl ?_)), ?_, ?_⟩
  · rw [List.map_map]
    exact e1
  · rw [List.map_map, List.length_map, len_sT]
    have : (ys.map ((fun z : Str => z.length) ∘ sT)) = ys.map (·.length) := by
      apply List.map_congr_left
      intro z _
      exact len_sT z
    rw [this]
    exact hz
  · have := hQ _ μ2 _ H2 q2 (F.trans F2) (.str _)
    rw [sT_toList] at this
    exact this
end
end DL
/-! DLi: own classes: made, their methods, their fields; new dicts; isinstance of every cell. -/
namespace DL
open PySem PySem.Spec PyProof.Rows L2
theorem Rm.make {m : Nat} {A : Around} (r : Rm (m + 1) A) (C : Addr) (us : List Value) (kw : List (Str × Value)) : Rm m (A.under (.builtin "type.__call__" ⟨.ref C :: us, kw⟩)) := by
  obtain ⟨a, b, c⟩ := r
  refine ⟨a, ?_, ?_⟩
  · rw [make_depth]
    omega
  · rw [make_units]
    omega
/-- C(..), o.m(..): exceptions land in the state where the call stands -/
def tMkS (C : Addr) (sp : Sp) (E : L2.St → XK) (t : TA) : TE := fun σ H Q => t σ H fun vs H1 => ∀ x dx, H1 x = none → H1 dx = none → dx ≠ x →
  sp (.ref x :: vs) (L2.upd (L2.upd H1 dx (.own x)) x (.ins C dx [])) (fun v H2 => v = .non ∧ Q (.ref x) H2) (E σ)
def tMthS (C : Addr) (m : Str) (sp : Sp) (E : L2.St → XK) (ta : TE) (t : TA) : TE := fun σ H Q => ta σ H fun x H1 => ∃ a dx fs, x = .ref a ∧ H1 a = some (.ins C dx fs) ∧ fs.lookup m = none ∧
  t σ H1 fun vs H2 => sp (x :: vs) H2 Q (E σ)
/-- a class of the text and its methods -/
structure OCls (K : PySem.W.Frag) (mg : Str → Option Value) (x : Str) (C : Addr) : Prop where
  cl : Cls K C
  mg : mg x = some (.ref C)
  mks : PySem.W.makesIn K C = true
  kp : PySem.W.keepIn K (.ref C) = true
structure DfM (P : Program) (w : World) (K : PySem.W.Frag) (mg : Str → Option Value) (base : Heap) (k : Nat) (C : Addr) (m : Str) (ps : List Str) (S : Spc) : Prop where
  ex : ∃ f fd, FnD P w K mg base k f fd ps (spOf K mg ps.length S) ∧ Meth K C m f ∧ Binds K fd ps []
theorem DfM.mk' {P : Program} {w : World} {K : PySem.W.Frag} {mg : Str → Option Value} {base : Heap} {x qual : Str} {st : Stmt} {f C : Addr} {fd : FuncData} {ps : List Str} {k : Nat} {S : Spc} (F : Fun K x qual st f fd) (hm : Meth K C x f) (b : Binds K fd ps []) (h : FnD P w K mg base k f fd ps (spOf K mg ps.length S)) : DfM P w K mg base k C x ps S := ⟨f, fd, h, hm, b⟩
theorem DfM.mono {P : Program} {w : World} {K : PySem.W.Frag} {mg : Str → Option Value} {base : Heap} {C : Addr} {x : Str} {ps : List Str} {j k : Nat} {S : Spc} (F : DfM P w K mg base j C x ps S) (h : j ≤ k) : DfM P w K mg base k C x ps S := by
  obtain ⟨f, fd, G, a, b⟩ := F.ex
  exact ⟨f, fd, ⟨G.ln, fun A outer s H args us vs Q E hr => G.go A outer s H args us vs Q E (hr.mono h)⟩, a, b⟩
section
variable {X : Cx} {k : Nat} {f C : Addr} {fd : FuncData} {ps : List Str} {sp : Sp} {E : L2.St → XK} {x m : Str} {p pos apos : Pos} {e o : Expr} {es : List Expr} {ta : TE} {t : TA}
theorem run_fnD {pins : List (Addr × Obj)} {σ : L2.St} {H : Hp} {s : Shared} {Q : VK} {us : List Value} {vs : List V} (F : FnD X.prog X.w X.K X.mg X.base k f fd ps sp) (hr : Rm k X.A) (hb : Binds X.K fd ps []) (hx : ∀ σ, PassesAt (L2.CX X.prog X.w) X σ (E σ))
    (I : Inv X pins σ H s) (r : Vals vs us) (h : sp vs H Q (E σ)) : wpAny (model X.prog X.w) X.A (call (.ref f) us) (EP X pins σ Q) X.xe s := by
  have hl : us.length = ps.length := by
    rw [← r.length]
    exact F.ln _ _ _ _ h
  have bd := hb s us I.kIn (by rw [List.append_nil]; exact hl)
  rw [List.append_nil] at bd
  refine wpAny_call (codeAny_mono (F.go X.A X.stack s H ⟨us, []⟩ us vs Q (E σ) hr I.env0 bd r h) fun q s2 z => ?_)
  cases q with
  | error ev => exact hx σ pins H s ev s2 I z
  | ok fl =>
    cases fl with
    | ret u => exact I.after z
    | next => exact z.elim
    | brk => exact z.elim
    | cont => exact z.elim
theorem run_mkD {pins : List (Addr × Obj)} {σ : L2.St} {H : Hp} {s : Shared} {Q : VK} {us : List Value} {vs : List V} (M : Mk X.K C f) (F : FnD X.prog X.w X.K X.mg X.base k f fd ps sp) (hr : Rm (k + 1) X.A) (hb : Binds X.K fd ps []) (hx : ∀ σ, PassesAt (L2.CX X.prog X.w) X σ (E σ))
    (I : Inv X pins σ H s) (r : Vals vs us)
    (h : ∀ x dx, H x = none → H dx = none → dx ≠ x → sp (.ref x :: vs) (L2.upd (L2.upd H dx (.own x)) x (.ins C dx [])) (fun v H2 => v = .non ∧ Q (.ref x) H2) (E σ)) :
    wpAny (model X.prog X.w) X.A (call (.ref C) us) (EP X pins σ Q) X.xe s := by
  have hq := h (s.heap.objs.size + 1) s.heap.objs.size (I.hok.fresh (Nat.le_succ _)) (I.hok.fresh (Nat.le_refl _)) (Nat.ne_of_lt (Nat.lt_succ_self _))
  have I2 := Inv.made (C := C) I
  have r2 : Vals (V.ref (s.heap.objs.size + 1) :: vs) (Value.ref (s.heap.objs.size + 1) :: us) := .cons rfl r
  have hl : (Value.ref (s.heap.objs.size + 1) :: us).length = ps.length := by
    have e := r2.length
    rw [F.ln _ _ _ _ hq] at e
    exact e.symm
  have bd := hb _ (Value.ref (s.heap.objs.size + 1) :: us) I2.kIn (by rw [List.append_nil]; exact hl)
  rw [List.append_nil] at bd
  refine wpAny_call (make_map (f := f) I.kIn M.makes M.init (beq_iff_eq.mp M.fn) (codeAny_mono (F.go _ X.stack _ _ ⟨Value.ref (s.heap.objs.size + 1) :: us, []⟩ (Value.ref (s.heap.objs.size + 1) :: us) _ _ (E σ) (hr.make C us [])
    (I2.env0.make C us []) bd r2 hq) fun q s' hq' => ?_))
  cases q with
  | error ev => exact hx σ pins _ _ ev s' I2 hq'
  | ok fl =>
    cases fl with
    | ret u =>
      obtain ⟨v, H', I3, rv, ev, q3⟩ := I2.after hq'
      subst ev
      exact ⟨rv, ⟨V.ref (s.heap.objs.size + 1), H', I3, rfl, q3⟩⟩
    | next => exact hq'.elim
    | brk => exact hq'.elim
    | cont => exact hq'.elim
variable {P : Program} {w : World} {K : PySem.W.Frag} {mg : Str → Option Value} {base : Heap} {S : Spc} {W : WX}
/-- C() -/
theorem pe_mkD0 (O : OCls K mg x C) (F : DfM P w K mg base k C "__init__" ps S) (h1 : X.prog = P ∧ X.w = w ∧ X.K = K ∧ X.mg = mg ∧ X.base = base) (hr : Rm (k + 1) X.A) (tk : Takes X W) (hg : Gl X x) (hdb : (x == ("__debug__" : Str)) = false := by decide) :
    PE X (.Call (.Name x p) [] [] pos) (tMkS C (spOf K mg ps.length S) (WE W) tNil) := by
  obtain ⟨rfl, rfl, rfl, rfl, rfl⟩ := h1
  obtain ⟨f, fd, F, hm, hb⟩ := F.ex
  refine ⟨fun pins s σ H Q I h => ?_⟩
  refine wpAny_Call_Name_kw (ld_glob I hg O.mg ?_ hdb)
  exact PySem.W.callWith_K0 I.kIn O.kp (run_mkD (us := []) ⟨O.mks, hm.at_, hm.fn, O.kp⟩ F hr hb (fun σ => passAt tk σ) I .nil h)
/-- o.m(e, ..) -/
theorem pe_mthD {pl : Sem Bool} (c : Cls K C) (F : DfM P w K mg base k C m ps S) (h1 : X.prog = P ∧ X.w = w ∧ X.K = K ∧ X.mg = mg ∧ X.base = base) (hr : Rm k X.A) (tk : Takes X W) (he : PE X o ta) (ha : PA X (e :: es) t)
    (hst : starEach (e :: es) X.env = (false, eval e X.env) :: starEach es X.env := by rfl) (hpl : (backTo pos (starEach es X.env)).any (·.1) = false := by rfl)
    (ht : eval (.Call (.Attribute o m apos) (e :: es) [] pos) X.env = (do
      let ov ← eval o X.env
      standAt apos.atName
      let (f, first) ← holding [ov] (getMethod ov m pl)
      callWith pos f first (backTo pos (starEach (e :: es) X.env)) (backToKw pos (keywordEach [] X.env))) := by rfl) :
    PE X (.Call (.Attribute o m apos) (e :: es) [] pos) (tMthS C m (spOf K mg ps.length S) (WE W) ta t) := by
  obtain ⟨rfl, rfl, rfl, rfl, rfl⟩ := h1
  obtain ⟨f, fd, F, hm, hb⟩ := F.ex
  refine ⟨fun pins s σ H Q I h => ?_⟩
  refine PySem.W.methodCall_KW (pl := pl) (thn (he.run pins s σ H _ I h) fun u s1 ⟨x, H1, I1, rx, a, dx, fs, ex, ea, l, q⟩ => ?_) ht
  subst ex
  obtain rfl : u = Value.ref a := rx
  refine getmeth_ok I1 ea c hm l ?_
  refine PySem.W.callWith_K (first := [.ref a]) (h₀ := X.base) I.ok.mod.kin hm.kp (thn (ha.run pos pins s1 σ H1 _ I1 q) fun us s2 ⟨vs, H2, I2, r, q2⟩ => ⟨I2.kIn, ?_⟩) hst hpl
  exact run_fnD (us := .ref a :: us) (vs := .ref a :: vs) F hr hb (fun σ => passAt tk σ) I2 (.cons rfl r) q2
/-- o.m() -/
theorem pe_mthD0 {pl : Sem Bool} (c : Cls K C) (F : DfM P w K mg base k C m ps S) (h1 : X.prog = P ∧ X.w = w ∧ X.K = K ∧ X.mg = mg ∧ X.base = base) (hr : Rm k X.A) (tk : Takes X W) (he : PE X o ta)
    (ht : eval (.Call (.Attribute o m apos) [] [] pos) X.env = (do
      let ov ← eval o X.env
      standAt apos.atName
      let (f, first) ← holding [ov] (getMethod ov m pl)
      callWith pos f first (backTo pos (starEach [] X.env)) (backToKw pos (keywordEach [] X.env))) := by rfl) :
    PE X (.Call (.Attribute o m apos) [] [] pos) (tMthS C m (spOf K mg ps.length S) (WE W) ta tNil) := by
  obtain ⟨rfl, rfl, rfl, rfl, rfl⟩ := h1
  obtain ⟨f, fd, F, hm, hb⟩ := F.ex
  refine ⟨fun pins s σ H Q I h => ?_⟩
  refine PySem.W.methodCall_KW (pl := pl) (thn (he.run pins s σ H _ I h) fun u s1 ⟨x, H1, I1, rx, a, dx, fs, ex, ea, l, q⟩ => ?_) ht
  subst ex
  obtain rfl : u = Value.ref a := rx
  refine getmeth_ok I1 ea c hm l ?_
  exact PySem.W.callWith_K0 (first := [.ref a]) I1.kIn hm.kp (run_fnD (us := [.ref a]) (vs := [.ref a]) F hr hb (fun σ => passAt tk σ) I1 (.cons rfl .nil) q)
theorem pe_fldK (hK : X.K = K) (he : PE X e ta) (hb : attributeBase e m X.env (eval e X.env) = eval e X.env) : PE X (.Attribute e m pos) (tFld K ta m) := by
  subst hK
  exact pe_fld he hb
theorem ps_fldK {tv : TE} {value : Expr} {pos' : Pos} (hK : X.K = K) (ha : PE X o ta) (hv : PE X value tv) (hs : swapsWith value (some (.Attribute o m pos')) pos.line X.env = pure false) : PS X (.Assign [.Attribute o m pos'] value pos) (sFld K ta tv m) := by
  subst hK
  exact ps_fld ha hv hs
theorem mt_joinK (h : X.K = K) : MtR X "str.join" (rJoin K) := by
  subst h
  exact mt_join
end
section
variable {K : PySem.W.Frag} {mg : Str → Option Value} {H0 H H' : Hp} {ρ : DEnv} {μ μ' μa μb : DMem} {σ : L2.St} {k : Dv → DMem → Prop} {te ta tv : TE} {t : TA} {a C dx p : Addr} {b d : Dv} {xs ys ds : List Dv} {P : Post} {W : WX} {ex : Str → DEnv → DMem → Prop} {S : Spc} {n : Nat} {m f : Str}
theorem FsR.lookN : ∀ {vs : List (Str × V)} {fs : List (Str × Dv)} {f : Str}, FsR K H vs fs → fs.lookup f = none → vs.lookup f = none
  | _, _, _, .nil, _ => rfl
  | _, _, f, .cons (f := g) r t, e => by
    rw [List.lookup_cons] at e ⊢
    by_cases hg : (f == g) = true
    · rw [hg] at e
      cases e
    · have hg' : (f == g) = false := by simpa using hg
      rw [hg'] at e ⊢
      exact FsR.lookN t e
theorem FsR.len : ∀ {vs : List (Str × V)} {fs : List (Str × Dv)}, FsR K H vs fs → vs.length = fs.length
  | _, _, .nil => rfl
  | _, _, .cons _ t => by rw [List.length_cons, List.length_cons, FsR.len t]
def putD (f : Str) (v : Dv) : List (Str × Dv) → List (Str × Dv)
  | [] => [(f, v)]
  | (g, x) :: r => if g = f then (g, v) :: r else (g, x) :: putD f v r
theorem FsR.put {v : V} (r : Rp K H v d) : ∀ {vs : List (Str × V)} {fs : List (Str × Dv)}, FsR K H vs fs → FsR K H (putF f v vs) (putD f d fs)
  | _, _, .nil => .cons r .nil
  | _, _, .cons (f := g) (v := u) (d := e) q t => by
    show FsR K H (if g = f then (g, v) :: _ else (g, u) :: putF f v _) (if g = f then (g, d) :: _ else (g, e) :: putD f d _)
    split
    · exact .cons r t
    · exact .cons q (FsR.put r t)
theorem wp_mk (hW : Wok K H0 mg W ex) (h : wpA K H0 t ρ μ fun ds μ1 => ds.length + 1 = n ∧ ∀ x dx, S (.ref x :: ds) ((x, .ins C dx []) :: (dx, .own x) :: μ1) (fun v μ2 => v = .non ∧ k (.ref x) μ2) (fun c μ2 => ex c ρ μ2)) :
    wpE K H0 (tMkS C (spOf K mg n S) (WE W) t) ρ μ k := fun σ H St Q hQ => by
  refine h σ H St _ fun ds μ1 vs H1 q F r => ?_
  intro x dx hx hdx nd
  have g1 := hid_cell (μ := μ1) (c := .own x) (o := .own x) hdx
  have M1 := F.st.mem.cell (c := .own x) (o := .own x) hdx upd_same
  have hx2 : L2.upd H1 dx (.own x) x = none := by rw [upd_ne (Ne.symm nd)]; exact hx
  have g2 := hid_cell (μ := (dx, .own x) :: μ1) (c := .ins C dx []) (o := .ins C dx []) hx2
  have M2 := M1.cell (c := .ins C dx []) (o := .ins C dx []) hx2 ⟨[], upd_same, .nil⟩
  have F2 : Fo K H0 ρ μ σ H ((x, .ins C dx []) :: (dx, .own x) :: μ1) (L2.upd (L2.upd H1 dx (.own x)) x (.ins C dx [])) := F.trans ⟨F.st.go M2 (g1.trans g2), g1.trans g2⟩
  refine ⟨.ref x :: ds, _, _, fun c μ2 => ex c ρ μ2, by rw [List.length_cons]; exact q.1, .cons (.ref x) (r.mono (g1.trans g2)), M2, q.2 x dx, fun d μ' v H' hk M g r' => ?_, fun c D μ' H' he hm M g => hW c D ρ μ' σ H' he hm (F2.st.go M g)⟩
  obtain ⟨rfl, hk⟩ := hk
  exact ⟨r'.non_inv, hQ _ μ' _ H' hk (F2.trans ⟨F2.st.go M g, g⟩) (.ref x)⟩
theorem wp_mth (hW : Wok K H0 mg W ex) (h : wpE K H0 ta ρ μ fun o μ1 => ∃ a dx fs, o = .ref a ∧ (a, DCell.ins C dx fs) ∈ μ1 ∧ fs.lookup m = none ∧ wpA K H0 t ρ μ1 fun ds μ2 => ds.length + 1 = n ∧ S (.ref a :: ds) μ2 k (fun c μ3 => ex c ρ μ3)) :
    wpE K H0 (tMthS C m (spOf K mg n S) (WE W) ta t) ρ μ k := fun σ H St Q hQ => by
  refine h σ H St _ fun o μ1 v H1 q F r => ?_
  obtain ⟨a, dx, fs, rfl, hm, hl, q⟩ := q
  obtain ⟨vs, e1, e2⟩ := F.st.mem.ok _ hm
  refine ⟨a, dx, vs, r.ref_inv, e1, e2.lookN hl, ?_⟩
  have ev := r.ref_inv
  subst ev
  refine q σ H1 F.st _ fun ds μ2 us H2 q2 F2 r2 => ?_
  exact ⟨.ref a :: ds, μ2, k, fun c μ3 => ex c ρ μ3, by rw [List.length_cons]; exact q2.1, .cons (.ref a) r2, F2.st.mem, q2.2, fun d μ' v H' hk M g r' => hQ d μ' v H' hk ((F.trans F2).trans ⟨F2.st.go M g, g⟩) r', fun c D μ' H' he hm M g => hW c D ρ μ' σ H' he hm (F2.st.go M g)⟩
theorem wp_sfld (h : wpE K H0 tv ρ μ fun d μ1 => wpE K H0 ta ρ μ1 fun o μ2 => ∃ a μa C dx fs μb, o = .ref a ∧ μ2 = μa ++ (a, .ins C dx fs) :: μb ∧ Cls K C ∧ NoAttr K C f ∧ fs.length < 1000 ∧ P.nx ρ (μa ++ (a, .ins C dx (putD f d fs)) :: μb)) : wpS K H0 (sFld K ta tv f) ρ μ P := fun H1 g σ H S D O =>
  h σ H (S.low g) _ fun d μ1 v H2 q F r => q σ H2 F.st _ fun o μ2 u H3 q2 F2 r2 => by
    obtain ⟨a, μa, C, dx, fs, μb, rfl, rfl, c, na, hl, q3⟩ := q2
    obtain ⟨vs, e1, e2⟩ := F2.st.mem.ok (a, .ins C dx fs) mem_mid
    refine ⟨a, C, dx, vs, r2.ref_inv, e1, c, na, by rw [e2.len]; exact hl, ?_⟩
    have ek : keys (μa ++ (a, DCell.ins C dx (putD f d fs)) :: μb) = keys (μa ++ (a, DCell.ins C dx fs) :: μb) := by rw [keys_mid, keys_mid]
    have g0 : Ge (hid H3 (keys (μa ++ (a, DCell.ins C dx fs) :: μb))) (hid (L2.upd H3 a (.ins C dx (putF f v vs))) (keys (μa ++ (a, DCell.ins C dx (putD f d fs)) :: μb))) := fun x u e => by
      obtain ⟨z1, z2⟩ := hid_some e
      have ne : x ≠ a := fun z => z1 (by rw [z, keys_mid]; simp)
      rw [ek, hid_of z1, upd_ne ne]
      exact z2
    obtain ⟨M, g'⟩ := F2.st.mem.upd (c' := .ins C dx (putD f d fs)) (o := .ins C dx (putF f v vs)) ⟨putF f v vs, upd_same, (FsR.mono g0 (e2.put (r.mono F2.ge)))⟩
    exact O.nx _ _ _ _ q3 ((((F.up S).go F2.st.mem F2.ge)).go M g')
/-- a new dict -/
theorem wp_dnew (h : ∀ p, k (.ref p) ((p, .dct []) :: μ)) : wpE K H0 tDNewK ρ μ k := fun σ H S Q hQ => fun p hp => by
  have g := hid_cell (μ := μ) (c := .dct []) (o := .dK []) hp
  have M := S.mem.cell (c := .dct []) (o := .dK []) hp ⟨[], upd_same, .nil⟩
  exact hQ _ _ _ _ (h p) ⟨S.go M g, g⟩ (.ref p)
/-- isinstance of a value, a list's cell or a dict's cell -/
def IsiC (μ : DMem) (d : Dv) (T : String) (r : Bool) : Prop := Isi μ d T r ∨ ∃ p kvs, d = .ref p ∧ (p, DCell.dct kvs) ∈ μ ∧ r = isiN "dict" T
theorem kit_tabD : ∀ T ∈ ["int", "bool", "str", "tuple", "list"], kitB "dict" T = some (isiN "dict" T) := by decide +kernel
theorem wp_isiC {T : String} (hT : T ∈ ["int", "bool", "str", "tuple", "list"]) (h : wpE K H0 te ρ μ fun d μ1 => ∃ r, IsiC μ1 d T r ∧ k (.bl r) μ1) : wpE K H0 (tCB (rIsi K) (tCons te (tCons (tC (.ty T)) tNil))) ρ μ k := fun σ H S Q hQ => by
  refine h σ H S _ fun d μ1 v H1 q F rr => ?_
  obtain ⟨r, (h1 | ⟨ds, h1, rfl⟩) | ⟨p, kvs, rfl, hm, rfl⟩, q⟩ := q
  · unfold isiD at h1
    cases e : tyName d with
    | none => rw [e] at h1; cases h1
    | some n =>
      rw [e] at h1
      cases h1
      exact ⟨v, .ty T, .type n, .type T, isiN n T, rfl, .ty T, ty_of rr e, kit_ty (kit_tab n (tyName_in e) T hT), hQ _ μ1 _ H1 q F (.bl _)⟩
  · obtain ⟨p, vs, rfl, e1, e2⟩ := h1.at F.st.mem rr
    exact ⟨_, .ty T, .type "list", .type T, isiN "list" T, rfl, .ty T, .base (.lst e1), kit_ty (kit_tab "list" (by decide) T hT), hQ _ μ1 _ H1 q F (.bl _)⟩
  · obtain ⟨vs, e1, _⟩ := F.st.mem.ok _ hm
    have ev := rr.ref_inv
    subst ev
    exact ⟨_, .ty T, .type "dict", .type T, isiN "dict" T, rfl, .ty T, .base (.dK e1), kit_ty (kit_tabD T hT), hQ _ μ1 _ H1 q F (.bl _)⟩
end
end DL
/-! DLj: a list's item stored, a sign repeated, isinstance of an error by several classes, where a sign stands. -/
namespace DL
open PySem PySem.Spec PyProof.Rows L2
/-- a sign, n times -/
def rMulS : R2 := fun x y H Q => ∃ (c : Nat) (n : Int), x = .str ⟨#[c]⟩ ∧ y = .int n ∧ 0 ≤ n ∧ n ≤ 100000 ∧ Q (.str (sT (List.replicate n.toNat c))) H
theorem fold_rep (c : Nat) : ∀ (n : Nat) (a : Array Nat), (List.replicate n #[c]).foldl (· ++ ·) a = a ++ (List.replicate n c).toArray
  | 0, a => by simp
  | n + 1, a => by
    rw [List.replicate_succ, List.foldl_cons, fold_rep c n, List.replicate_succ]
    apply Array.toList_inj.mp
    simp
theorem op_mulS {X : Cx} : OpR X (binaryOp .Mult) rMulS := by
  intro pins s σ H x y v u Q I rx ry h
  obtain ⟨c, n, rfl, rfl, h0, h1, q⟩ := h
  obtain ⟨t, rfl⟩ := rx
  obtain ⟨t2, rfl⟩ := ry
  have hs : (⟨#[c]⟩ : Str).length = 1 := rfl
  refine P.mul_str (by rw [decide_eq_false (by omega), decide_eq_false (by omega)]; rfl) (fun a b => ?_) (fun a b => ?_) ?_
  · rw [hs]
    have : (1 : Int) ≤ (2 ^ 63 - 1) / n := by
      rw [Int.le_ediv_iff_mul_le (by omega)]
      omega
    omega
  · rw [hs, Nat.one_mul]
    have : n.toNat ≤ 100000 := by omega
    have hz := sizeLine_eq
    unfold PySem.Builtin.Str.tooLong
    rw [decide_eq_false]
    omega
  · by_cases hn : n < 1
    · rw [if_pos hn]
      have e : n = 0 := by omega
      subst e
      exact ⟨by decide, ⟨.str Str.empty, H, I.tok _, ⟨_, rfl⟩, q⟩⟩
    · rw [if_neg hn]
      by_cases h2 : (n == 1 || (⟨#[c]⟩ : Str).length == 0) = true
      · rw [if_pos h2]
        have e : n = 1 := by
          rw [hs] at h2
          simpa using h2
        subst e
        exact ⟨.str ⟨#[c]⟩, H, I, ⟨_, rfl⟩, q⟩
      · rw [if_neg h2]
        have e : (⟨(List.replicate n.toNat (⟨#[c]⟩ : Str).cps).foldl (· ++ ·) #[]⟩ : Str) = sT (List.replicate n.toNat c) := by
          show (⟨(List.replicate n.toNat #[c]).foldl (· ++ ·) #[]⟩ : Str) = _
          rw [fold_rep]
          simp [sT]
        rw [e]
        refine ⟨?_, ⟨.str _, H, I.tok _, ⟨_, rfl⟩, q⟩⟩
        rw [len_sT, List.length_replicate, sizeLine_eq]
        omega
def rMulV : R2 := orR rMulU rMulS
theorem op_mulV {X : Cx} : OpR X (binaryOp .Mult) rMulV := op_mulU.or op_mulS
/-- isinstance of the error that a suite holds, by a tuple of classes -/
def rIsST (K : PySem.W.Frag) (cls : Value) (d : Option Addr) (a : Addr) : List V → Hp → VK → Prop := fun xs H Q => ∃ (D tp : Addr) (cs : List V) (us : List Value) (b : Bool), cls = .ref D ∧ d = none ∧ ExcC K D ∧ xs = [.ref a, .ref tp] ∧ H tp = some (.tup cs) ∧ Paired ClsV cs us ∧ PySem.W.kitAny K (.ref D) us = some b ∧ Q (.bl b) H
theorem call_isST {X : Cx} {a : Addr} {oe : Obj} {cls : Value} {d : Option Addr} {pn : List (Addr × Obj)} (hz : Zc cls d oe) (hf : ∃ vs, oe.data = .fields vs) : CallR (X.suite a ((a, oe) :: pn)) (.builtin "isinstance") (rIsST X.K cls d a) := by
  intro pins s σ H xs us Q I r h
  obtain ⟨D, tp, cs, ws, b, rfl, rfl, C, rfl, hT, k, e, q⟩ := h
  cases r with
  | cons rx rr =>
    cases rr with
    | cons rt rr =>
      cases rr
      cases rx
      cases rt
      obtain ⟨hget, _⟩ := I.pin (a, oe) (List.mem_append.mpr (.inl List.mem_cons_self))
      obtain ⟨vs, hv⟩ := hf
      have J : PySem.W.InstAt s.heap a oe D none := by
        obtain ⟨oc, od, oda, osl⟩ := oe
        obtain ⟨h1, h2⟩ := hz
        dsimp only at h1 h2 hv
        subst h1 h2 hv
        exact ⟨hget, rfl, rfl, trivial⟩
      obtain ⟨_, its, rv, o, h1, h2, n, h3⟩ := (show ObjOk X.prog X.w H s.heap tp (.tup cs) from I.hok tp _ hT)
      have e3 := ClsV.all k rv
      subst e3
      obtain ⟨oc, od, dt, sl⟩ := o
      simp only at h2 h3
      subst h2 h3
      exact PySem.W.kia_tup (PySem.W.handS_kitx_exc C.hg C.hk C.hs C.hd C.ha C.hn C.ht C.hm) I.kIn J h1 e (fun z => nomatch z) fun tk => ⟨.bl b, H, I.kept (t' := tk) fun _ _ z => z, rfl, q⟩
theorem call_isSTK {X : Cx} {K : PySem.W.Frag} {a : Addr} {oe : Obj} {cls : Value} {d : Option Addr} {pn : List (Addr × Obj)} (h : X.K = K) (hz : Zc cls d oe) (hf : ∃ vs, oe.data = .fields vs) : CallR (X.suite a ((a, oe) :: pn)) (.builtin "isinstance") (rIsST K cls d a) := by
  subst h
  exact call_isST hz hf
section
variable {K : PySem.W.Frag} {H0 H H' : Hp} {ρ : DEnv} {μ μ' : DMem} {σ : L2.St} {k : Dv → DMem → Prop} {te to ti : TE} {x y : Tx} {a b d : Dv} {xs ys ds : List Dv} {p : Addr} {P : Post}
theorem wp_refC {C : Addr} (q : k (.ref C) μ) : wpE K H0 (tC (.ref C)) ρ μ k := fun σ H S Q hQ => hQ _ μ _ H q (Fo.refl S) (.ref C)
theorem rpA_refs {H : Hp} : ∀ {vs : List V} {cs : List Addr}, RpA K H vs (cs.map Dv.ref) → Paired ClsV vs (cs.map Value.ref)
  | _, [], .nil => .nil
  | _, c :: _, .cons h r => by
    rw [h.ref_inv]
    exact .cons (.own c) (rpA_refs r)
theorem wc_isST {D ea : Addr} {cs : List Addr} {r : Bool} (hC : ExcC K D) (hk : PySem.W.kitAny K (.ref D) (cs.map Value.ref) = some r) (q : k (.bl r) μ) : wpC K H0 (rIsST K (.ref D) none ea) [.ref ea, .tup (cs.map Dv.ref)] ρ μ k := fun σ H vs S rr Q hQ => by
  cases rr with
  | cons r1 rr =>
    cases rr with
    | cons r2 rr =>
      cases rr
      obtain ⟨tp, us, rfl, e1, e2⟩ := r2.tupAt
      exact ⟨D, tp, us, _, r, rfl, rfl, hC, by rw [r1.ref_inv], e1, rpA_refs e2, hk, hQ _ μ _ H q (Fo.refl S) (.bl _)⟩
theorem wr_mulV {i j : Int} (h : (-(2 ^ 64) < i ∧ i < 2 ^ 64) ∨ (-(2 ^ 64) < j ∧ j < 2 ^ 64)) (q : k (.int (i * j)) μ) : wpR K H0 rMulV (.int i) (.int j) ρ μ k := wr_1 (wr_mul h q)
theorem wr_mulS {c : Nat} {n : Int} (h0 : 0 ≤ n) (h1 : n ≤ 100000) (q : k (.str (List.replicate n.toNat c)) μ) : wpR K H0 rMulV (.str [c]) (.int n) ρ μ k := wr_2 fun σ H v w S r1 r2 Q hQ => by
  cases r1.str_inv
  cases r2.int_inv
  exact ⟨c, n, rfl, rfl, h0, h1, hQ _ μ _ H q (Fo.refl S) (.str _)⟩
/-- l[i] = v, l a cell -/
theorem RpA.set {H : Hp} {v : V} {e : Dv} (r : Rp K H v e) : ∀ {vs : List V} {ds : List Dv} (i : Nat), RpA K H vs ds → RpA K H (vs.set i v) (ds.set i e)
  | _, _, _, .nil => .nil
  | _, _, 0, .cons _ t => .cons r t
  | _, _, i + 1, .cons q t => .cons q (RpA.set r i t)
theorem wp_setIx (h : wpE K H0 te ρ μ fun d μ1 => wpE K H0 to ρ μ1 fun o μ2 => wpE K H0 ti ρ μ2 fun j μ3 => ∃ p i n μa ds μb, o = .ref p ∧ j = .int i ∧ μ3 = μa ++ (p, .lst ds) :: μb ∧ ixN ds.length i = some n ∧ P.nx ρ (μa ++ (p, .lst (ds.set n d)) :: μb)) :
    wpS K H0 (tAsg te (gSub to ti rSetL)) ρ μ P := fun H1 g σ H S D O =>
  h σ H (S.low g) _ fun d μ1 v H2 q F r => q σ H2 F.st _ fun o μ2 u H3 q2 F2 r2 => q2 σ H3 F2.st _ fun j μ3 w H4 q3 F3 r3 => by
    obtain ⟨p, i, n, μa, ds, μb, rfl, rfl, rfl, hi, q4⟩ := q3
    obtain ⟨vs, e1, e2⟩ := F3.st.mem.ok (p, .lst ds) mem_mid
    refine ⟨p, vs, i, n, r2.ref_inv, r3.int_inv, e1, by rw [e2.length]; exact hi, ?_⟩
    have ek : keys (μa ++ (p, DCell.lst (ds.set n d)) :: μb) = keys (μa ++ (p, DCell.lst ds) :: μb) := by rw [keys_mid, keys_mid]
    have g0 : Ge (hid H4 (keys (μa ++ (p, DCell.lst ds) :: μb))) (hid (L2.upd H4 p (.lst (vs.set n v))) (keys (μa ++ (p, DCell.lst (ds.set n d)) :: μb))) := fun x u e => by
      obtain ⟨z1, z2⟩ := hid_some e
      have ne : x ≠ p := fun z => z1 (by rw [z, keys_mid]; simp)
      rw [ek, hid_of z1, upd_ne ne]
      exact z2
    obtain ⟨M, g'⟩ := F3.st.mem.upd (c' := .lst (ds.set n d)) (o := .lst (vs.set n v)) ⟨vs.set n v, upd_same, RpA.set (((r.mono F2.ge).mono F3.ge).mono g0) n (e2.mono g0)⟩
    exact O.nx _ _ _ _ q4 ((((((F.up S).go F2.st.mem F2.ge)).go F3.st.mem F3.ge)).go M g')
end
/-! ### where a sign stands first -/
theorem at_sign {x : Tx} {c i : Nat} : StrLaws.At (sT x) ⟨#[c]⟩ (sT x).length i ↔ x[i]? = some c := by
  unfold StrLaws.At
  rw [StrLaws.subAt_eq, cps_sT, len_sT]
  show i + 1 ≤ x.length ∧ ((x.drop i).take 1 == [c]) = true ↔ _
  rw [beq_iff_eq]
  constructor
  · rintro ⟨h1, h2⟩
    rw [List.drop_eq_getElem_cons (by omega)] at h2
    simp only [List.take_succ_cons, List.take_zero, List.cons.injEq, and_true] at h2
    rw [List.getElem?_eq_getElem (by omega), h2]
  · intro h
    obtain ⟨h1, h2⟩ := List.getElem?_eq_some_iff.mp h
    refine ⟨h1, ?_⟩
    rw [List.drop_eq_getElem_cons h1, h2]
    rfl
theorem find_no {x : Tx} {c : Nat} (h : c ∉ x) : Txt.find (sT x) (sT [c]) = -1 := by
  rcases find_whole (sT x) ⟨#[c]⟩ with ⟨e, _⟩ | ⟨i, e, h1, _⟩
  · exact e
  · exact absurd (List.mem_of_getElem? (at_sign.mp h1)) h
theorem find_at {a b : Tx} {c : Nat} (h : c ∉ a) : Txt.find (sT (a ++ c :: b)) (sT [c]) = (a.length : Nat) := by
  have hc : (a ++ c :: b)[a.length]? = some c := by simp
  rcases find_whole (sT (a ++ c :: b)) ⟨#[c]⟩ with ⟨_, e⟩ | ⟨i, e, h1, h2⟩
  · exact absurd (at_sign.mpr hc) (e _)
  · have h3 := at_sign.mp h1
    have l1 : ¬ i < a.length := fun l => by
      rw [List.getElem?_append_left l] at h3
      exact h (List.mem_of_getElem? h3)
    have l2 : ¬ a.length < i := fun l => h2 _ l (at_sign.mpr hc)
    rw [show a.length = i by omega]
    exact e
end DL
/-! Mth9: a name put into a tree. -/
namespace TM
/-- no branch at the new sign where there is one branch alone -/
theorem put_alone {t : Tr} {x : Tx} (h : Wf t) (hl : isLeaf t = true → text t ≠ x) (eb : bb t (lcp (text t) x).length = [behindT t (lcp (text t) x).length]) : brOf (bb t (lcp (text t) x).length) ((x.drop (lcp (text t) x).length).take 1) = none := by
  have hp1 := lcp_pre1 (text t) x
  have hoff := lcp_off (text t) x
  generalize hs : lcp (text t) x = s at *
  generalize hk : s.length = k at *
  rw [eb]
  refine none_brOf fun p hp => ?_
  rw [List.mem_singleton.mp hp]
  intro z
  have ex : text t = x := hoff z
  cases t with
  | leaf r n => exact hl rfl ex
  | fork s' bs =>
    have hk2 : s'.length = k := by
      have : s = s' := by
        have e1 : lcp s' x = s := hs
        have e2 : s' = x := ex
        rw [← e1, ← e2]
        have := lcp_pre1 s' s'
        exact this.eq_of_length (by
          have h2 := (pre_lcp (List.prefix_refl s') (List.prefix_refl s')).length_le
          have h3 := this.length_le
          omega)
      rw [← this]; exact hk
    have e3 : bb (.fork s' bs) k = bs := if_pos hk2
    have h2 := (wf_fork.mp h).1
    rw [← e3, eb] at h2
    simp at h2
/-- c and x's rest behind the common text -/
theorem put_ok {t : Tr} {x : Tx} {v : Int} {g : Tr} (h : Wf t) (hg : Wf g) (hl : isLeaf t = true → text t ≠ x)
    (so : SignOk ((x.drop (lcp (text t) x).length).take 1, g))
    (e : ∀ y, get g y = if y = x.drop ((lcp (text t) x).length + 1) then some v else (brOf (bb t (lcp (text t) x).length) ((x.drop (lcp (text t) x).length).take 1)).bind fun u => get u y) :
    Wf (.fork (lcp (text t) x) (withB (bb t (lcp (text t) x).length) ((x.drop (lcp (text t) x).length).take 1) (some g))) ∧
      ∀ y, get (.fork (lcp (text t) x) (withB (bb t (lcp (text t) x).length) ((x.drop (lcp (text t) x).length).take 1) (some g))) y = if y = x then some v else get t y := by
  have hp1 := lcp_pre1 (text t) x
  have hp2 := lcp_pre2 (text t) x
  have alone := put_alone (x := x) h hl
  generalize hs : lcp (text t) x = s at *
  generalize hk : s.length = k at *
  have hkt : k ≤ (text t).length := by rw [← hk]; exact hp1.length_le
  have hst : (text t).take k = s := by rw [← hk]; exact (List.prefix_iff_eq_take.mp hp1).symm
  obtain ⟨pf, gb⟩ := bb_ok h hkt
  rw [hst] at gb
  have len2 : 2 ≤ (withB (bb t k) ((x.drop k).take 1) (some g)).length := by
    have l1 := len_withB_some (c := (x.drop k).take 1) (t := g) pf.1
    cases t with
    | leaf r n =>
      have := len_withB_new (c := (x.drop k).take 1) (t := g) pf.1 (alone rfl)
      rw [this]
      show 2 ≤ 1 + 1
      omega
    | fork s' bs =>
      by_cases hk2 : s'.length = k
      · have e3 : bb (.fork s' bs) k = bs := if_pos hk2
        have h2 := (wf_fork.mp h).1
        rw [e3] at l1 ⊢
        omega
      · have e3 : bb (.fork s' bs) k = [behindT (.fork s' bs) k] := if_neg hk2
        have := len_withB_new (c := (x.drop k).take 1) (t := g) pf.1 (alone e3)
        rw [this, e3]
        show 2 ≤ 1 + 1
        omega
  refine ⟨wf_fork.mpr ⟨len2, up_withB pf.1, ok_withB pf.2.1 fun u hu => by cases hu; exact ⟨so, hg⟩⟩, fun y => ?_⟩
  rw [get_withB pf.1, hk]
  have hx : x = s ++ (x.drop k).take 1 ++ x.drop (k + 1) := by
    have h1 := pre_split hp2
    rw [hk] at h1
    have h2 := take_drop1 (x.drop k)
    rw [List.drop_drop] at h2
    rw [List.append_assoc, h2]
    exact h1
  by_cases c : s <+: y ∧ (y.drop k).take 1 = (x.drop k).take 1
  · rw [if_pos c]
    have hy : y = s ++ (y.drop k).take 1 ++ y.drop (k + 1) := by
      have h1 := pre_split c.1
      rw [hk] at h1
      have h2 := take_drop1 (y.drop k)
      rw [List.drop_drop] at h2
      rw [List.append_assoc, h2]
      exact h1
    show get g (y.drop (k + 1)) = _
    rw [e]
    by_cases hq : y.drop (k + 1) = x.drop (k + 1)
    · rw [if_pos hq, if_pos (by rw [hy, c.2, hq]; exact hx.symm)]
    · rw [if_neg hq, if_neg (fun z => hq (by rw [z])), ← gb y, get_fork, if_pos c.1, hk, c.2]
  · rw [if_neg c, gb y, if_neg]
    intro z
    subst z
    exact c ⟨hp2, rfl⟩
/-- two branches, in order -/
theorem withB_pair (a : Tx × Tr) (c : Tx) (g : Tr) (h : a.1 ≠ c) : withB [a] c (some g) = if a.1 < c then [a, (c, g)] else [(c, g), a] := by
  unfold withB
  rcases tx_tri a.1 c with l | l | l
  · have n := tx_asymm l
    simp [l, n]
  · exact absurd l h
  · have n := tx_asymm l
    simp [l, n]
/-- rows, one more behind them -/
theorem lk_snoc {R : List Rw} {x y : Tx} {v : Int} (h : ∀ r ∈ R, r.1 ≠ x) : lk (R ++ [(x, v)]) y = if y = x then some v else lk R y := by
  induction R with
  | nil =>
    show (if x = y then some v else none) = _
    by_cases e : y = x
    · rw [if_pos e, if_pos e.symm]
    · rw [if_neg e, if_neg (fun z => e z.symm)]
      rfl
  | cons r R ih =>
    have h1 := h r List.mem_cons_self
    have h2 := ih fun q hq => h q (List.mem_cons_of_mem _ hq)
    obtain ⟨z, n⟩ := r
    show (if z = y then some n else lk (R ++ [(x, v)]) y) = if y = x then some v else if z = y then some n else lk R y
    rw [h2]
    by_cases e : z = y
    · rw [if_pos e, if_pos e, if_neg]
      intro q
      exact h1 (e.trans q)
    · rw [if_neg e, if_neg e]
/-- the branch of the name that ends here -/
theorem put_sign {c : Tx} {z : Tx} {g : Tr} {v : Int} {o : Option Tr} (hw : Wf g) (hc : c = z.take 1) (ho : ∀ u, o = some u → SignOk (c, u)) (e : ∀ y, get g y = if y = z.drop 1 then some v else getO o y) : SignOk (c, g) := by
  refine ⟨by rw [hc]; exact Nat.le_trans (List.length_take_le _ _) (Nat.le_refl _), fun h => ?_⟩
  have h' : c = [] := h
  rw [h'] at hc
  have hz : z = [] := by
    rcases take1_cases z with ⟨q, _⟩ | ⟨a, r, _, q, _⟩
    · exact q
    · rw [q] at hc; cases hc
  subst hz
  refine ⟨v, wf_ext g hw _ (wf_leaf [] v) fun y => ?_⟩
  rw [e, get_leaf]
  show (if y = ([] : Tx) then some v else getO o y) = _
  by_cases hy : y = []
  · rw [if_pos hy, if_pos hy]
  · rw [if_neg hy, if_neg hy]
    cases o with
    | none => rfl
    | some u =>
      obtain ⟨n, hn⟩ := (ho u rfl).2 h'
      have hn' : u = .leaf [] n := hn
      subst hn'
      show get (.leaf [] n) y = none
      rw [get_leaf, if_neg hy]
end TM
/-! DLo: cells by membership: append, pop, a field stored; what else stays. -/
namespace DL
open PySem PySem.Spec PyProof.Rows L2
/-- all but one cell stay -/
def Ot (μ : DMem) (e : Addr × DCell) (μ' : DMem) : Prop := ∀ x ∈ μ, x ≠ e → x ∈ μ'
theorem ot_mid {μa μb : DMem} {p : Addr} {c c' : DCell} : Ot (μa ++ (p, c) :: μb) (p, c) (μa ++ (p, c') :: μb) := fun x hx hne => by
  rcases List.mem_append.mp hx with h | h
  · exact List.mem_append_left _ h
  · rcases List.mem_cons.mp h with h | h
    · exact absurd h hne
    · exact List.mem_append_right _ (List.mem_cons_of_mem _ h)
section
variable {K : PySem.W.Frag} {H0 H H' : Hp} {ρ : DEnv} {μ μ' : DMem} {σ : L2.St} {k : Dv → DMem → Prop} {te to ta tv : TE} {d : Dv} {ds : List Dv} {p : Addr} {P : Post} {t : TS} {f : Str}
theorem wp_appM (h : wpE K H0 to ρ μ fun o μ1 => ∃ p ds, o = .ref p ∧ (p, DCell.lst ds) ∈ μ1 ∧ wpE K H0 te ρ μ1 fun d μ2 => ∃ ds', (p, DCell.lst ds') ∈ μ2 ∧ ds'.length < sizeLine ∧ ∀ μ3, (p, DCell.lst (ds' ++ [d])) ∈ μ3 → Ot μ2 (p, .lst ds') μ3 → k .non μ3) :
    wpE K H0 (tBM K "list" rAppend to (tCons te tNil)) ρ μ k := wp_app (h.imp fun o μ1 z => by
  obtain ⟨p, ds, rfl, hm, z⟩ := z
  refine ⟨p, rfl, ⟨ds, hm⟩, z.imp fun d μ2 y => ?_⟩
  obtain ⟨ds', hm2, hl, y⟩ := y
  obtain ⟨μa, μb, rfl⟩ := List.append_of_mem hm2
  exact ⟨μa, ds', μb, rfl, hl, y _ (by simp) ot_mid⟩)
/-- xs.pop(), xs a cell -/
theorem wp_popM (h : wpE K H0 to ρ μ fun o μ1 => ∃ p ds d, o = .ref p ∧ (p, DCell.lst (ds ++ [d])) ∈ μ1 ∧ ∀ μ3, (p, DCell.lst ds) ∈ μ3 → Ot μ1 (p, .lst (ds ++ [d])) μ3 → k d μ3) :
    wpE K H0 (tBM0 K "list" rPop to) ρ μ k := fun σ H S Q hQ => by
  refine h σ H S _ fun o μ1 v H1 q F r => ?_
  obtain ⟨p, ds, d, rfl, hm, q⟩ := q
  obtain ⟨μa, μb, rfl⟩ := List.append_of_mem hm
  obtain ⟨vs, e1, e2⟩ := F.st.mem.ok (p, .lst (ds ++ [d])) mem_mid
  have ev := r.ref_inv
  subst ev
  refine ⟨.inl ⟨rfl, vs, .inl (.inl e1)⟩, ?_⟩
  have hl := e2.length
  rw [List.length_append, List.length_singleton] at hl
  obtain ⟨y, hy1, hy2⟩ := e2.get (i := ds.length) (d := d) (by simp)
  refine ⟨p, vs, y, rfl, rfl, e1, by rw [hl]; exact hy1, ?_⟩
  have ek : keys (μa ++ (p, DCell.lst ds) :: μb) = keys (μa ++ (p, DCell.lst (ds ++ [d])) :: μb) := by rw [keys_mid, keys_mid]
  have g0 : Ge (hid H1 (keys (μa ++ (p, DCell.lst (ds ++ [d])) :: μb))) (hid (L2.upd H1 p (.lst vs.dropLast)) (keys (μa ++ (p, DCell.lst ds) :: μb))) := fun x u e => by
    obtain ⟨z1, z2⟩ := hid_some e
    have ne : x ≠ p := fun z => z1 (by rw [z, keys_mid]; simp)
    rw [ek, hid_of z1, upd_ne ne]
    exact z2
  have e3 : RpA K (hid H1 (keys (μa ++ (p, DCell.lst (ds ++ [d])) :: μb))) vs.dropLast ds := by
    have := e2.take ds.length
    rw [List.take_left'] at this
    · rw [List.dropLast_eq_take, hl]
      exact this
    · rfl
  obtain ⟨M, g⟩ := F.st.mem.upd (c' := .lst ds) (o := .lst vs.dropLast) ⟨vs.dropLast, upd_same, e3.mono g0⟩
  exact hQ _ _ _ _ (q _ (by simp) ot_mid) (F.trans ⟨F.st.go M g, g⟩) (hy2.mono g)
theorem wp_sfldM (h : wpE K H0 tv ρ μ fun d μ1 => wpE K H0 ta ρ μ1 fun o μ2 => ∃ a C dx fs, o = .ref a ∧ (a, DCell.ins C dx fs) ∈ μ2 ∧ Cls K C ∧ NoAttr K C f ∧ fs.length < 1000 ∧ ∀ μ3, (a, DCell.ins C dx (putD f d fs)) ∈ μ3 → Ot μ2 (a, .ins C dx fs) μ3 → P.nx ρ μ3) : wpS K H0 (sFld K ta tv f) ρ μ P :=
  wp_sfld (h.imp fun d μ1 z => z.imp fun o μ2 y => by
    obtain ⟨a, C, dx, fs, rfl, hm, c, na, hl, y⟩ := y
    obtain ⟨μa, μb, rfl⟩ := List.append_of_mem hm
    exact ⟨a, μa, C, dx, fs, μb, rfl, rfl, c, na, hl, y _ (by simp) ot_mid⟩)
theorem wpS_nd (h : (keys μ).Nodup → wpS K H0 t ρ μ P) : wpS K H0 t ρ μ P := fun H1 g σ H S => h S.mem.nd H1 g σ H S
/-- a slice as a new cell -/
theorem wx_lstC {lo hi : Option Int} {a : Dv} (h : IsL μ a ds) (q : ∀ p, k (.ref p) ((p, .lst (cutL ds lo hi)) :: μ)) : wpX (K := K) (H0 := H0) (rSlU K) a lo hi ρ μ k := fun σ H v S r Q hQ => .inr (.inl (by
  obtain ⟨l, vs, rfl, e1, e2⟩ := h.at S.mem r
  refine ⟨l, vs, rfl, .inl (.inl e1), fun p hp => ?_⟩
  have g := hid_cell (μ := μ) (c := .lst (cutL ds lo hi)) (o := .lst (cutV vs lo hi)) hp
  have M := S.mem.cell (c := .lst (cutL ds lo hi)) (o := .lst (cutV vs lo hi)) hp ⟨_, upd_same, (e2.cut lo hi).mono g⟩
  exact hQ _ _ _ _ (q p) ⟨S.go M g, g⟩ (.ref p)))
end
theorem nd_same {μ : DMem} {a : Addr} {c c' : DCell} (h : (keys μ).Nodup) (h1 : (a, c) ∈ μ) (h2 : (a, c') ∈ μ) : c = c' := by
  induction μ with
  | nil => cases h1
  | cons x μ ih =>
    have hn := List.nodup_cons.mp h
    rcases List.mem_cons.mp h1 with e1 | h1
    · rcases List.mem_cons.mp h2 with e2 | h2
      · exact (Prod.mk.inj (e1.trans e2.symm)).2
      · exact absurd (List.mem_map_of_mem (f := (·.1)) h2) (by rw [← e1] at hn; exact hn.1)
    · rcases List.mem_cons.mp h2 with e2 | h2
      · exact absurd (List.mem_map_of_mem (f := (·.1)) h1) (by rw [← e2] at hn; exact hn.1)
      · exact ih hn.2 h1 h2
end DL
/-! DLp: dicts of texts to whole numbers as cells: asked, grown, walked, copied, sorted. -/
namespace DL
open PySem PySem.Spec PyProof.Rows L2
open TM (Rw Sr lk)
/-! ### rules -/
theorem none_in {P : Program} {w : World} {A : Around} {E : Value → Shared → Prop} {s : Shared} {d : Addr} {vs : List (Key × Value)} {Q : Value → Shared → Prop} (dd : s.heap.DictOf (mixKind P w) d vs) (hd : (d == sysModules) = false)
    (h : ∀ tk, Q (.bool false) { s with toks := tk }) : wpAny (model P w) A (compareOp .In .none (.ref d)) Q E s := by
  obtain ⟨o, es, ep, ho, hx, hdt, hk, _⟩ := dd
  have key : ∀ e ∈ es, ∃ k : Leaf, Leaf.isOf k e.key = true ∧ e.hash = (leafKind P w).hash k ∧ k ≠ .none := fun e he => by
    obtain ⟨k, h1, h2⟩ := hk e he
    rcases keyIs_shape (show keyIs k e.key = true from h1) with ⟨i, t, rfl, ek⟩ | ⟨x, t, rfl, ek⟩
    · exact ⟨.num i, by rw [ek]; simp [Leaf.isOf], h2, by simp⟩
    · exact ⟨.text x, by rw [ek]; simp [Leaf.isOf, Value.isStrOf], h2, by simp⟩
  have hm : s.heap.MapOf (leafKind P w) d (fun k => findBy (leafKind P w).is es k) :=
    ⟨o, es, ep, ho, hx, hdt, fun e he => let ⟨k, a, b, _⟩ := key e he; ⟨k, a, b⟩, fun _ => rfl⟩
  have hn : findBy (leafKind P w).is es Leaf.none = none := by
    cases e : findBy (leafKind P w).is es Leaf.none with
    | none => rfl
    | some v =>
      unfold findBy at e
      obtain ⟨en, h1, _⟩ := Option.map_eq_some_iff.mp e
      have h2 := Array.find?_some h1
      have h3 := Array.mem_of_find?_eq_some h1
      obtain ⟨k, a, _, c⟩ := key en h3
      exact absurd ((leafKind P w).inj _ _ _ a h2) c
  refine wpAny_in_of (knd := leafKind P w) (k := Leaf.none) rfl hd hm ?_
  rw [hn]
  exact h _
def rInD (neg : Bool) : R2 := fun x y H Q => ∃ a kvs, y = .ref a ∧ Rd H a (.dK kvs) ∧ ((∃ k, x = kV k ∧ Q (.bl (if neg then !(valV kvs k).isSome else (valV kvs k).isSome)) H) ∨ (neg = false ∧ x = .non ∧ Q (.bl false) H))
theorem op_inD {X : Cx} (hu : X.A.units + 1 < cLine) : OpR X (compareOp .In) (rInD false) := by
  intro pins s σ H x y v u Q I rx ry h
  obtain ⟨a, kvs, rfl, hd, ⟨k, rfl, q⟩ | ⟨_, rfl, q⟩⟩ := h
  · cases ry
    exact d_in hu I (.inl ⟨kvs, k, hd, rfl, rfl⟩) rx fun s' I' => ⟨.bl _, H, I', rfl, q⟩
  · cases ry
    cases rx
    obtain ⟨z, lo, vs, rel, dd⟩ := dk_rd I.hok hd
    exact none_in dd lo fun tk => ⟨.bl false, H, I.kept (t' := tk) fun _ _ z => z, rfl, q⟩
theorem op_notInD {X : Cx} (hu : X.A.units + 1 < cLine) : OpR X (compareOp .NotIn) (rInD true) := by
  intro pins s σ H x y v u Q I rx ry h
  obtain ⟨a, kvs, rfl, hd, ⟨k, rfl, q⟩ | ⟨z, _⟩⟩ := h
  · cases ry
    exact d_notIn hu I (.inl ⟨kvs, k, hd, rfl, rfl⟩) rx fun s' I' => ⟨.bl _, H, I', rfl, q⟩
  · cases z
def rIsT : R2 := fun x y H Q => y = .bl true ∧ Q (.bl (decide (x = .bl true))) H
theorem op_isT {X : Cx} : OpR X (compareOp .Is) rIsT := by
  intro pins s σ H x y v u Q I rx ry h
  obtain ⟨rfl, q⟩ := h
  cases (show u = Value.bool true from ry)
  by_cases e : x = .bl true
  · subst e
    cases (show v = Value.bool true from rx)
    exact wpAny_is_self rfl ⟨.bl true, H, I, rfl, by simpa using q⟩
  · have q2 : Q (.bl false) H := by simpa [e] using q
    cases x with
    | bl b =>
      cases (show v = Value.bool b from rx)
      exact wpAny_is_other rfl (fun z => e (by cases z; rfl)) ⟨.bl false, H, I, rfl, q2⟩
    | non => cases (show v = Value.none from rx); exact wpAny_is_other rfl (fun z => nomatch z) ⟨.bl false, H, I, rfl, q2⟩
    | int i => obtain ⟨t, rfl⟩ := rx; exact wpAny_is_other rfl (fun z => nomatch z) ⟨.bl false, H, I, rfl, q2⟩
    | str i => obtain ⟨t, rfl⟩ := rx; exact wpAny_is_other rfl (fun z => nomatch z) ⟨.bl false, H, I, rfl, q2⟩
    | byt i => obtain ⟨t, rfl⟩ := rx; exact wpAny_is_other rfl (fun z => nomatch z) ⟨.bl false, H, I, rfl, q2⟩
    | flt i => obtain ⟨t, rfl⟩ := rx; exact wpAny_is_other rfl (fun z => nomatch z) ⟨.bl false, H, I, rfl, q2⟩
    | ref a => cases (show v = Value.ref a from rx); exact wpAny_is_other rfl (fun z => nomatch z) ⟨.bl false, H, I, rfl, q2⟩
    | ty a => cases (show v = Value.type a from rx); exact wpAny_is_other rfl (fun z => nomatch z) ⟨.bl false, H, I, rfl, q2⟩
def rIsV : R2 := orR rIsU rIsT
theorem op_isV {X : Cx} : OpR X (compareOp .Is) rIsV := op_isU.or op_isT
def rLenD : List V → Hp → VK → Prop := fun xs H Q => ∃ a kvs, xs = [.ref a] ∧ Rd H a (.dK kvs) ∧ Q (.int kvs.length) H
theorem call_lenD {X : Cx} : CallR X (.builtin "len") rLenD := by
  intro pins s σ H xs us Q I r h
  obtain ⟨a, kvs, rfl, hd, q⟩ := h
  rw [Vals.ref1 r]
  exact d_len I hd fun t s' I' => ⟨.int _, H, I', ⟨_, rfl⟩, q⟩
def rDctD : List V → Hp → VK → Prop := fun xs H Q => ∃ (a : Addr) (kvs : List (Key × V)), xs = [.ref a] ∧ Rd H a (.dK kvs) ∧ ∀ p, H p = none → Q (.ref p) (upd H p (.dK kvs))
theorem call_dctU {X : Cx} : CallR X (.type "dict") rDctD := call_dictD
def rLstD : List V → Hp → VK → Prop := fun xs H Q => ∃ (a : Addr) (kvs : List (Key × V)), xs = [.ref a] ∧ Rd H a (.dK kvs) ∧ ∀ p, H p = none → Q (.ref p) (upd H p (.lst (kvs.map fun kv => kV kv.1)))
theorem call_lstDU {X : Cx} (hc : X.calm = true) : CallR X (.type "list") rLstD := call_listD hc
/-- the order of texts -/
def leS (a b : Str) : Bool := !decide (b.cps.toList < a.cps.toList)
def rSortDD : List V → Hp → VK → Prop := fun xs H Q => ∃ (a : Addr) (kvs : List (Key × V)) (ks : List Str), xs = [.ref a] ∧ Rd H a (.dK kvs) ∧ kvs.map (·.1) = ks.map Sum.inr ∧ ks.length ≤ 16777216 ∧
    ∀ p, H p = none → Q (.ref p) (upd H p (.lst ((ks.mergeSort leS).map V.str)))
theorem strs_each : ∀ {us : List Value} {ks : List Str}, StrsAre us ks → PySem.W.EachIs (fun (v : Value) (x : Str) => ∃ t, v = Value.str x t) us ks
  | _, _, .nil => .nil
  | _, _, .cons x t h => .cons ⟨t, rfl⟩ (strs_each h)
theorem strs_back : ∀ {us : List Value} {ks : List Str}, PySem.W.EachIs (fun (v : Value) (x : Str) => ∃ t, v = Value.str x t) us ks → StrsAre us ks
  | _, _, .nil => .nil
  | _, _, .cons ⟨t, e⟩ h => by subst e; exact .cons _ t (strs_back h)
theorem call_sortedDD {X : Cx} {k : Nat} (hrm : Rm k X.A) (hcalm : X.calm = true) : CallR X (.builtin "sorted") rSortDD := by
  intro pins s σ H xs us Q I r q
  obtain ⟨a, kvs, ks, ex, hd, hks, h64, q⟩ := q
  subst ex
  obtain ⟨u, eu, rx⟩ := vals1 r
  subst eu
  cases rx
  obtain ⟨z, lo, vs, rel, dd⟩ := dk_rd I.hok hd
  obtain ⟨ep, hat⟩ := dd.dictAt
  have hkeys : vs.map (·.1) = ks.map Sum.inr := rel.keys.symm.trans hks
  have hl : vs.length = ks.length := by
    have e := congrArg List.length hkeys
    rw [List.length_map, List.length_map] at e
    exact e
  have h16 : vs.length ≤ sizeLine := by rw [hl, sizeLine_eq]; omega
  refine Calls.call_function_entry PyProof.Rows.kind_sorted PyProof.Rows.plain_sorted PyProof.Rows.entry_sorted (PyProof.Rows.args_sorted1 _) ?_
  unfold Builtin.«sorted»
  refine wpAny_bind (m := checkCount "sorted" 1 1 _) (wpAny_pure ?_)
  refine wpAny_bind (PySem.W.kdu_collect (A := X.A.in1) (PySem.W.kdl_dict (knd := mixKind X.prog X.w) (kvs := vs) (ep := ep) lo) (I.ok.hd hcalm) hat h16 fun h' tk acc hk hacc => ?_)
  have hal : acc.toList.length = ks.length := by rw [Array.length_toList, hacc.1, hl]
  have hS : StrsAre acc.toList ks := strs_at hal fun j v e => by
    obtain ⟨k, x, e1, e2⟩ := hacc.2 j v (by rw [← Array.getElem?_toList]; exact e)
    have e3 : (vs.map (·.1))[j]? = some k := by rw [List.getElem?_map, e1]; all_goals rfl
    rw [hkeys, List.getElem?_map] at e3
    cases e4 : ks[j]? with
    | none => rw [e4] at e3; cases e3
    | some y =>
      rw [e4] at e3
      have e5 : Sum.inr y = k := Option.some.inj e3
      subst e5
      obtain ⟨t, ev⟩ := Value.isStrOf_shape (x := y) (v := v) e2
      exact ⟨y, t, rfl, ev⟩
  have I1 : Inv X pins σ H { s with heap := h', toks := tk } := I.kept hk
  refine wpAny_bind (wpAny_newList ?_ (by rw [hal, sizeLine_eq]; omega))
  have hoL : (h'.push (seqObj "list" acc.toList.toArray 0)).get? h'.objs.size = some (seqObj "list" acc.toList.toArray 0) := Heap.get?_push_size _ rfl
  show wpAny _ _ _ _ _ { s with heap := h'.push (seqObj "list" acc.toList.toArray 0), toks := tk }
  refine wpAny_bind (wpAny_holding ?_)
  refine PySem.W.list_sort_data (enc := fun x : Str => PyData.str x) (R := fun (v : Value) (x : Str) => ∃ t, v = Value.str x t) (s := { s with heap := h'.push (seqObj "list" acc.toList.toArray 0), toks := tk }) hoL (strs_each hS) ((strs_each hS).mono fun v x ⟨t, e⟩ => ⟨[], by subst e; exact .str x t, by simp⟩) ?_ ?_ (by rw [sizeLine_eq]; exact h64) ?_ fun out ho heo => ?_
  · intro d h1 d' h2
    obtain ⟨z, _, rfl⟩ := List.mem_map.mp h1
    obtain ⟨z', _, rfl⟩ := List.mem_map.mp h2
    simp [PySem.W.alike]
  · refine .inr fun d h1 => ?_
    obtain ⟨z, _, rfl⟩ := List.mem_map.mp h1
    exact ⟨(fun z => nomatch z), fun xs z => nomatch z⟩
  · intro b _
    have := hrm.un
    have hdep : (PyData.str b).depth ≤ 64 := by simp [PyData.depth]
    show X.A.in1.units + 1 + _ < cLine
    have : X.A.in1.units ≤ X.A.units + 8 := by
      show X.A.units + _ ≤ _
      simp [Code.weight]
    omega
  have es : (ks.mergeSort (PySem.W.dataLe false fun x : Str => PyData.str x)) = ks.mergeSort leS := by
    congr 1
    funext x y
    show (!PySem.W.dataLt (.str y) (.str x)) = _
    rw [PySem.W.dataLt_str]
    rfl
  rw [es] at heo
  have g1 := strs_back heo
  obtain ⟨e', he'⟩ := PyProof.Rows.sortedHeap_at (vs := acc.toList) (out := List.toArray out) hoL
  have hlen : ((ks.mergeSort leS).map V.str).length ≤ sizeLine := by
    rw [List.length_map, List.length_mergeSort, sizeLine_eq]
    exact h64
  refine wpAny_pure ⟨_, rfl, .ref h'.objs.size, upd H h'.objs.size (.lst ((ks.mergeSort leS).map V.str)), I1.laid (t' := tk) (fun b u e => ?_) (Nat.le_refl _)
    (show ObjOk X.prog X.w _ _ _ (.lst ((ks.mergeSort leS).map V.str)) from ⟨hlen, out, e', vals_of_strs g1, he'⟩), rfl, q _ (I1.hok.fresh (Nat.le_refl _))⟩
  have hb : b < h'.objs.size := Heap.lt_size e
  rw [PyProof.Rows.sortedHeap_old (Nat.ne_of_lt hb) (by rw [size_push']; exact Nat.lt_succ_of_lt hb)]
  exact Heap.get?_push_of_some _ e
end DL
/-! DLq: dict cells over data. -/
namespace DL
open PySem PySem.Spec PyProof.Rows L2
open TM (Rw Sr lk)
def dR (r : Rw) : Tx × Dv := (r.1, .int r.2)
def vV (R : List Rw) : List (Key × V) := R.map fun r => (.inr (sT r.1), .int r.2)
theorem kv_rows {K : PySem.W.Frag} {H : Hp} : ∀ {R : List Rw} {vs : List (Key × V)}, KvR K H vs (R.map dR) → vs = vV R
  | [], _, .nil => rfl
  | r :: R, _, .cons h t => by
    have e := h.int_inv
    subst e
    have e2 := kv_rows t
    subst e2
    rfl
theorem kvR_of {K : PySem.W.Frag} {H : Hp} : ∀ R : List Rw, KvR K H (vV R) (R.map dR)
  | [] => .nil
  | r :: R => .cons (.int r.2) (kvR_of R)
theorem vV_keys (R : List Rw) : (vV R).map (·.1) = (R.map fun r => sT r.1).map Sum.inr := by
  unfold vV
  rw [List.map_map, List.map_map]
  rfl
theorem vV_len (R : List Rw) : (vV R).length = R.length := by unfold vV; rw [List.length_map]
theorem val_vV (x : Tx) : ∀ R : List Rw, valV (vV R) (.inr (sT x)) = (lk R x).map V.int
  | [] => rfl
  | (y, v) :: R => by
    have ih := val_vV x R
    unfold lk
    by_cases e : y = x
    · subst e
      rw [if_pos rfl]
      exact valV_pos rfl
    · rw [if_neg e, ← ih]
      exact valV_neg fun z => e (sT_inj.mp (Sum.inr.inj z))
theorem val_vVI (i : Int) : ∀ R : List Rw, valV (vV R) (.inl i) = none
  | [] => rfl
  | (y, v) :: R => by
    rw [← val_vVI i R]
    exact valV_neg fun z => nomatch z
/-- R with the number of x set -/
def putR (R : List Rw) (x : Tx) (v : Int) : List Rw := if (lk R x).isSome = true then R.map fun r => if r.1 = x then (r.1, v) else r else R ++ [(x, v)]
theorem put_vV (R : List Rw) (x : Tx) (v : Int) : putK (vV R) (.inr (sT x)) (.int v) = vV (putR R x v) := by
  unfold putK putR
  rw [valV_any, val_vV, Option.isSome_map]
  split
  · unfold vV
    rw [List.map_map, List.map_map]
    apply List.map_congr_left
    intro r _
    by_cases e : r.1 = x
    · subst e
      simp
    · have e2 : ¬ ((Sum.inr (sT r.1) : Key) = Sum.inr (sT x)) := fun z => e (sT_inj.mp (Sum.inr.inj z))
      simp only [Function.comp, e, e2, if_false]
  · unfold vV
    rw [List.map_append]
    rfl
/-- the dict at p, locked or not -/
def IsDc (μ : DMem) (p : Addr) (R : List Rw) : Prop := (p, DCell.dct (R.map dR)) ∈ μ ∨ ∃ o, (p, DCell.lck o (R.map dR)) ∈ μ
section
variable {K : PySem.W.Frag} {H0 H1 H H' : Hp} {ρ : DEnv} {μ μ' : DMem} {σ : L2.St} {k : Dv → DMem → Prop} {ki : List Dv → DMem → Prop} {te td ty tv : TE} {ta : TA} {x : Tx} {a b d : Dv} {ds : List Dv} {p : Addr} {P : Post} {R : List Rw} {t : TS} {i j : Nat}
theorem IsDc.rd (h : IsDc μ p R) (M : MemOk K H μ) : Rd H p (.dK (vV R)) := by
  rcases h with h | ⟨o, h⟩
  · obtain ⟨vs, e1, e2⟩ := M.ok _ h
    rw [kv_rows e2] at e1
    exact .inl e1
  · obtain ⟨vs, e1, e2⟩ := M.ok _ h
    rw [kv_rows e2] at e1
    exact .inr ⟨o, e1⟩
theorem wr_inD (h : IsDc μ p R) (q : k (.bl (lk R x).isSome) μ) : wpR K H0 (rInD false) (.str x) (.ref p) ρ μ k := fun σ H v w S r1 r2 Q hQ => by
  refine ⟨p, vV R, r2.ref_inv, h.rd S.mem, .inl ⟨.inr (sT x), r1.str_inv, ?_⟩⟩
  rw [val_vV, Option.isSome_map]
  exact hQ _ μ _ H q (Fo.refl S) (.bl _)
theorem wr_inDI {n : Int} (h : IsDc μ p R) (q : k (.bl false) μ) : wpR K H0 (rInD false) (.int n) (.ref p) ρ μ k := fun σ H v w S r1 r2 Q hQ => by
  refine ⟨p, vV R, r2.ref_inv, h.rd S.mem, .inl ⟨.inl n, r1.int_inv, ?_⟩⟩
  rw [val_vVI]
  exact hQ _ μ _ H q (Fo.refl S) (.bl _)
theorem wr_inDN (h : IsDc μ p R) (q : k (.bl false) μ) : wpR K H0 (rInD false) .non (.ref p) ρ μ k := fun σ H v w S r1 r2 Q hQ =>
  ⟨p, vV R, r2.ref_inv, h.rd S.mem, .inr ⟨rfl, r1.non_inv, hQ _ μ _ H q (Fo.refl S) (.bl _)⟩⟩
theorem wr_notInD (h : IsDc μ p R) (q : k (.bl (!(lk R x).isSome)) μ) : wpR K H0 (rInD true) (.str x) (.ref p) ρ μ k := fun σ H v w S r1 r2 Q hQ => by
  refine ⟨p, vV R, r2.ref_inv, h.rd S.mem, .inl ⟨.inr (sT x), r1.str_inv, ?_⟩⟩
  rw [val_vV, Option.isSome_map]
  exact hQ _ μ _ H q (Fo.refl S) (.bl _)
theorem wp_dget (h : wpE K H0 td ρ μ fun o μ1 => wpE K H0 ty ρ μ1 fun y μ2 => ∃ p R x v, o = .ref p ∧ y = .str x ∧ IsDc μ2 p R ∧ lk R x = some v ∧ k (.int v) μ2) : wpE K H0 (tDGet td ty) ρ μ k := fun σ H S Q hQ => by
  refine h σ H S _ fun o μ1 u H1 q1 F1 r1 => q1 σ H1 F1.st _ fun y μ2 w H2 q2 F2 r2 => ?_
  obtain ⟨p, R, x, v, rfl, rfl, hd, hl, q⟩ := q2
  refine ⟨p, .int v, r1.ref_inv, .inl ⟨vV R, .inr (sT x), hd.rd F2.st.mem, r2.str_inv, ?_⟩, hQ _ μ2 _ H2 q (F1.trans F2) (.int _)⟩
  rw [val_vV, hl]
  rfl
theorem wp_dget1 (h : wpE K H0 td ρ μ fun o μ1 => ∃ p R0, o = .ref p ∧ IsDc μ1 p R0 ∧ wpE K H0 ty ρ μ1 fun y μ2 => ∃ R x, y = .str x ∧ IsDc μ2 p R ∧ (lk R x = none → k .non μ2) ∧ (∀ v, lk R x = some v → k (.int v) μ2)) : wpE K H0 (tDGet1 td ty) ρ μ k := fun σ H S Q hQ => by
  refine h σ H S _ fun o μ1 u H1 q1 F1 r1 => ?_
  obtain ⟨p, R0, rfl, hd0, q1⟩ := q1
  refine ⟨p, r1.ref_inv, .inl ⟨_, hd0.rd F1.st.mem⟩, ?_⟩
  refine q1 σ H1 F1.st _ fun y μ2 w H2 q2 F2 r2 => ?_
  obtain ⟨R, x, rfl, hd, qn, qs⟩ := q2
  refine ⟨valV (vV R) (.inr (sT x)), .inl ⟨vV R, .inr (sT x), hd.rd F2.st.mem, r2.str_inv, rfl⟩, ?_⟩
  rw [val_vV]
  cases e : lk R x with
  | none => exact hQ _ μ2 _ H2 (qn e) (F1.trans F2) .non
  | some v => exact hQ _ μ2 _ H2 (qs v e) (F1.trans F2) (.int v)
theorem wp_dput (h : wpE K H0 tv ρ μ fun d μ1 => wpE K H0 td ρ μ1 fun o μ2 => wpE K H0 ty ρ μ2 fun y μ3 => ∃ p R x v, d = .int v ∧ o = .ref p ∧ y = .str x ∧ (p, DCell.dct (R.map dR)) ∈ μ3 ∧ R.length < sizeLine ∧ ∀ μ4, (p, DCell.dct ((putR R x v).map dR)) ∈ μ4 → Ot μ3 (p, .dct (R.map dR)) μ4 → P.nx ρ μ4) :
    wpS K H0 (sDPut td ty tv) ρ μ P := fun H1 g σ H S D O =>
  h σ H (S.low g) _ fun d μ1 vv H2 q F r => q σ H2 F.st _ fun o μ2 u H3 q2 F2 r2 => q2 σ H3 F2.st _ fun y μ3 w H4 q3 F3 r3 => by
    obtain ⟨p, R, x, v, rfl, rfl, rfl, hm, hl, q4⟩ := q3
    obtain ⟨μa, μb, rfl⟩ := List.append_of_mem hm
    obtain ⟨vs, e1, e2⟩ := F3.st.mem.ok (p, .dct (R.map dR)) mem_mid
    have ev := kv_rows e2
    subst ev
    refine ⟨p, _, r2.ref_inv, .inl ⟨vV R, .inr (sT x), e1, r3.str_inv, by rw [vV_len]; exact hl, rfl⟩, ?_⟩
    rw [r.int_inv, put_vV]
    obtain ⟨M, g'⟩ := F3.st.mem.upd (c' := .dct ((putR R x v).map dR)) (o := .dK (vV (putR R x v))) ⟨vV (putR R x v), upd_same, kvR_of _⟩
    exact O.nx _ _ _ _ (q4 _ (by simp) ot_mid) ((((((F.up S).go F2.st.mem F2.ge)).go F3.st.mem F3.ge)).go M g')
theorem rpA1 {vs : List V} {p : Addr} (r : RpA K H vs [.ref p]) : vs = [.ref p] := by
  cases r with
  | cons r rr =>
    cases rr
    rw [r.ref_inv]
theorem wc_lenD (h : IsDc μ p R) (q : k (.int R.length) μ) : wpC K H0 rLenD [.ref p] ρ μ k := fun σ H vs S r Q hQ => by
  refine ⟨p, vV R, rpA1 r, h.rd S.mem, ?_⟩
  rw [vV_len]
  exact hQ _ μ _ H q (Fo.refl S) (.int _)
/-- dict(d): a new cell -/
theorem wc_dctD (h : IsDc μ p R) (q : ∀ l, k (.ref l) ((l, .dct (R.map dR)) :: μ)) : wpC K H0 rDctD [.ref p] ρ μ k := fun σ H vs S r Q hQ => by
  refine ⟨p, vV R, rpA1 r, h.rd S.mem, fun l hl => ?_⟩
  have g := hid_cell (μ := μ) (c := .dct (R.map dR)) (o := .dK (vV R)) hl
  have M := S.mem.cell (c := .dct (R.map dR)) (o := .dK (vV R)) hl ⟨vV R, upd_same, kvR_of _⟩
  exact hQ _ _ _ _ (q l) ⟨S.go M g, g⟩ (.ref l)
theorem rpA_strsD {H : Hp} : ∀ ks : List Tx, RpA K H ((ks.map sT).map V.str) (ks.map Dv.str)
  | [] => .nil
  | x :: ks => .cons (.str x) (rpA_strsD ks)
theorem wc_lstD (h : IsDc μ p R) (q : k (.lst ((R.map (·.1)).map Dv.str)) μ) : wpC K H0 rLstD [.ref p] ρ μ k := fun σ H vs S r Q hQ => by
  refine ⟨p, vV R, rpA1 r, h.rd S.mem, fun l hl => ?_⟩
  have e : ((vV R).map fun kv => kV kv.1) = (((R.map (·.1)).map sT).map V.str) := by
    unfold vV
    rw [List.map_map, List.map_map, List.map_map]
    rfl
  rw [e]
  obtain ⟨F, r⟩ := fo_lst (ds := (R.map (·.1)).map Dv.str) S hl (rpA_strsD _)
  exact hQ _ μ _ _ q F r
theorem wc_sortD {ks : List Tx} (h : IsDc μ p R) (hz : R.length ≤ 16777216) (he : ks.Perm (R.map (·.1))) (hs : ks.Pairwise (· < ·)) (q : k (.lst (ks.map Dv.str)) μ) : wpC K H0 rSortDD [.ref p] ρ μ k := fun σ H vs S r Q hQ => by
  refine ⟨p, vV R, R.map (fun r => sT r.1), rpA1 r, h.rd S.mem, vV_keys R, by rw [List.length_map]; exact hz, fun l hl => ?_⟩
  have e : (R.map fun r => sT r.1).mergeSort leS = ks.map sT := by
    have tr : ∀ a b c : Str, leS a b = true → leS b c = true → leS a c = true := fun a b c h1 h2 => by
      unfold leS at *
      rw [Bool.not_eq_true', decide_eq_false_iff_not] at *
      intro z
      rcases TM.tx_tri a.cps.toList b.cps.toList with l | e | l
      · exact h2 (TM.tx_trans z l)
      · exact h2 (e ▸ z)
      · exact h1 l
    have to : ∀ a b : Str, (leS a b || leS b a) = true := fun a b => by
      unfold leS
      rw [Bool.or_eq_true, Bool.not_eq_true', Bool.not_eq_true', decide_eq_false_iff_not, decide_eq_false_iff_not]
      rcases TM.tx_tri a.cps.toList b.cps.toList with l | e | l
      · exact .inl (TM.tx_asymm l)
      · exact .inl (by rw [e]; exact TM.tx_irr _)
      · exact .inr (TM.tx_asymm l)
    refine List.Perm.eq_of_pairwise (le := fun a b => leS a b = true) ?_ ?_ ?_ ?_
    · intro a b _ _ h1 h2
      unfold leS at h1 h2
      rw [Bool.not_eq_true', decide_eq_false_iff_not] at h1 h2
      rcases TM.tx_tri a.cps.toList b.cps.toList with l | e | l
      · exact absurd l h2
      · rw [← sT_cps a, ← sT_cps b, e]
      · exact absurd l h1
    · exact List.pairwise_mergeSort tr to _
    · rw [List.pairwise_map]
      refine hs.imp fun {a b} hab => ?_
      unfold leS
      rw [cps_sT, cps_sT, Bool.not_eq_true', decide_eq_false_iff_not]
      exact TM.tx_asymm hab
    · refine (List.mergeSort_perm _ _).trans ?_
      have := (he.map sT).symm
      rw [List.map_map] at this
      exact this
  rw [e]
  obtain ⟨F, r⟩ := fo_lst (ds := ks.map Dv.str) S hl (rpA_strsD _)
  exact hQ _ μ _ _ q F r
/-- max(l) -/
theorem wc_max {ns : List Int} (h : IsL μ a (ns.map Dv.int)) (hn : 0 < ns.length) (q : ∀ m, m ∈ ns → (∀ y ∈ ns, y ≤ m) → k (.int m) μ) : wpC K H0 (rMax K) [a] ρ μ k := fun σ H vs S r Q hQ => by
  cases r with
  | cons r rr =>
    cases rr
    obtain ⟨l, us, rfl, e1, e2⟩ := h.at S.mem r
    have e3 : us = ns.map V.int := by
      clear e1 q hQ hn h
      induction ns generalizing us with
      | nil => cases e2; rfl
      | cons n ns ih =>
        cases e2 with
        | cons h1 h2 => rw [h1.int_inv, ih _ h2]; rfl
    subst e3
    exact ⟨l, ns, rfl, .inl (.inl e1), hn, fun m h1 h2 => hQ _ μ _ H (q m h1 h2) (Fo.refl S) (.int m)⟩
end
end DL
/-! DLr: a dict walked, enumerate, pairs of names walked; a def called while an error is held. -/
namespace DL
open PySem PySem.Spec PyProof.Rows L2
open TM (Rw Sr lk)
section
variable {K : PySem.W.Frag} {H0 H1 H H' : Hp} {ρ : DEnv} {μ μ' : DMem} {σ : L2.St} {k : Dv → DMem → Prop} {ki : List Dv → DMem → Prop} {te td ty tv : TE} {ta : TA} {x : Tx} {a b d : Dv} {ds : List Dv} {p : Addr} {P : Post} {R : List Rw} {t : TS} {i j : Nat} {wi : TI}
/-- for k in d: the dict is locked -/
theorem wp_forD (hi : ρ[i]? = some (some (.ref p))) (hp : (p, DCell.dct (R.map dR)) ∈ μ) (Inv : Obj → Nat → DEnv → DMem → Prop)
    (h0 : ∀ o μ1, (p, DCell.lck o (R.map dR)) ∈ μ1 → Ot μ (p, .dct (R.map dR)) μ1 → Inv o 0 ρ μ1)
    (hs : ∀ o (n : Nat) r ρ' μ', R[n]? = some r → Inv o n ρ' μ' → (p, DCell.lck o (R.map dR)) ∈ μ' ∧ wpS K H0 t (ρ'.set j (some (.str r.1))) μ' { nx := Inv o (n + 1), rt := fun _ _ => False, ct := Inv o (n + 1), bk := fun _ _ => False })
    (hd : ∀ o ρ' μ', Inv o R.length ρ' μ' → (p, DCell.lck o (R.map dR)) ∈ μ' ∧ ∀ μ2, (p, DCell.dct (R.map dR)) ∈ μ2 → Ot μ' (p, .lck o (R.map dR)) μ2 → P.nx ρ' μ2) :
    wpS K H0 (tLock (tFor (iKeys (tVar i)) (gName j) t)) ρ μ P := fun H1 g σ H S D O => by
  obtain ⟨μa, μb, rfl⟩ := List.append_of_mem hp
  obtain ⟨vs, e1, e2⟩ := S.mem.ok (p, .dct (R.map dR)) mem_mid
  have ev := kv_rows e2
  subst ev
  refine ⟨p, .dK (vV R), e1, trivial, fun od => ?_⟩
  obtain ⟨M1, g1⟩ := S.mem.upd (c' := .lck od (R.map dR)) (o := .frz od (.dK (vV R))) ⟨vV R, upd_same, kvR_of _⟩
  have S1 := S.go M1 g1
  have hI0 := h0 od _ (by simp) (ot_mid (c' := .lck od (R.map dR)))
  obtain ⟨v, hv1, hv2⟩ := S1.sl i _ hi
  have ev := hv2.ref_inv
  subst ev
  refine ⟨.ref p, hv1, p, od, rfl, .inl ⟨vV R, upd_same, ?_⟩⟩
  refine ⟨fun n m σ H => m = R.length - n ∧ n ≤ R.length ∧ ∃ ρ μ, Inv od n ρ μ ∧ Sta K H1 ρ μ σ H, ⟨_, rfl, Nat.zero_le _, ρ, _, hI0, S1⟩, ?_⟩
  rintro n m σ' H' ⟨rfl, hn, ρ', μ', hI, S'⟩
  have at_ : (p, DCell.lck od (R.map dR)) ∈ μ' → H' p = some (.frz od (.dK (vV R))) := fun hm => by
    obtain ⟨vs, e1, e2⟩ := S'.mem.ok _ hm
    rw [kv_rows e2] at e1
    exact e1
  by_cases hlt : n < R.length
  · obtain ⟨hm, hw⟩ := hs od n R[n] ρ' μ' (List.getElem?_eq_getElem hlt) hI
    refine .inr ⟨⟨at_ hm, by rw [vV_len]; exact hlt⟩, fun σ'' H'' => ∃ ρ μ, Inv od (n + 1) ρ μ ∧ Sta K H1 ρ μ σ'' H'', fun σ'' H'' z => ⟨R.length - (n + 1), by omega, rfl, hlt, z⟩, fun x H'' y => ?_⟩
    obtain ⟨rfl, kk, vv, hk, rfl⟩ := y
    have ek : kk = .inr (sT R[n].1) := by
      unfold vV at hk
      rw [List.getElem?_map, List.getElem?_eq_getElem hlt] at hk
      exact (Prod.mk.inj (Option.some.inj hk)).1.symm
    subst ek
    exact hw H1 g _ _ (S'.set (.str _) j) _ ⟨fun ρ μ σ H p S => ⟨ρ, μ, p, S⟩, fun d μ v H p => p.elim, fun ρ μ σ H p => p.elim, fun ρ μ σ H p S => ⟨ρ, μ, p, S⟩⟩
  · have e : n = R.length := by omega
    subst e
    obtain ⟨hm, hq⟩ := hd od ρ' μ' hI
    refine .inl ⟨⟨at_ hm, by rw [vV_len]; exact Nat.le_refl _⟩, at_ hm, ?_⟩
    obtain ⟨μa', μb', rfl⟩ := List.append_of_mem hm
    obtain ⟨M2, g2⟩ := S'.mem.upd (c' := .dct (R.map dR)) (o := .dK (vV R)) ⟨vV R, upd_same, kvR_of _⟩
    exact O.nx _ _ _ _ (hq _ (by simp) ot_mid) (S'.go M2 g2)
/-- enumerate(l) -/
def enumD : Nat → List Dv → List Dv
  | _, [] => []
  | n, d :: ds => .tup [.int (n : Nat), d] :: enumD (n + 1) ds
theorem enumD_len : ∀ (ds : List Dv) (n : Nat), (enumD n ds).length = ds.length
  | [], _ => rfl
  | d :: ds, n => by rw [enumD, List.length_cons, List.length_cons, enumD_len]
theorem enumD_get : ∀ (ds : List Dv) (n i : Nat), (enumD n ds)[i]? = (ds[i]?).map fun d => .tup [.int ((n + i : Nat) : Int), d]
  | [], _, _ => rfl
  | d :: ds, n, 0 => rfl
  | d :: ds, n, i + 1 => by
    rw [enumD, List.getElem?_cons_succ, List.getElem?_cons_succ, enumD_get ds (n + 1) i]
    have : n + 1 + i = n + (i + 1) := by omega
    rw [this]
theorem walk_e {l : Addr} {xs : List V} {Hb : Hp} (h : Hb l = some (.lst xs)) (r : RpA K Hb xs ds) : WalkD K Hb (Ite K l) (enumD 0 ds) := fun H g i => by
  have sq : ∀ {H : Hp}, Ge Hb H → SqL K H l xs := fun g => .inl (.inl (g _ _ h))
  rw [enumD_len]
  refine ⟨fun hi => ?_, fun hi => ⟨xs, sq g, by rw [r.length]; exact hi⟩, fun x H' hi y => ?_⟩
  · obtain ⟨v, h1, _⟩ := r.get (List.getElem?_eq_getElem hi)
    exact ⟨xs, v, sq g, h1⟩
  · obtain ⟨T, v, rfl, hT, rfl, hx⟩ := y
    obtain ⟨v', h1, h2⟩ := r.get (List.getElem?_eq_getElem hi)
    have e2 := hx xs (sq g)
    rw [h1] at e2
    cases e2
    refine ⟨grow_new hT, .tup [.int (i : Nat), ds[i]], ?_, fun O gO hO => ?_⟩
    · rw [enumD_get, List.getElem?_eq_getElem hi, Nat.zero_add]
      rfl
    · have nO : T ∉ O := fun z => hO T z hT
      have gg : Ge Hb (hid (L2.upd H T (.tup [.int (i : Nat), v])) O) := gO.trans fun a u e => by
        obtain ⟨z1, z2⟩ := hid_some e
        rw [hid_of z1, upd_ne (ne_of_none z2 hT)]
        exact z2
      exact .tup (by rw [hid_of nO]; exact upd_same) (.cons (.int _) (.cons (h2.mono gg) .nil))
theorem wi_enum (h : wpA K H0 ta ρ μ fun as μ1 => ∃ ds, as = [.lst ds] ∧ ki (enumD 0 ds) μ1) : wpI K H0 (iEnum K ta) ρ μ ki := fun σ H S Rr hR => by
  refine h σ H S _ fun as μ1 vs H1 q F r => ?_
  obtain ⟨ds, rfl, q⟩ := q
  cases r with
  | cons r rr =>
    cases rr
    obtain ⟨a, xs, rfl, h1, h2⟩ := r.lst_inv
    exact ⟨a, xs, rfl, .inl (.inl (hid_some h1).2), hR _ μ1 _ H1 q F (walk_e h1 h2)⟩
/-- for a, b in .. -/
theorem wp_for2 {i2 : Nat} (h : wpI K H0 wi ρ μ fun ds μ1 => ∃ Inv : Nat → DEnv → DMem → Prop, Inv 0 ρ μ1 ∧
      (∀ (n : Nat) d ρ μ, ds[n]? = some d → Inv n ρ μ → ∃ a b, d = .tup [a, b] ∧ wpS K H0 t ((ρ.set i (some a)).set i2 (some b)) μ { P with nx := Inv (n + 1), ct := Inv (n + 1), bk := P.nx }) ∧ (∀ ρ μ, Inv ds.length ρ μ → P.nx ρ μ)) :
    wpS K H0 (tFor wi (gTup K 2 (gCons (gName i) (gCons (gName i2) gNil))) t) ρ μ P := fun H1 g σ H S D O => by
  refine h σ H (S.low g) _ fun ds μ1 J H2 q F W => ?_
  obtain ⟨Inv, h0, hs, hd⟩ := q
  have S2 : Sta K (hid H2 (keys μ1)) ρ μ1 σ H2 := (F.up S).top
  have gg : Ge H1 (hid H2 (keys μ1)) := (F.up S).ge
  have OK := O.up gg
  refine ⟨fun i m σ H => m = ds.length - i ∧ i ≤ ds.length ∧ ∃ ρ μ, Inv i ρ μ ∧ Sta K (hid H2 (keys μ1)) ρ μ σ H, ⟨_, rfl, Nat.zero_le _, ρ, μ1, h0, S2⟩, ?_⟩
  rintro n m σ' H' ⟨rfl, hi, ρ', μ', hI, S'⟩
  obtain ⟨w1, w2, w3⟩ := W H' (S'.ge.trans (hid_ge _ _)) n
  by_cases hlt : n < ds.length
  · refine .inr ⟨w1 hlt, fun σ'' H'' => ∃ ρ μ, Inv (n + 1) ρ μ ∧ Sta K (hid H2 (keys μ1)) ρ μ σ'' H'', fun σ'' H'' z => ⟨ds.length - (n + 1), by omega, rfl, hlt, z⟩, fun x H'' y => ?_⟩
    obtain ⟨g2, d, hd1, hd2⟩ := w3 x H'' hlt y
    have F3 := Fo.grow S' g2
    have r3 := hd2 (keys μ') S'.ge (fun a ha => by
      obtain ⟨c, hc, e⟩ := List.mem_map.mp ha
      obtain ⟨o, ho⟩ := (S'.mem.ok c hc).some
      rw [← e, ho]
      exact fun z => nomatch z)
    obtain ⟨a, b, rfl, hw⟩ := hs n d ρ' μ' hd1 hI
    obtain ⟨q, xs, rfl, e1, e2⟩ := r3.tupAt
    cases e2 with
    | cons ra rr =>
      cases rr with
      | cons rb rr =>
        cases rr
        refine ⟨q, _, rfl, .inl (.inl e1), rfl, _, _, rfl, _, _, rfl, rfl, ?_⟩
        exact hw _ (g.trans gg) _ H'' ((F3.st.set ra i).set rb i2) _ ⟨fun ρ μ σ H p S => ⟨ρ, μ, p, S⟩, OK.rt, OK.nx, fun ρ μ σ H p S => ⟨ρ, μ, p, S⟩⟩
  · have e : n = ds.length := by omega
    subst e
    exact .inl ⟨w2 (Nat.le_refl _), OK.nx _ _ _ _ (hd _ _ hI) S'⟩
end
/-! ### a def that is handed the error that is held -/
structure RmH (m : Nat) (A : Around) : Prop where
  dp : A.depth + m + 8 < recursionLimit
  un : A.units + 5 * m + 250 < cLine
theorem RmH.units {m : Nat} {A : Around} (r : RmH m A) : A.units + 64 < cLine := by
  have := r.un
  omega
theorem RmH.mono {j m : Nat} {A : Around} (r : RmH m A) (h : j ≤ m) : RmH j A := by
  obtain ⟨b, c⟩ := r
  exact ⟨by omega, by omega⟩
theorem RmH.below {m : Nat} {A : Around} (r : RmH (m + 1) A) (v : Env) : RmH m (A.deeper v) := by
  obtain ⟨b, c⟩ := r
  refine ⟨?_, ?_⟩
  · show A.depth + 1 + m + 8 < _
    omega
  · show A.units + 3 + 5 * m + 250 < _
    omega
theorem Rm.hot {m : Nat} {A : Around} (r : Rm m A) (v : Option Value) : RmH m (A.mark v) := ⟨r.dp, r.un⟩
/-- the error p: its class D; the answer d, nothing else changed -/
abbrev SpcE := Addr → DMem → (Dv → DMem → Prop) → Prop
def spE (K : PySem.W.Frag) (S : SpcE) (a : Addr) (cls : Value) (dd : Option Addr) : Sp := fun vs H Q _ => ∃ D μ k, vs = [.ref a] ∧ cls = .ref D ∧ dd = none ∧ MemOk K H μ ∧ S D μ k ∧
  (∀ d μ' v H', k d μ' → MemOk K H' μ' → Ge (hid H (keys μ)) (hid H' (keys μ')) → Rp K (hid H' (keys μ')) v d → Q v H')
structure FnE (P : Program) (w : World) (K : PySem.W.Frag) (mg : Str → Option Value) (base : Heap) (m : Nat) (f : Addr) (fd : FuncData) (x : Str) (S : SpcE) : Prop where
  go : ∀ (A : Around) (out : List Env) (s : Shared) (H : Hp) (as : Args) (us : List Value) (vs : List V) (Q : VK) (E : XK) (p : Addr × Obj) (cls : Value) (dd : Option Addr), Zc cls dd p.2 → (∃ fs, p.2.data = .fields fs) → RmH m A → L2H.PinOk out H s p → Env0 P w K mg base A out s H → BindsTo s fd as ([x].zip us) → Vals vs us → spE K S p.1 cls dd vs H Q E →
    codeAny (model P w) A (.call (.ref f) as) (CR (L2.CX P w) out P w H s Q E) s
theorem fnE_of {P : Program} {w : World} {K : PySem.W.Frag} {mg : Str → Option Value} {base : Heap} {x qual y : Str} {st : Stmt} {f : Addr} {fd : FuncData} {N : List Str} {m : Nat} {S : SpcE} (F : Fun K x qual st f fd) (Sc : FnScope N [y] (defScope st))
    (hbody : ∀ (cdv : Value) (A : Around) (outer : List Env) (s : Shared) (H : Hp) (E : XK) (p : Addr × Obj) (D : Addr), RmH m (A.deeper (envOfC qual (defScope st) s.heap.objs.size f cdv)) → Zc (.ref D) none p.2 → (∃ fs, p.2.data = .fields fs) →
      ∃ t, PSs (L2H.cxH (L2.CX P w) P w K mg base N qual (defScope st) f cdv A outer s H E p) (defBody st) t ∧
        ∀ H0 μ kk, S D μ kk → wpS K H0 t (envOf N [.ref p.1]) μ { nx := fun _ μ' => kk .non μ', rt := kk }) :
    FnE P w K mg base (m + 1) f fd y S := by
  obtain ⟨oc, od, kV, doc, pm, an, cdv, ct, osl, e, lk, cd⟩ := F.ex
  subst e
  refine ⟨fun A out s H as us vs Q E p cls dd hz hf hr hpin he hbd hv hs => ?_⟩
  obtain ⟨D, μ, kk, rfl, rfl, rfl, M, hS, hk⟩ := hs
  have inK : K.In s.heap := he.mod.kin.keeps fun a o z => (he.bs a o z).1
  have noL : s.heap.NoLimit := he.mod.nolimit.keeps fun a o z => (he.bs a o z).1
  have kinds : ∀ q ∈ [y].zip us, (defScope st).names.lookup q.1 = some .local ∨ ((defScope st).names.lookup q.1 = some .cell ∧ ((cellsFrom (s.heap.objs.size + 1) (defScope st).names []).lookup q.1).isSome = true) := by
    rintro ⟨a, b⟩ hq
    have hin := (List.of_mem_zip hq).1
    cases Sc.par a hin with
    | inl z => exact .inl z
    | inr z => exact .inr ⟨z, PySem.W.cellsFrom_some _ _ _ (.inl z)⟩
  have hdep : A.depth < recursionLimit := by
    have := hr.dp
    omega
  refine codeAny_call_function hdep (inK _ _ lk) rfl Sc.co Sc.gen rfl (PySem.W.codeRec_of inK cd) (hbd _ _ _ _ ?_)
  refine wpAny_newFunctionEnv_cells Sc.kind kinds fun env z s1 ic => ?_
  subst z
  refine ⟨noL.keeps ic.toInCall.keep, codeAny_func ?_⟩
  obtain ⟨t, p1, p2⟩ := hbody cdv A out s H E p D (hr.below _) hz hf
  have J0 : Inv (L2H.cxH (L2.CX P w) P w K mg base N qual (defScope st) f cdv A out s H E p) [] (start N [.ref p.1]) H s1 := L2H.inv_startH Sc hpin he rfl hv ic
  have r : RpA K (hid H (keys μ)) [V.ref p.1] [.ref p.1] := .cons (.ref _) .nil
  have p2 := p2 (hid H (keys μ)) μ kk hS _ (Ge.refl _) _ H (sta_start r M) { nx := fun _ H' => Q .non H', rt := Q } ⟨fun ρ μ' σ H' p S' => hk _ μ' _ H' p S'.mem S'.ge .non, fun d μ' v H' p M' g r' => hk d μ' v H' p M' g r', fun _ _ _ _ p => p.elim, fun _ _ _ _ p => p.elim⟩
  refine wpAny_mono (p1.run [] s1 _ H _ J0 p2) (fun fl s2 z => ?_) (fun _ _ z => z)
  cases fl with
  | brk => exact (z.elim fun _ z => z.elim fun _ z => z.2).elim
  | cont => exact (z.elim fun _ z => z.elim fun _ z => z.2).elim
  | next =>
    obtain ⟨σ2, H2, J, q⟩ := z
    exact ⟨.non, H2, J.os, J.bare, J.base, J.hok, rfl, q⟩
  | ret u =>
    obtain ⟨v, σ2, H2, J, rv, q⟩ := z
    exact ⟨v, H2, J.os, J.bare, J.base, J.hok, rv, q⟩
structure DfE (P : Program) (w : World) (K : PySem.W.Frag) (mg : Str → Option Value) (base : Heap) (k : Nat) (x : Str) (y : Str) (S : SpcE) : Prop where
  ex : ∃ f fd, FnE P w K mg base k f fd y S ∧ mg x = some (.ref f) ∧ PySem.W.keepIn K (.ref f) = true ∧ Binds K fd [y] []
theorem DfE.mk' {P : Program} {w : World} {K : PySem.W.Frag} {mg : Str → Option Value} {base : Heap} {x qual y : Str} {st : Stmt} {f : Addr} {fd : FuncData} {k : Nat} {S : SpcE} (F : Fun K x qual st f fd) (hm : mg x = some (.ref f)) (b : Binds K fd [y] []) (h : FnE P w K mg base k f fd y S) : DfE P w K mg base k x y S := ⟨f, fd, h, hm, F.kp, b⟩
theorem DfE.mono {P : Program} {w : World} {K : PySem.W.Frag} {mg : Str → Option Value} {base : Heap} {x y : Str} {j k : Nat} {S : SpcE} (F : DfE P w K mg base j x y S) (h : j ≤ k) : DfE P w K mg base k x y S := by
  obtain ⟨f, fd, G, a, b, c⟩ := F.ex
  exact ⟨f, fd, ⟨fun A outer s H args us vs Q E p cls dd hz hf hr => G.go A outer s H args us vs Q E p cls dd hz hf (hr.mono h)⟩, a, b, c⟩
/-- f(e) in the suite that holds e -/
def tCallE (K : PySem.W.Frag) (S : SpcE) (a : Addr) (cls : Value) (dd : Option Addr) (t : TA) : TE := fun σ H Q => t σ H fun vs H1 => spE K S a cls dd vs H1 Q fun _ _ _ => False
theorem pe_dfE {X : Cx} {P : Program} {w : World} {K : PySem.W.Frag} {mg : Str → Option Value} {base : Heap} {k : Nat} {a : Addr} {oe : Obj} {cls : Value} {dd : Option Addr} {x y : Str} {S : SpcE} {q pos : Pos} {e : Expr} {es : List Expr} {t : TA} (F : DfE P w K mg base k x y S) (hz : Zc cls dd oe) (hf : ∃ fs, oe.data = .fields fs) (h1 : X.prog = P ∧ X.w = w ∧ X.K = K ∧ X.mg = mg ∧ X.base = base)
    (hp : (a, oe) ∈ X.pn) (hr : RmH k X.A) (hg : Gl X x) (ha : PA X (e :: es) t) (hdb : (x == ("__debug__" : Str)) = false := by decide) (he : starEach (e :: es) X.env = (false, eval e X.env) :: starEach es X.env := by rfl) (hpl : (backTo pos (starEach es X.env)).any (·.1) = false := by rfl) :
    PE X (.Call (.Name x q) (e :: es) [] pos) (tCallE K S a cls dd t) := by
  obtain ⟨rfl, rfl, rfl, rfl, rfl⟩ := h1
  obtain ⟨f, fd, G, hm, hk, hb⟩ := F.ex
  refine ⟨fun pins s σ H Q I h => ?_⟩
  refine wpAny_Call_Name_kw (ld_glob I hg hm ?_ hdb)
  refine PySem.W.callWith_K (h₀ := X.base) I.ok.mod.kin hk (thn (ha.run pos pins s σ H _ I h) fun us s1 ⟨vs, H1, I1, r, q⟩ => ⟨I1.kIn, ?_⟩) he hpl
  have hl : us.length = 1 := by
    obtain ⟨_, _, _, rfl, _⟩ := id q
    exact r.length.symm
  have bd := hb s1 us I1.kIn (by rw [List.append_nil]; exact hl)
  rw [List.append_nil] at bd
  have P1 := I1.pin (a, oe) (List.mem_append_left _ hp)
  have hpin : L2H.PinOk X.stack H1 s1 (a, oe) := ⟨P1.1, P1.2.1, fun hm => (List.mem_cons.mp (I1.stkSub a hm)).elim P1.2.2.1 P1.2.2.2.1, P1.2.2.2.2⟩
  refine wpAny_call (codeAny_mono (G.go X.A X.stack s1 H1 ⟨us, []⟩ us vs Q (fun _ _ _ => False) (a, oe) cls dd hz hf hr hpin I1.env0 bd r q) fun r s' hq => ?_)
  cases r with
  | error e =>
    obtain ⟨_, _, _, _, _, _, _, _, _, _, _, _, z⟩ := hq
    exact z.elim
  | ok fl =>
    cases fl with
    | ret u => exact I1.after hq
    | next => exact False.elim hq
    | brk => exact False.elim hq
    | cont => exact False.elim hq
theorem call_isH {X : Cx} {K : PySem.W.Frag} {p : Addr × Obj} {D : Addr} (h : X.K = K) (hp : X.pn = [p]) (hz : Zc (.ref D) none p.2) (hf : ∃ vs, p.2.data = .fields vs) : CallR X (.builtin "isinstance") (rIsS K (.ref D) none p.1) := by
  subst h
  intro pins s σ H xs us Q I r h
  obtain ⟨D', c, cv, b, e0, _, hC, rfl, hcv, e, q⟩ := h
  cases e0
  cases r with
  | cons rx rr =>
    cases rr with
    | cons rt rr =>
      cases rr
      cases rx
      have ec := hcv _ rt
      subst ec
      obtain ⟨hget, _⟩ := I.pin p (by rw [hp]; exact List.mem_append_left _ List.mem_cons_self)
      obtain ⟨vs, hv⟩ := hf
      have J : PySem.W.InstAt s.heap p.1 p.2 D none := by
        obtain ⟨pa, oc, od, oda, osl⟩ := p
        obtain ⟨h1, h2⟩ := hz
        dsimp only at h1 h2 hv
        subst h1 h2 hv
        exact ⟨hget, rfl, rfl, trivial⟩
      exact PySem.W.kia_one (PySem.W.handS_kitx_exc hC.hg hC.hk hC.hs hC.hd hC.ha hC.hn hC.ht hC.hm) I.kIn J e (fun z => nomatch z) fun tk => ⟨.bl b, H, I.kept (t' := tk) fun _ _ z => z, rfl, q⟩
/-- over data -/
theorem wp_callE {K : PySem.W.Frag} {H0 : Hp} {ρ : DEnv} {μ : DMem} {k : Dv → DMem → Prop} {S : SpcE} {a D : Addr} {i : Nat} (hi : ρ[i]? = some (some (.ref a))) (h : S D μ k) :
    wpE K H0 (tCallE K S a (.ref D) none (tCons (tVar i) tNil)) ρ μ k := fun σ H St Q hQ => by
  obtain ⟨v, h1, h2⟩ := St.sl i _ hi
  have ev := h2.ref_inv
  subst ev
  exact ⟨.ref a, h1, D, μ, k, rfl, rfl, rfl, St.mem, h, fun d μ' v H' hk M g r' => hQ d μ' v H' hk ⟨St.go M g, g⟩ r'⟩
theorem Rm.u1 {m : Nat} {A : Around} (r : Rm m A) : A.units + 1 < cLine := by
  have := r.units
  omega
theorem call_maxL {X : Cx} {K : PySem.W.Frag} (h : X.K = K) (hc : X.calm = true) : CallR X (.builtin "max") (rMax K) := by
  subst h
  exact cr_max hc
theorem pi_enumK {X : Cx} {K : PySem.W.Frag} {e : Expr} {ta : TA} {p pos tpos : Pos} {elts : List Expr} {kk : Nat} (hK : X.K = K) (hg : Gl X "enumerate") (hm : X.mg "enumerate" = none) (ha : PA X [e] ta) (hs : starEach [e] X.env = [(false, eval e X.env)] := by rfl) :
    PI X (.Tuple elts kk tpos) (.Call (.Name "enumerate" p) [e] [] pos) (iEnum K ta) := by
  subst hK
  exact pi_enum hg hm ha hs
theorem pg_tupK {X : Cx} {K : PySem.W.Frag} {es : List Expr} {k : Nat} {t : TGs} {n : Nat} {pos : Pos} (hK : X.K = K) (hc : X.calm = true) (h : PGs X es t)
    (hn : (assignEach es X.env).length = n := by rfl) (hst : (assignEach es X.env).findIdx? (·.1) = none := by rfl) : PG X (.Tuple es k pos) (gTup K n t) := by
  subst hK
  exact pg_tup hc h hn hst
/-- what is asked of an error of the class C, named c -/
def KwOk (K : PySem.W.Frag) (C : Addr) (c : Str) (L : List (Str × Addr)) : Prop := ExcC K C ∧ PySem.W.kitOne K (.ref C) (.type "ValueError") = some true ∧ ∀ q ∈ L, PySem.W.kitOne K (.ref C) (.ref q.2) = some (decide (c = q.1))
end DL
/-! Mth11: what a deed answers, told over rows. -/
namespace TM
inductive Out where
  | no (n : Nat) | yes (a : Option Int) (f : Tx → Option Int)
def grp (L : List Rw) (x : Tx) : List Rw := L.filter fun r => decide (x <+: r.1)
def stO (L : List Rw) (stay : Bool) (x z : Tx) : Option Int := if stay = false ∧ x <+: z then none else lk L z
def frT (x y : Tx) (r : Rw) : Tx := y ++ r.1.drop x.length
def kpO (L : List Rw) (x : Tx) (v : Int) : Out := if lk L x = none ∧ L.length = 100 then .no 4 else .yes (lk L x) fun z => if z = x then some v else lk L z
def drO (L : List Rw) (x : Tx) : Out := if lk L x = none then .no 1 else .yes (lk L x) fun z => if z = x then none else lk L z
def prO (L : List Rw) (x : Tx) : Out := if grp L x = [] then .no 1 else .yes (some (grp L x).length) fun z => if x <+: z then none else lk L z
def brF (L : List Rw) (stay : Bool) (x y z : Tx) : Option Int := (stO L stay x z).or (if y <+: z then lk L (x ++ z.drop y.length) else none)
def brO (L : List Rw) (stay : Bool) (x y : Tx) : Out :=
  if grp L x = [] then .no 1
  else if (grp L x).any (fun r => decide (40 < (frT x y r).length)) = true then .no 2
  else if (grp L x).any (fun r => (stO L stay x (frT x y r)).isSome) = true then .no 3
  else if stay = true ∧ 100 < L.length + (grp L x).length then .no 4
  else .yes (some (grp L x).length) (brF L stay x y)
theorem kp_tree {o : Option Tr} (h : WfO o) (x : Tx) (v : Int) : kpO (namesO o) x v = if getO o x = none ∧ (namesO o).length = 100 then .no 4 else .yes (getO o x) fun z => if z = x then some v else getO o z := by
  unfold kpO
  simp only [lk_names h]
theorem dr_tree {o : Option Tr} (h : WfO o) (x : Tx) : drO (namesO o) x = if getO o x = none then .no 1 else .yes (getO o x) fun z => if z = x then none else getO o z := by
  unfold drO
  simp only [lk_names h]
theorem grp_cut {o a b : Option Tr} {x : Tx} (h : WfO o) (C : CutOk o x a b) : grp (namesO o) x = (namesO b).map fun r => (x ++ r.1, r.2) := (under_eq h C.wb C.vb).symm
theorem grp_some {o a : Option Tr} {u : Tr} {x : Tx} (h : WfO o) (C : CutOk o x a (some u)) : grp (namesO o) x ≠ [] := fun e => by
  rw [grp_cut h C] at e
  have h1 := names_pos (t := u) C.wb
  have h2 := congrArg List.length e
  rw [List.length_map] at h2
  have h3 : (namesO (some u)).length = (names u).length := rfl
  simp at h2
  have h4 : (names u).length = 0 := by rw [← h3, h2]; rfl
  omega
theorem pr_none {o a : Option Tr} {x : Tx} (h : WfO o) (C : CutOk o x a none) : prO (namesO o) x = .no 1 := by
  unfold prO
  rw [if_pos (by rw [grp_cut h C]; rfl)]
theorem pr_some {o a : Option Tr} {u : Tr} {x : Tx} (h : WfO o) (C : CutOk o x a (some u)) : prO (namesO o) x = .yes (some (namesO (some u)).length) fun z => getO a z := by
  unfold prO
  rw [if_neg (grp_some h C), grp_cut h C, List.length_map]
  congr 1
  funext z
  rw [C.va, lk_names h]
theorem br_none {o a : Option Tr} {x : Tx} (h : WfO o) (C : CutOk o x a none) (stay : Bool) (y : Tx) : brO (namesO o) stay x y = .no 1 := by
  unfold brO
  rw [if_pos (by rw [grp_cut h C]; rfl)]
theorem fr_cut (x y w : Tx) (v : Int) : frT x y (x ++ w, v) = y ++ w := by
  unfold frT
  simp
theorem st_tree {o a b : Option Tr} {x : Tx} (h : WfO o) (C : CutOk o x a b) (stay : Bool) (z : Tx) : stO (namesO o) stay x z = getO (if stay = true then o else a) z := by
  unfold stO
  cases stay with
  | true => simp [lk_names h]
  | false =>
    rw [if_neg (by simp : ¬ (false = true)), C.va, lk_names h]
    by_cases e : x <+: z <;> simp [e]
theorem br_tree {o a : Option Tr} {u : Tr} {x y : Tx} (h : WfO o) (C : CutOk o x a (some u)) (stay : Bool) :
    ((∃ r ∈ names u, 40 < y.length + r.1.length) → brO (namesO o) stay x y = .no 2) ∧
    ((∀ r ∈ names u, y.length + r.1.length ≤ 40) →
      ((∃ z, getO (if stay = true then o else a) z ≠ none ∧ getO (some (ahead y u)) z ≠ none) → brO (namesO o) stay x y = .no 3) ∧
      ((∀ z, getO (if stay = true then o else a) z = none ∨ getO (some (ahead y u)) z = none) →
        (stay = true → 100 < (namesO o).length + (names u).length → brO (namesO o) stay x y = .no 4) ∧
        ((stay = true → ¬ 100 < (namesO o).length + (names u).length) → brO (namesO o) stay x y = .yes (some (names u).length) fun z => (getO (if stay = true then o else a) z).or (getO (some (ahead y u)) z)))) := by
  have hg := grp_cut h C
  have hgn : namesO (some u) = names u := rfl
  rw [hgn] at hg
  have hne := grp_some h C
  have hlen : (grp (namesO o) x).length = (names u).length := by rw [hg, List.length_map]
  have a1 : (grp (namesO o) x).any (fun r => decide (40 < (frT x y r).length)) = (names u).any fun r => decide (40 < y.length + r.1.length) := by
    rw [hg, List.any_map]
    congr 1
    funext r
    show decide (40 < (frT x y (x ++ r.1, r.2)).length) = _
    rw [fr_cut, List.length_append]
  have a2 : (grp (namesO o) x).any (fun r => (stO (namesO o) stay x (frT x y r)).isSome) = (names u).any fun r => (getO (if stay = true then o else a) (y ++ r.1)).isSome := by
    rw [hg, List.any_map]
    congr 1
    funext r
    show (stO (namesO o) stay x (frT x y (x ++ r.1, r.2))).isSome = _
    rw [fr_cut, st_tree h C]
  have wu : Wf u := C.wb
  have gah : ∀ z, getO (some (ahead y u)) z = if y <+: z then get u (z.drop y.length) else none := fun z => get_ahead y u z
  unfold brO
  rw [if_neg hne, a1, a2, hlen]
  refine ⟨fun hl => ?_, fun hl => ?_⟩
  · have y1 : (names u).any (fun r => decide (40 < y.length + r.1.length)) = true := by
      rw [List.any_eq_true]
      obtain ⟨r, hr, e⟩ := hl
      exact ⟨r, hr, decide_eq_true e⟩
    rw [if_pos y1]
  · have n1 : ¬ (names u).any (fun r => decide (40 < y.length + r.1.length)) = true := by
      rw [List.any_eq_true]
      rintro ⟨r, hr, e⟩
      have := hl r hr
      have := of_decide_eq_true e
      omega
    rw [if_neg n1]
    refine ⟨fun ht => ?_, fun ht => ?_⟩
    · have y2 : (names u).any (fun r => (getO (if stay = true then o else a) (y ++ r.1)).isSome) = true := by
        rw [List.any_eq_true]
        obtain ⟨z, h1, h2⟩ := ht
        rw [gah] at h2
        by_cases c : y <+: z
        · rw [if_pos c] at h2
          cases e : get u (z.drop y.length) with
          | none => exact absurd e h2
          | some v =>
            refine ⟨(z.drop y.length, v), (mem_names u wu _ _).mpr e, ?_⟩
            show (getO _ (y ++ z.drop y.length)).isSome = true
            rw [← pre_split c]
            exact Option.isSome_iff_ne_none.mpr h1
        · rw [if_neg c] at h2
          exact absurd rfl h2
      rw [if_pos y2]
    · have n2 : ¬ (names u).any (fun r => (getO (if stay = true then o else a) (y ++ r.1)).isSome) = true := by
        rw [List.any_eq_true]
        rintro ⟨r, hr, e⟩
        rcases ht (y ++ r.1) with h1 | h1
        · rw [h1] at e
          cases e
        · rw [gah, if_pos (List.prefix_append y r.1), List.drop_left, (mem_names u wu r.1 r.2).mp hr] at h1
          cases h1
      rw [if_neg n2]
      refine ⟨fun hs h100 => by rw [if_pos ⟨hs, h100⟩], fun hs => ?_⟩
      have n3 : ¬ (stay = true ∧ 100 < (namesO o).length + (names u).length) := fun z => hs z.1 z.2
      rw [if_neg n3]
      congr 1
      funext z
      unfold brF
      rw [st_tree h C, gah]
      congr 1
      by_cases c : y <+: z
      · rw [if_pos c, if_pos c, lk_names h]
        exact (C.vb _).symm
      · rw [if_neg c, if_neg c]
/-! ### rows of unlike keys, in any order -/
def Nk (R : List Rw) : Prop := (R.map (·.1)).Nodup
theorem lk_some_of {R : List Rw} {x : Tx} {v : Int} (h : Nk R) (hm : (x, v) ∈ R) : lk R x = some v := by
  induction R with
  | nil => cases hm
  | cons r R ih =>
    obtain ⟨y, n⟩ := r
    have hn := List.nodup_cons.mp (show (y :: R.map (·.1)).Nodup from h)
    unfold lk
    rcases List.mem_cons.mp hm with e | hm
    · cases e
      rw [if_pos rfl]
    · have : y ≠ x := fun e => hn.1 (by rw [e]; exact List.mem_map_of_mem (f := (·.1)) hm)
      rw [if_neg this]
      exact ih hn.2 hm
theorem lk_iff {R : List Rw} {x : Tx} {v : Int} (h : Nk R) : (x, v) ∈ R ↔ lk R x = some v := ⟨lk_some_of h, lk_mem⟩
theorem Nk.perm {R L : List Rw} (h : Nk R) (p : R.Perm L) : Nk L := (p.map (fun r : Rw => r.1)).nodup_iff.mp h
theorem lk_perm {R L : List Rw} (h : Nk R) (p : R.Perm L) (z : Tx) : lk R z = lk L z := by
  cases e : lk L z with
  | some v => exact (lk_iff h).mp (p.mem_iff.mpr (lk_mem e))
  | none =>
    cases e2 : lk R z with
    | none => rfl
    | some v =>
      have := (lk_iff (h.perm p)).mp (p.mem_iff.mp (lk_mem e2))
      rw [e] at this
      cases this
theorem nk_sr {R : List Rw} (h : Sr R) : Nk R := List.pairwise_map.mpr (h.imp fun h => tx_ne h)
theorem Nk.rows {R : List Rw} (h : Nk R) : R.Nodup := (List.pairwise_map.mp h).imp fun hne e => hne (by rw [e])
theorem perm_rows {R : List Rw} {o : Option Tr} (h : Nk R) (ho : WfO o) (e : ∀ z, lk R z = getO o z) : R.Perm (namesO o) := by
  refine (List.perm_ext_iff_of_nodup h.rows (nk_sr (sr_namesO ho)).rows).mpr fun r => ?_
  obtain ⟨x, v⟩ := r
  rw [lk_iff h, lk_iff (nk_sr (sr_namesO ho)), lk_names ho, e]
theorem lk_app (A B : List Rw) (z : Tx) : lk (A ++ B) z = (lk A z).or (lk B z) := by
  induction A with
  | nil => rfl
  | cons r A ih =>
    obtain ⟨y, n⟩ := r
    show (if y = z then some n else lk (A ++ B) z) = (if y = z then some n else lk A z).or _
    by_cases e : y = z
    · rw [if_pos e, if_pos e]; rfl
    · rw [if_neg e, if_neg e, ih]
theorem lk_filt (p : Tx → Bool) (R : List Rw) (z : Tx) : lk (R.filter fun r => p r.1) z = if p z = true then lk R z else none := by
  induction R with
  | nil => cases p z <;> rfl
  | cons r R ih =>
    obtain ⟨y, n⟩ := r
    rw [List.filter_cons]
    by_cases hp : p y = true
    · rw [if_pos hp]
      show (if y = z then some n else lk _ z) = if p z = true then (if y = z then some n else lk R z) else none
      by_cases e : y = z
      · rw [if_pos e, if_pos e, ← e, if_pos hp]
      · rw [if_neg e, if_neg e, ih]
    · rw [if_neg hp, ih]
      show _ = if p z = true then (if y = z then some n else lk R z) else none
      by_cases e : y = z
      · rw [← e, if_neg hp, if_neg hp]
      · rw [if_neg e]
theorem Nk.filt {R : List Rw} (h : Nk R) (p : Rw → Bool) : Nk (R.filter p) := h.sublist (List.Sublist.map _ List.filter_sublist)
theorem Nk.take {R : List Rw} (h : Nk R) (n : Nat) : Nk (R.take n) := h.sublist (List.Sublist.map _ (List.take_sublist _ _))
theorem nk_app {A B : List Rw} (h1 : Nk A) (h2 : Nk B) (h : ∀ r ∈ B, lk A r.1 = none) : Nk (A ++ B) := by
  unfold Nk
  rw [List.map_append]
  refine List.nodup_append.mpr ⟨h1, h2, fun a ha b hb e => ?_⟩
  obtain ⟨r, hr, rfl⟩ := List.mem_map.mp ha
  obtain ⟨q, hq, rfl⟩ := List.mem_map.mp hb
  have := h q hq
  rw [← e, lk_some_of h1 (show (r.1, r.2) ∈ A from hr)] at this
  cases this
/-- the rows under x, told under y -/
def frR (L : List Rw) (x y : Tx) : List Rw := (grp L x).map fun r => (frT x y r, r.2)
theorem lk_fr (L : List Rw) (x y z : Tx) : lk (frR L x y) z = if y <+: z then lk L (x ++ z.drop y.length) else none := by
  unfold frR grp
  induction L with
  | nil => split <;> rfl
  | cons r L ih =>
    obtain ⟨k, n⟩ := r
    rw [List.filter_cons]
    by_cases hp : x <+: k
    · rw [if_pos (decide_eq_true hp), List.map_cons]
      show (if frT x y (k, n) = z then some n else lk _ z) = if y <+: z then (if k = x ++ z.drop y.length then some n else lk L _) else none
      rw [ih]
      by_cases e : frT x y (k, n) = z
      · rw [if_pos e]
        have hz : y <+: z := by rw [← e]; exact List.prefix_append _ _
        rw [if_pos hz, if_pos]
        rw [← e]
        show k = x ++ (y ++ k.drop x.length).drop y.length
        rw [List.drop_left]
        exact pre_split hp
      · rw [if_neg e]
        by_cases hz : y <+: z
        · rw [if_pos hz, if_pos hz, if_neg]
          intro q
          apply e
          show y ++ k.drop x.length = z
          rw [q, List.drop_left]
          exact (pre_split hz).symm
        · rw [if_neg hz, if_neg hz]
    · rw [if_neg (by simpa using hp), ih]
      show _ = if y <+: z then (if k = x ++ z.drop y.length then some n else lk L _) else none
      by_cases hz : y <+: z
      · rw [if_pos hz, if_pos hz, if_neg]
        intro q
        exact hp (by rw [q]; exact List.prefix_append _ _)
      · rw [if_neg hz, if_neg hz]
theorem nk_fr {L : List Rw} (h : Nk L) (x y : Tx) : Nk (frR L x y) := by
  unfold frR Nk
  rw [List.map_map]
  have h1 : ((grp L x).map (·.1)).Nodup := h.filt _
  have h2 := List.pairwise_map.mp h1
  refine List.pairwise_map.mpr (h2.imp_of_mem fun {a b} ha hb hab e => hab ?_)
  have pa : x <+: a.1 := by simpa using (List.mem_filter.mp ha).2
  have pb : x <+: b.1 := by simpa using (List.mem_filter.mp hb).2
  have e' : y ++ a.1.drop x.length = y ++ b.1.drop x.length := e
  rw [pre_split pa, pre_split pb, List.append_cancel_left e']
end TM
/-! DLs: rows with one set. -/
namespace DL
open TM (Rw Sr lk Nk)
theorem put_new {R : List Rw} {x : Tx} {v : Int} (h : lk R x = none) : putR R x v = R ++ [(x, v)] := by
  unfold putR
  rw [h]
  rfl
theorem lk_none_ne {R : List Rw} {x : Tx} (h : lk R x = none) : ∀ r ∈ R, r.1 ≠ x := TM.lk_none.mp h
theorem lk_map_set (x : Tx) (v : Int) (z : Tx) : ∀ R : List Rw, lk (R.map fun r => if r.1 = x then (r.1, v) else r) z = if z = x then (lk R z).map (fun _ => v) else lk R z
  | [] => by simp [lk]
  | (y, n) :: R => by
    have ih := lk_map_set x v z R
    rw [List.map_cons]
    by_cases e : y = x
    · subst e
      rw [if_pos rfl]
      show (if y = z then some v else lk _ z) = if z = y then Option.map _ (if y = z then some n else lk R z) else (if y = z then some n else lk R z)
      by_cases e2 : y = z
      · subst e2; simp
      · rw [if_neg e2, if_neg e2, if_neg (fun q => e2 q.symm), ih, if_neg (fun q => e2 q.symm)]
    · have e' : ¬ ((y, n) : Rw).1 = x := e
      rw [if_neg e']
      show (if y = z then some n else lk _ z) = if z = x then Option.map _ (if y = z then some n else lk R z) else (if y = z then some n else lk R z)
      by_cases e2 : y = z
      · subst e2
        rw [if_pos rfl, if_pos rfl, if_neg e]
      · rw [if_neg e2, if_neg e2, ih]
theorem lk_put (R : List Rw) (x : Tx) (v : Int) (z : Tx) : lk (putR R x v) z = if z = x then some v else lk R z := by
  unfold putR
  split
  case isTrue h =>
    rw [lk_map_set]
    by_cases e : z = x
    · subst e
      rw [if_pos rfl, if_pos rfl]
      obtain ⟨n, hn⟩ := Option.isSome_iff_exists.mp h
      rw [hn]
      rfl
    · rw [if_neg e, if_neg e]
  case isFalse h =>
    have hn : lk R x = none := by simpa using h
    exact TM.lk_snoc (lk_none_ne hn)
theorem nk_put {R : List Rw} (h : Nk R) (x : Tx) (v : Int) : Nk (putR R x v) := by
  unfold putR
  split
  · unfold Nk
    rw [List.map_map]
    have e : ((fun r : Rw => r.1) ∘ fun r : Rw => if r.1 = x then (r.1, v) else r) = fun r : Rw => r.1 := by
      funext r
      show (if r.1 = x then ((r.1, v) : Rw) else r).1 = r.1
      split <;> rfl
    rw [e]
    exact h
  case isFalse hf =>
    have hn : lk R x = none := by simpa using hf
    refine TM.nk_app h (List.nodup_cons.mpr ⟨List.not_mem_nil, List.nodup_nil⟩) fun r hr => ?_
    rw [List.mem_singleton.mp hr]
    exact hn
theorem put_len (R : List Rw) (x : Tx) (v : Int) : (putR R x v).length ≤ R.length + 1 := by
  unfold putR
  split
  · rw [List.length_map]; omega
  · rw [List.length_append]; exact Nat.le_refl _
end DL
/-! DLt: comprehensions that ask cells; blocks cut behind several statements. -/
namespace DL
open PySem PySem.Spec PyProof.Rows L2
section
variable {K : PySem.W.Frag} {H0 H1 H H' : Hp} {ρ : DEnv} {μ μ' : DMem} {σ : L2.St} {te tl : TE} {ta : TA} {tt : TT} {k : Dv → DMem → Prop} {ki : List Dv → DMem → Prop} {i j : Nat} {P : Post} {t t1 t2 t3 t4 u : TS} {wi : TI}
theorem lc_runM {α : Type} {xs : List α} {f : α → Bool} {g : α → Dv} {en : α → Dv} {J : It} {D : Addr} {Qd : Hp → Prop} (S : Sta K H0 ρ μ σ H) (W : WalkD K (hid H (keys μ)) J (xs.map en)) (hl : xs.length ≤ sizeLine) (hD : H D = none)
    (ht : ∀ x ∈ xs, ∀ μ', (∀ c ∈ μ, c ∈ μ') → wpT K H0 tt ((ρ.set j none).set j (some (en x))) μ' fun b μ'' => μ'' = μ' ∧ b = f x) (he : ∀ x ∈ xs, f x = true → ∀ μ', (∀ c ∈ μ, c ∈ μ') → wpE K H0 te ((ρ.set j none).set j (some (en x))) μ' fun d μ'' => μ'' = μ' ∧ d = g x)
    (hd : ∀ H', Fo K H0 ρ μ σ H ((D, .lst ((xs.filter f).map g)) :: μ) H' → Qd H') :
    ∃ W : Nat → Nat → Hp → Prop, (∃ m, W 0 m (L2.upd H D (.lst []))) ∧ ∀ i m H, W i m H →
      (J.stop i H ∧ Qd H) ∨ (J.go i H ∧ ∃ Nx : Hp → Prop, (∀ H', Nx H' → ∃ m', m' < m ∧ W (i + 1) m' H') ∧ ∀ x H', J.yld i H x H' → gName j x (wipe σ [j]) H' fun σ2 H2 => wipe σ2 [j] = wipe σ [j] ∧ tt σ2 H2 fun b H3 =>
        if b = true then te σ2 H3 fun y H4 => ∃ acc, H4 D = some (.lst acc) ∧ acc.length < sizeLine ∧ Nx (L2.upd H4 D (.lst (acc ++ [y]))) else Nx H3) := by
  have g0 := hid_cell (μ := μ) (c := .lst []) (o := .lst []) hD
  have M0 := S.mem.cell (c := .lst []) (o := .lst []) hD ⟨[], upd_same, .nil⟩
  refine ⟨fun i m H' => m = xs.length - i ∧ i ≤ xs.length ∧ Fo K H0 ρ μ σ H ((D, .lst (((xs.take i).filter f).map g)) :: μ) H', ⟨_, rfl, Nat.zero_le _, ⟨S.go M0 g0, g0⟩⟩, ?_⟩
  rintro i m H' ⟨rfl, hi, F⟩
  obtain ⟨w1, w2, w3⟩ := W H' (F.ge.trans (hid_ge _ _)) i
  rw [List.length_map] at w1 w2 w3
  by_cases hlt : i < xs.length
  · refine .inr ⟨w1 hlt, fun H'' => Fo K H0 ρ μ σ H ((D, .lst (((xs.take (i + 1)).filter f).map g)) :: μ) H'', fun H'' z => ⟨xs.length - (i + 1), by omega, rfl, hlt, z⟩, fun v H'' y => ?_⟩
    obtain ⟨g2, d, hd1, hd2⟩ := w3 v H'' hlt y
    have F3 := F.trans (Fo.grow F.st g2)
    have r3 := hd2 (keys ((D, DCell.lst (((xs.take i).filter f).map g)) :: μ)) F.ge (fun a ha => by
      obtain ⟨c, hc, e⟩ := List.mem_map.mp ha
      obtain ⟨o, ho⟩ := (F.st.mem.ok c hc).some
      rw [← e, ho]
      exact fun z => nomatch z)
    have hx : xs[i]? = some xs[i] := List.getElem?_eq_getElem hlt
    have hd' : d = en xs[i] := by
      rw [List.getElem?_map, hx] at hd1
      exact (Option.some.inj hd1).symm
    subst hd'
    have hmem : xs[i] ∈ xs := List.getElem_mem hlt
    have S3 : Sta K H0 ((ρ.set j none).set j (some (en xs[i]))) ((D, DCell.lst (((xs.take i).filter f).map g)) :: μ) ((σ.set j none).set j (some v)) H'' := (F3.st.forget j none).set r3 j
    have take1 : xs.take (i + 1) = xs.take i ++ [xs[i]] := by rw [List.take_succ, hx]; rfl
    refine ⟨by show ((σ.set j none).set j (some v)).set j none = σ.set j none; simp, ?_⟩
    refine ht xs[i] hmem _ (fun c hc => List.mem_cons_of_mem _ hc) _ H'' S3 _ fun b μ3 H3 q3 F4 => ?_
    obtain ⟨rfl, rfl⟩ := q3
    have F5 : Fo K H0 ρ μ σ H ((D, DCell.lst (((xs.take i).filter f).map g)) :: μ) H3 := ⟨F3.st.go F4.st.mem F4.ge, F3.ge.trans F4.ge⟩
    by_cases hf : f xs[i] = true
    · rw [if_pos hf]
      refine he xs[i] hmem hf _ (fun c hc => List.mem_cons_of_mem _ hc) _ H3 F4.st _ fun d μ4 y4 H4 q4 F6 r6 => ?_
      obtain ⟨rfl, rfl⟩ := q4
      have F7 : Fo K H0 ρ μ σ H ((D, DCell.lst (((xs.take i).filter f).map g)) :: μ) H4 := ⟨F5.st.go F6.st.mem F6.ge, F5.ge.trans F6.ge⟩
      obtain ⟨vs, e1, e2⟩ := F7.st.mem.ok (D, .lst (((xs.take i).filter f).map g)) (List.mem_cons_self)
      have e1' : H4 D = some (.lst vs) := e1
      have lvs : vs.length ≤ i := by
        rw [e2.length, List.length_map]
        refine Nat.le_trans (List.length_filter_le _ _) ?_
        rw [List.length_take]
        omega
      refine ⟨vs, e1', by omega, ?_⟩
      have en1 : ((xs.take (i + 1)).filter f).map g = ((xs.take i).filter f).map g ++ [g xs[i]] := by rw [take1, List.filter_append, List.map_append, List.filter_cons, if_pos hf] <;> rfl
      rw [en1]
      have F7m : MemOk K H4 (([] : DMem) ++ (D, .lst (((xs.take i).filter f).map g)) :: μ) := F7.st.mem
      have gk : Ge (hid H4 (keys ((D, DCell.lst (((xs.take i).filter f).map g)) :: μ))) (hid (L2.upd H4 D (.lst (vs ++ [y4]))) (keys ((D, DCell.lst (((xs.take i).filter f).map g ++ [g xs[i]])) :: μ))) := fun a u e => by
        obtain ⟨z1, z2⟩ := hid_some e
        have ne : a ≠ D := fun z => z1 (by rw [z]; simp [keys])
        rw [hid_of (by simpa [keys] using z1), upd_ne ne]
        exact z2
      obtain ⟨M8, g8⟩ := F7m.upd (c' := .lst (((xs.take i).filter f).map g ++ [g xs[i]])) (o := .lst (vs ++ [y4])) ⟨vs ++ [y4], upd_same, (e2.mono gk).append (.cons (r6.mono gk) .nil)⟩
      exact F7.trans ⟨F7.st.go M8 g8, g8⟩
    · have en1 : ((xs.take (i + 1)).filter f).map g = ((xs.take i).filter f).map g := by rw [take1, List.filter_append, List.map_append, List.filter_cons, if_neg hf]; simp only [List.filter_nil, List.map_nil, List.append_nil]
      rw [if_neg hf, en1]
      exact F5
  · have e : i = xs.length := by omega
    subst e
    rw [List.take_length] at F
    exact .inl ⟨w2 (Nat.le_refl _), hd _ F⟩
def LcOkM (K : PySem.W.Frag) (H0 : Hp) (tt : TT) (te : TE) (j : Nat) (ρ : DEnv) (μ : DMem) (ds : List Dv) (out : List Dv) : Prop :=
  ∃ (α : Type) (xs : List α) (f : α → Bool) (g en : α → Dv), ds = xs.map en ∧ xs.length ≤ sizeLine ∧ (∀ x ∈ xs, ∀ μ', (∀ c ∈ μ, c ∈ μ') → wpT K H0 tt ((ρ.set j none).set j (some (en x))) μ' fun b μ'' => μ'' = μ' ∧ b = f x) ∧
    (∀ x ∈ xs, f x = true → ∀ μ', (∀ c ∈ μ, c ∈ μ') → wpE K H0 te ((ρ.set j none).set j (some (en x))) μ' fun d μ'' => μ'' = μ' ∧ d = g x) ∧ out = (xs.filter f).map g
/-- [e for x in ..], where e asks cells that are there -/
theorem wp_lcM (h : wpI K H0 wi ρ μ fun ds μ1 => ∃ out, LcOkM K H0 tt te j ρ μ1 ds out ∧ k (.lst out) μ1) : wpE K H0 (tLc wi (gName j) tt te [j]) ρ μ k := fun σ H S Q hQ => by
  refine h σ H S _ fun ds μ1 J H1 q F W => ?_
  obtain ⟨out, ⟨α, xs, f, g, en, rfl, hl, ht, he, rfl⟩, hk⟩ := q
  intro D hD
  refine lc_runM F.st W hl hD ht he fun H' F2 => ?_
  obtain ⟨F3, r3⟩ := Sta.frz (μa := []) F2.st
  exact hQ _ _ _ _ hk (F.trans (F2.trans F3)) r3
/-- a block cut behind its first statements -/
theorem wp_mid2 (Mid : DEnv → DMem → Prop) (h1 : wpS K H0 t1 ρ μ { P with nx := fun ρ μ => wpS K H0 t2 ρ μ { P with nx := Mid } }) (h2 : ∀ ρ' μ', Mid ρ' μ' → wpS K H0 u ρ' μ' P) : wpS K H0 (tSeq t1 (tSeq t2 u)) ρ μ P :=
  wp_seq (h1.imp (fun _ _ h => wp_mid Mid h h2) (fun _ _ h => h) (fun _ _ h => h) (fun _ _ h => h))
theorem wp_mid3 (Mid : DEnv → DMem → Prop) (h1 : wpS K H0 t1 ρ μ { P with nx := fun ρ μ => wpS K H0 t2 ρ μ { P with nx := fun ρ μ => wpS K H0 t3 ρ μ { P with nx := Mid } } }) (h2 : ∀ ρ' μ', Mid ρ' μ' → wpS K H0 u ρ' μ' P) : wpS K H0 (tSeq t1 (tSeq t2 (tSeq t3 u))) ρ μ P :=
  wp_seq (h1.imp (fun _ _ h => wp_mid2 Mid h h2) (fun _ _ h => h) (fun _ _ h => h) (fun _ _ h => h))
theorem wp_mid4 (Mid : DEnv → DMem → Prop) (h1 : wpS K H0 t1 ρ μ { P with nx := fun ρ μ => wpS K H0 t2 ρ μ { P with nx := fun ρ μ => wpS K H0 t3 ρ μ { P with nx := fun ρ μ => wpS K H0 t4 ρ μ { P with nx := Mid } } } }) (h2 : ∀ ρ' μ', Mid ρ' μ' → wpS K H0 u ρ' μ' P) : wpS K H0 (tSeq t1 (tSeq t2 (tSeq t3 (tSeq t4 u)))) ρ μ P :=
  wp_seq (h1.imp (fun _ _ h => wp_mid3 Mid h h2) (fun _ _ h => h) (fun _ _ h => h) (fun _ _ h => h))
end
theorem wpE_nd {K : PySem.W.Frag} {H0 : Hp} {ρ : DEnv} {μ : DMem} {k : Dv → DMem → Prop} {te : TE} (h : (keys μ).Nodup → wpE K H0 te ρ μ k) : wpE K H0 te ρ μ k := fun σ H S => h S.mem.nd σ H S
end DL
namespace DL
open PySem PySem.Spec PyProof.Rows L2
open TM
/-! ### the reading's steps: walk_at "rd" is one step, where it is plain -/
local macro_rules | `(tactic| walk_at "v") => `(tactic| (refine wp_var (by rfl) ?_))
local macro_rules | `(tactic| walk_at "sz") => `(tactic| (first | (refine sz_le ?_) | (refine sz_lt ?_)) <;> (first | omega | (simp only [List.length_append, List.length_cons, List.length_nil, List.length_take, List.length_drop, List.length_map]; omega) | (simp; omega)))
local macro_rules | `(tactic| walk_at "set") => `(tactic| (try dsimp only [List.set_cons_zero, List.set_cons_succ]))
local macro_rules | `(tactic| walk_at "env") => `(tactic| simp only [envOf_c, envOf_m, envOf_n])
local macro_rules | `(tactic| walk_at "rd") => `(tactic| with_reducible (first
  | refine wp_seq ?_ | refine wp_set ?_ | refine wp_ret ?_ | refine wp_if ?_ | refine wp_next ?_ | refine wp_drop ?_ | refine wp_retN ?_ | refine wp_brk ?_ | refine wp_cont ?_
  | refine wp_int ?_ | refine wp_str ?_ | refine wp_bl ?_ | refine wp_non ?_
  | refine wp_op ?_ | refine wp_un ?_ | refine wp_cb ?_ | refine wp_cons ?_ | refine wp_nil ?_ | refine wp_sl ?_ | refine wo_no ?_ | refine wo_part ?_
  | refine wp_test ?_ | refine wp_tB ?_ | refine wp_and ?_ | refine wp_or ?_ | refine wp_not ?_ | refine wp_yes ?_ | refine wp_andV ?_ | refine wp_orV ?_ | refine wp_notV ?_
  | refine wr_add ?_ | refine wr_sub ?_ | refine wr_eqS ?_ | refine wr_eqI ?_ | refine wr_neS ?_ | refine wr_neI ?_ | refine wr_lt ?_ | refine wr_le ?_ | refine wr_gt ?_ | refine wr_ge ?_ | refine wr_ltS ?_ | refine wr_leS ?_ | refine wr_gtS ?_ | refine wr_geS ?_ | refine wr_isN ?_ | refine wr_notN ?_
  | refine wr_eqB ?_ | refine wr_neB ?_ | refine wr_isB ?_ | refine wu_neg ?_ | refine wp_lst ?_ | refine wc_lenT ?_ | refine wc_lenC ?_ | refine wc_lenL isL_d ?_ | refine wc_intI ?_ | refine wc_intB ?_ | refine wc_min2 ?_ | refine wc_ord ?_ | refine wx_tup ?_ | refine wx_scr ?_ | refine wx_lst isL_d ?_
  | refine ⟨_, Eq.refl (Dv.bl _), ?_⟩ | refine ⟨_, Eq.refl (Dv.int _), ?_⟩))
local macro_rules | `(tactic| walk_at "rz") => `(tactic| (first
  | ((with_reducible refine wc_lenS ?hz ?_); (case hz => walk_at "sz"))
  | ((with_reducible refine wx_str ?hz ?_); (case hz => walk_at "sz"))
  | ((with_reducible refine wr_addS ?hz ?_); (case hz => walk_at "sz"))
  | ((with_reducible refine wr_cat isL_d isL_d ?hz ?_); (case hz => walk_at "sz"))
  | ((with_reducible refine wp_tup ?_))
  | ((with_reducible refine ⟨?hz, ?_⟩); (case hz => with_reducible show List.length _ ≤ sizeLine; walk_at "sz"))
  | ((with_reducible refine ⟨?hz, ?_⟩); (case hz => with_reducible show List.length _ < sizeLine; walk_at "sz"))
  | ((with_reducible refine ⟨?hz, ?_⟩); (case hz => with_reducible show List.length _ = _; rfl))
  | ((refine ⟨_, (Or.inl (show isiD _ _ = some _ from rfl) : Isi _ _ _ _), ?_⟩))
  | ((with_reducible refine wr_mul ?hz ?_); (case hz => first | exact .inl ⟨by omega, by omega⟩ | exact .inr ⟨by omega, by omega⟩))
  | ((with_reducible refine wr_fdv ?hz ?_); (case hz => exact ⟨by omega, by omega⟩))
  | ((with_reducible refine wr_mod ?hz ?_); (case hz => omega))))
local macro_rules | `(tactic| walk_at "r") => `(tactic| repeat (first | ((with_reducible refine wp_isi ?hz ?_); (case hz => decide)) | walk_at "rd" | walk_at "rz" | walk_at "v" | dsimp only [List.set_cons_zero, List.set_cons_succ]))
local macro_rules | `(tactic| walk_at "r0") => `(tactic| (walk_at "env"; walk_at "r"))
local macro_rules | `(tactic| walk_at "rr") => `(tactic| repeat (first | ((with_reducible refine wp_isi ?hz ?_); (case hz => decide)) | walk_at "rd" | walk_at "rz" | walk_at "v" | dsimp only [List.set_cons_zero, List.set_cons_succ] | (refine iteF ?_) | (refine iteT ?_)))
local macro_rules | `(tactic| walk_at "cut") => `(tactic| simp only [cutL_to, cutL_from, cutL_at, cutL_after, cutL_one, cutL_tail, cutL_mid])
/-! ### values of the trees as data -/
def leafX : Tx := ("leaf" : Str).cps.toList
def forkX : Tx := ("fork" : Str).cps.toList
theorem leaf_fork : leafX ≠ forkX := by decide +kernel
mutual
def encT : Tr → Dv
  | .leaf r n => .tup [.str leafX, .str r, .int n]
  | .fork s bs => .tup [.str forkX, .str s, .tup (encB bs)]
def encB : List (Tx × Tr) → List Dv
  | [] => []
  | (c, t) :: r => .tup [.str c, encT t] :: encB r
end
def encP (p : Tx × Tr) : Dv := .tup [.str p.1, encT p.2]
theorem encB_map : ∀ bs : List (Tx × Tr), encB bs = bs.map encP
  | [] => by rw [encB]; rfl
  | (c, t) :: r => by rw [encB, encB_map r]; rfl
theorem encT_leaf (r : Tx) (n : Int) : encT (.leaf r n) = .tup [.str leafX, .str r, .int n] := by rw [encT]
theorem encT_fork (s : Tx) (bs : List (Tx × Tr)) : encT (.fork s bs) = .tup [.str forkX, .str s, .tup (bs.map encP)] := by rw [encT, encB_map]
def encO : Option Tr → Dv
  | none => .non
  | some t => encT t
def encI : Option Int → Dv
  | none => .non
  | some n => .int n
/-- what stands at the second place of a tree: its text; the tag, the third place -/
def tagD : Tr → Dv
  | .leaf _ _ => .str leafX
  | .fork _ _ => .str forkX
def thirdD : Tr → Dv
  | .leaf _ n => .int n
  | .fork _ bs => .tup (bs.map encP)
theorem encT_eq (t : Tr) : encT t = .tup [tagD t, .str (text t), thirdD t] := by
  cases t with
  | leaf r n => exact encT_leaf r n
  | fork s bs => exact encT_fork s bs
theorem isNon_encO (o : Option Tr) : isNonD (encO o) = o.isNone := by
  cases o with
  | none => rfl
  | some t => show isNonD (encT t) = false; rw [encT_eq]; rfl
theorem isNon_encI (o : Option Int) : isNonD (encI o) = o.isNone := by cases o <;> rfl
/-! ### slices -/
theorem sIx_nat (m d n : Nat) : HT.sIx m d (some (n : Int)) = min n m := by
  show (if (n : Int) < 0 then ((n : Int) + (m : Int)).toNat else min (n : Int).toNat m) = _
  rw [if_neg (by omega)]
  simp
theorem cutL_to {α : Type} (l : List α) (n : Nat) : cutL l none (some (n : Int)) = l.take n := by
  have e1 : HT.sIx l.length 0 none = 0 := rfl
  have e2 : HT.sIx l.length l.length (some (n : Int)) = min n l.length := sIx_nat _ _ _
  unfold cutL
  rw [e1, e2, List.drop_zero, Nat.sub_zero]
  by_cases h : n ≤ l.length
  · rw [Nat.min_eq_left h]
  · rw [Nat.min_eq_right (by omega), List.take_length, List.take_of_length_le (by omega)]
theorem cutL_from {α : Type} (l : List α) (n : Nat) : cutL l (some (n : Int)) none = l.drop n := by
  have e1 : HT.sIx l.length l.length none = l.length := rfl
  have e2 : HT.sIx l.length 0 (some (n : Int)) = min n l.length := sIx_nat _ _ _
  unfold cutL
  rw [e1, e2]
  by_cases h : n ≤ l.length
  · rw [Nat.min_eq_left h, List.take_of_length_le (by rw [List.length_drop]; omega)]
  · rw [Nat.min_eq_right (by omega), List.drop_eq_nil_of_le (Nat.le_refl _), List.drop_eq_nil_of_le (by omega)]
    simp
theorem cutL_mid {α : Type} (l : List α) (a b : Nat) : cutL l (some (a : Int)) (some (b : Int)) = (l.drop a).take (b - a) := by
  have e1 : ∀ n : Nat, ∀ d, HT.sIx l.length d (some (n : Int)) = min n l.length := fun n d => sIx_nat _ _ _
  unfold cutL
  rw [e1, e1]
  by_cases h : a ≤ l.length
  · rw [Nat.min_eq_left h]
    by_cases h2 : b ≤ l.length
    · rw [Nat.min_eq_left h2]
    · rw [Nat.min_eq_right (by omega), List.take_of_length_le (by rw [List.length_drop]; omega), List.take_of_length_le (by rw [List.length_drop]; omega)]
  · rw [Nat.min_eq_right (by omega : l.length ≤ a), List.drop_eq_nil_of_le (Nat.le_refl _), List.drop_eq_nil_of_le (by omega)]
    simp
theorem cutL_at {α : Type} (l : List α) (a : Nat) : cutL l (some (a : Int)) (some ((a : Int) + 1)) = (l.drop a).take 1 := by
  have := cutL_mid l a (a + 1)
  rw [show a + 1 - a = 1 by omega] at this
  exact this
theorem cutL_after {α : Type} (l : List α) (a : Nat) : cutL l (some ((a : Int) + 1)) none = l.drop (a + 1) := cutL_from l (a + 1)
theorem cutL_one {α : Type} (l : List α) : cutL l none (some 1) = l.take 1 := cutL_to l 1
theorem cutL_tail {α : Type} (l : List α) : cutL l (some 1) none = l.drop 1 := cutL_from l 1
abbrev LL : Nat := 82
abbrev MM : Nat := 20000
theorem leaf_c : ("leaf" : Str).cps.toList = leafX := rfl
theorem fork_c : ("fork" : Str).cps.toList = forkX := rfl
theorem ite_leaf {A B : Prop} (h : A) : if decide (leafX = ("leaf" : Str).cps.toList) = true then A else B := iteD (fun _ => h) (fun z => absurd rfl z)
theorem ite_fork {A B : Prop} (h : B) : if decide (forkX = ("leaf" : Str).cps.toList) = true then A else B := iteD (fun z => absurd z.symm leaf_fork) (fun _ => h)
def depthO : Option Tr → Nat
  | none => 0
  | some t => depth t
def S_rest : Spc := fun ds μ k ex => ∃ a b : Tx, ds = [.str a, .str b] ∧ a.length ≤ 1000 ∧ b.length ≤ 1000 ∧ k (if b <+: a then .str (a.drop b.length) else .non) μ
def S_branch_of : Spc := fun ds μ k ex => ∃ (bs : List (Tx × Tr)) (c : Tx), ds = [.tup (bs.map encP), .str c] ∧ k (encO (brOf bs c)) μ
def S_with_branch : Spc := fun ds μ k ex => ∃ (bs : List (Tx × Tr)) (c : Tx) (o : Option Tr), ds = [.tup (bs.map encP), .str c, encO o] ∧ bs.length ≤ 100000 ∧ k (.tup ((withB bs c o).map encP)) μ
def S_knot_of : Spc := fun ds μ k ex => ∃ (s : Tx) (bs : List (Tx × Tr)), ds = [.str s, .tup (bs.map encP)] ∧ bs ≠ [] ∧ s.length ≤ 1000 ∧ (∀ p ∈ bs, p.1.length ≤ 1 ∧ (text p.2).length ≤ 1000) ∧ k (encT (knotOf s bs)) μ
def S_found : Spc := fun ds μ k ex => ∃ (o : Option Tr) (x : Tx), ds = [encO o, .str x] ∧ OkO LL MM o ∧ x.length ≤ 1000 ∧ k (encI (getO o x)) μ
def S_thinned (n : Nat) : Spc := fun ds μ k ex => ∃ (t : Tr) (x : Tx), ds = [encT t, .str x] ∧ Ok LL MM t ∧ x.length ≤ 1000 ∧ depth t ≤ n ∧ get t x ≠ none ∧ ∀ o, WfO o → (∀ y, getO o y = if y = x then none else get t y) → k (encO o) μ
def S_without : Spc := fun ds μ k ex => ∃ (o : Option Tr) (x : Tx), ds = [encO o, .str x] ∧ OkO LL MM o ∧ x.length ≤ 1000 ∧ (getO o x = none → ex "NotThere" μ) ∧ (getO o x ≠ none → ∀ o', WfO o' → (∀ y, getO o' y = if y = x then none else getO o y) → k (encO o') μ)
def top (i : Nat) : Stmt := PySem.Challenge.pw_radixtrail_k12_whole_deeds.main.body.getD i (.Pass ⟨0, 0, 0, 0⟩)
abbrev s_is_sign : Stmt := top 11
abbrev s_is_name : Stmt := top 12
abbrev s_common : Stmt := top 13
abbrev s_rest : Stmt := top 14
abbrev s_branch_of : Stmt := top 16
abbrev s_with_branch : Stmt := top 17
abbrev s_knot_of : Stmt := top 18
abbrev s_behind : Stmt := top 19
abbrev s_found : Stmt := top 20
abbrev s_put : Stmt := top 21
abbrev s_thinned : Stmt := top 22
abbrev s_without : Stmt := top 23
abbrev s_ahead : Stmt := top 24
abbrev s_names : Stmt := top 25
abbrev s_cut : Stmt := top 27
abbrev s_branches_behind : Stmt := top 28
abbrev s_joined : Stmt := top 29
abbrev s_moved : Stmt := top 30
abbrev s_copied : Stmt := top 31
abbrev s_under : Stmt := top 33
abbrev s_many : Stmt := top 34
abbrev s_need_name : Stmt := top 37
abbrev s_need_branch : Stmt := top 38
abbrev s_Trail___init__ : Stmt := inClass (top 39) 0
abbrev s_Trail_do : Stmt := inClass (top 39) 1
abbrev s_Trail_keep : Stmt := inClass (top 39) 2
abbrev s_Trail_drop : Stmt := inClass (top 39) 3
abbrev s_Trail_prune : Stmt := inClass (top 39) 4
abbrev s_Trail_move : Stmt := inClass (top 39) 5
abbrev s_Trail_graft : Stmt := inClass (top 39) 6
abbrev s_Trail_back : Stmt := inClass (top 39) 7
abbrev s_Trail_told : Stmt := inClass (top 39) 8
abbrev s_Trail_tree : Stmt := inClass (top 39) 9
abbrev s_Trail_size : Stmt := inClass (top 39) 10
abbrev s__law_cell_at : Stmt := top 41
abbrev s__law_whole : Stmt := top 42
abbrev s__law_sign_by : Stmt := top 43
abbrev s__law_word_by : Stmt := top 44
abbrev s__law_number_by : Stmt := top 45
abbrev s__law_alike : Stmt := top 46
abbrev s__law_text_by : Stmt := top 47
abbrev s__law_other_by : Stmt := top 48
abbrev s__law_word_of : Stmt := top 49
abbrev s__law_tried : Stmt := top 50
abbrev s__law_named : Stmt := top 51
abbrev s__law_branch : Stmt := top 52
abbrev s__law_due : Stmt := top 53
abbrev s__law_begun : Stmt := top 54
abbrev s__law_first_deeds : Stmt := top 55
abbrev s__law_tells : Stmt := top 56
abbrev s_law : Stmt := top 57
section
variable {P : Program} {w : World} {K : PySem.W.Frag} {mg : Str → Option Value} {base : Heap} {k : Nat}
theorem scN_rest : FnScope ["name", "beginning"] ["name", "beginning"] (defScope s_rest) := ⟨rfl, rfl, rfl, by decide +kernel, rfl, by decide +kernel, by decide +kernel⟩
theorem ok_rest {f : Addr} {fd : FuncData} (F : Fun K "rest" "rest" s_rest f fd) (M_len : mg "len" = none) : FnD P w K mg base (k + 1) f fd ["name", "beginning"] (spOf K mg 2 S_rest) := by
  refine okD F scN_rest (fun cdv A outer s H E hr => ⟨_, (pss_cons (ps_if (pt_cmpR (op_neK (K := K) rfl hr.units) (pe_slice (sl_K (K := K) rfl) (pv 0) po_none (po_some (pe_callB (call_lenK (K := K) rfl) (by rfl) M_len PySem.boot_len (pa_cons (pv 1) pa_nil)))) (pv 1) (nomark _)) (pss_one (ps_ret pe_non)) pss_nil)
      (pss_one (ps_ret (pe_slice (sl_K (K := K) rfl) (pv 0) (po_some (pe_callB (call_lenK (K := K) rfl) (by rfl) M_len PySem.boot_len (pa_cons (pv 1) pa_nil))) po_none)))), ?_⟩)
  try dsimp only [cxOf]
  intro H0 ds μ kk ex hW h
  obtain ⟨a, b, rfl, ha, hb, q⟩ := h
  walk_at "r0"
  rw [cutL_to]
  have e : (a.take b.length = b) ↔ b <+: a := ⟨fun h => h ▸ List.take_prefix _ _, fun h => (List.prefix_iff_eq_take.mp h).symm⟩
  refine iteND (fun c => ?_) (fun c => ?_)
  · walk_at "r"
    rw [if_neg (fun z => c (e.mpr z))] at q
    exact q
  · walk_at "r"
    rw [if_pos (e.mp c)] at q
    rw [cutL_from]
    exact q
end
section
variable {P : Program} {w : World} {K : PySem.W.Frag} {mg : Str → Option Value} {base : Heap} {k : Nat}
theorem scN_branch_of : FnScope ["branches", "sign", "branch"] ["branches", "sign"] (defScope s_branch_of) := ⟨rfl, rfl, rfl, by decide +kernel, rfl, by decide +kernel, by decide +kernel⟩
theorem ok_branch_of {f : Addr} {fd : FuncData} (F : Fun K "branch_of" "branch_of" s_branch_of f fd)  : FnD P w K mg base (k + 1) f fd ["branches", "sign"] (spOf K mg 2 S_branch_of) := by
  refine okD F scN_branch_of (fun cdv A outer s H E hr => ⟨_, (pss_cons (ps_for (passes_of rfl) rfl (pi_seqK (K := K) rfl (pv 0)) (pg_name (i := 2) scN_branch_of.nd rfl (Or.inl rfl)) (pss_one (ps_if (pt_cmpR (op_eqK (K := K) rfl hr.units) (pe_ix (ix_K (K := K) rfl) (pv 2) pe_int (fun _ _ => rfl)) (pv 1) (nomark _)) (pss_one (ps_ret (pe_ix (ix_K (K := K) rfl) (pv 2) pe_int (fun _ _ => rfl)))) pss_nil)))
      (pss_one (ps_ret pe_non))), ?_⟩)
  try dsimp only [cxOf]
  intro H0 ds μ kk ex hW h
  obtain ⟨bs, c, rfl, q⟩ := h
  walk_at "r0"
  refine wp_for (wi_seq ?_)
  walk_at "r"
  refine ⟨_, .inr rfl, fun i ρ μ' => μ' = μ ∧ (∃ z, ρ = [some (.tup (bs.map encP)), some (.str c), z]) ∧ i ≤ bs.length ∧ brOf bs c = brOf (bs.drop i) c, ⟨rfl, ⟨_, rfl⟩, Nat.zero_le _, rfl⟩, ?_, ?_⟩
  · rintro i d ρ μ' hd ⟨rfl, ⟨z, rfl⟩, hi, hb⟩
    rw [List.getElem?_map] at hd
    cases e : bs[i]? with
    | none => rw [e] at hd; cases hd
    | some p =>
      rw [e] at hd
      cases hd
      walk_at "set"
      walk_at "r"
      refine wr_ixT (d := .str p.1) rfl ?_
      walk_at "r"
      have hlt : i < bs.length := (List.getElem?_eq_some_iff.mp e).1
      have hp : bs[i] = p := (List.getElem?_eq_some_iff.mp e).2
      have hdr : bs.drop i = p :: bs.drop (i + 1) := by rw [← hp]; exact List.drop_eq_getElem_cons hlt
      rw [hdr, brOf.eq_2] at hb
      refine iteD (fun c' => ?_) (fun c' => ?_)
      · rw [if_pos c'] at hb
        rw [hb] at q
        walk_at "r"
        exact wr_ixT (d := encT p.2) rfl q
      · rw [if_neg c'] at hb
        walk_at "r"
        exact ⟨rfl, ⟨_, rfl⟩, hlt, hb⟩
  · rintro ρ μ' ⟨rfl, ⟨z, rfl⟩, hi, hb⟩
    rw [List.length_map, List.drop_length] at hb
    walk_at "r"
    rw [hb] at q
    exact q
end
section
variable {P : Program} {w : World} {K : PySem.W.Frag} {mg : Str → Option Value} {base : Heap} {k : Nat}
theorem scN_with_branch : FnScope ["branches", "sign", "tree", "made", "branch"] ["branches", "sign", "tree"] (defScope s_with_branch) := ⟨rfl, rfl, rfl, by decide +kernel, rfl, by decide +kernel, by decide +kernel⟩
theorem ok_with_branch {f : Addr} {fd : FuncData} (F : Fun K "with_branch" "with_branch" s_with_branch f fd) (M_tuple : mg "tuple" = none) : FnD P w K mg base (k + 1) f fd ["branches", "sign", "tree"] (spOf K mg 3 S_with_branch) := by
  refine okD F scN_with_branch (fun cdv A outer s H E hr => ⟨_, (pss_cons (ps_setLc (i := 3) (own := [("branch", 4)]) (g := gName 4) rfl scN_with_branch.nd rfl rfl (sw_true rfl rfl rfl (by decide +kernel)) (pi_seqK (K := K) rfl (pv 0)) (blkOk_by (own := [("branch", 4)]) (N := ["branches", "sign", "tree", "made", "branch"]) (sc := defScope s_with_branch) (by decide +kernel)) (fun _ _ _ _ _ => pg_name (i := 4) scN_with_branch.nd rfl (Or.inl rfl)) (fun _ _ _ _ _ => (pts_one (pt_cmpR op_ltU (pe_ix (ix_K (K := K) rfl) (pv 4) pe_int (fun _ _ => rfl)) (pv 1) (nomark _)))) (fun _ _ _ _ _ => (pv 4)))
      (pss_cons (ps_if (pt_cmpR op_notU (pv 2) pe_non (nomark _)) (pss_one (ps_expr (pe_bm PySem.F.plainAttrs_list PySem.F.slot_list_append PySem.F.type_list_append mt_append (pv 3) (pa_cons (pe_tup (pa_cons (pv 1) (pa_cons (pv 2) pa_nil))) pa_nil)))) pss_nil)
      (pss_one (ps_ret (pe_callTy (call_tupK (K := K) rfl) (by rfl) M_tuple (by decide +kernel) (pa_cons (pe_op (op_addK (K := K) rfl) (pv 3) (pe_lc (own := [("branch", 4)]) (g := gName 4) rfl scN_with_branch.nd (pi_seqK (K := K) rfl (pv 0)) (blkOk_by (own := [("branch", 4)]) (N := ["branches", "sign", "tree", "made", "branch"]) (sc := defScope s_with_branch) (by decide +kernel)) (fun _ _ _ _ _ => pg_name (i := 4) scN_with_branch.nd rfl (Or.inl rfl)) (fun _ _ _ _ _ => (pts_one (pt_cmpR op_gtU (pe_ix (ix_K (K := K) rfl) (pv 4) pe_int (fun _ _ => rfl)) (pv 1) (nomark _)))) (fun _ _ _ _ _ => (pv 4)))) pa_nil)))))), ?_⟩)
  try dsimp only [cxOf]
  intro H0 ds μ kk ex hW h
  obtain ⟨bs, c, o, rfl, hl, q⟩ := h
  walk_at "r0"
  refine wp_lcC (wi_seq ?_)
  walk_at "r"
  refine ⟨_, .inr rfl, (bs.filter (fun p => decide (p.1 < c))).map encP, ⟨_, bs, fun p => decide (p.1 < c), encP, encP, rfl, by walk_at "sz", fun p hp μ' => ?_, fun p hp hf μ' => ?_, rfl⟩, fun pa => ?_⟩
  · walk_at "set"
    walk_at "r"
    refine wr_ixT (d := .str p.1) rfl ?_
    walk_at "r"
    exact ⟨rfl, rfl⟩
  · walk_at "set"
    exact wp_var rfl ⟨rfl, rfl⟩
  have h1 : (bs.filter (fun p => decide (p.1 < c))).length ≤ bs.length := List.length_filter_le _ _
  have h2 : (bs.filter (fun p => decide (c < p.1))).length ≤ bs.length := List.length_filter_le _ _
  walk_at "set"
  refine wp_mid (fun ρ' μ' => ∃ acc, acc.length ≤ 100001 ∧ acc ++ (bs.filter (fun p => decide (c < p.1))).map encP = (withB bs c o).map encP ∧ ρ' = [some (.tup (bs.map encP)), some (.str c), some (encO o), some (.ref pa), none] ∧ μ' = (pa, DCell.lst acc) :: μ) ?_ ?_
  · walk_at "r"
    rw [isNon_encO]
    cases o with
    | none =>
      refine iteF ?_
      walk_at "r"
      exact ⟨_, by rw [List.length_map]; omega, by simp [withB], rfl, rfl⟩
    | some t =>
      refine iteT ?_
      walk_at "r"
      refine wp_app ?_
      walk_at "r"
      refine ⟨_, rfl, ⟨_, List.mem_cons_self⟩, ?_⟩
      walk_at "r"
      refine ⟨[], _, _, rfl, sz_lt (by rw [List.length_map]; omega), ?_⟩
      exact ⟨_, by rw [List.length_append, List.length_map]; simp; omega, by simp [withB, encP, encO], rfl, rfl⟩
  · rintro ρ' μ' ⟨acc, ha, he, rfl, rfl⟩
    refine wp_frz (i := 3) [] μ rfl rfl ?_
    walk_at "set"
    walk_at "r"
    refine wp_lc (wi_seq ?_)
    walk_at "r"
    refine ⟨_, .inr rfl, (bs.filter (fun p => decide (c < p.1))).map encP, ⟨_, bs, fun p => decide (c < p.1), encP, encP, rfl, by walk_at "sz", fun p hp μ' => ?_, fun p hp hf μ' => ?_, rfl⟩, ?_⟩
    · walk_at "set"
      walk_at "r"
      refine wr_ixT (d := .str p.1) rfl ?_
      walk_at "r"
      exact ⟨rfl, rfl⟩
    · walk_at "set"
      exact wp_var rfl ⟨rfl, rfl⟩
    refine wr_cat isL_d isL_d (sz_le ?_) ?_
    · rw [List.length_map]
      omega
    walk_at "r"
    rw [he]
    exact wc_tupL isL_d q
end
section
variable {P : Program} {w : World} {K : PySem.W.Frag} {mg : Str → Option Value} {base : Heap} {k : Nat}
theorem scN_knot_of : FnScope ["shared", "branches", "sign", "only"] ["shared", "branches"] (defScope s_knot_of) := ⟨rfl, rfl, rfl, by decide +kernel, rfl, by decide +kernel, by decide +kernel⟩
theorem ok_knot_of {f : Addr} {fd : FuncData} (F : Fun K "knot_of" "knot_of" s_knot_of f fd) (M_len : mg "len" = none) : FnD P w K mg base (k + 1) f fd ["shared", "branches"] (spOf K mg 2 S_knot_of) := by
  refine okD F scN_knot_of (fun cdv A outer s H E hr => ⟨_, (pss_cons (ps_if (pt_cmpR op_gtU (pe_callB (call_lenK (K := K) rfl) (by rfl) M_len PySem.boot_len (pa_cons (pv 1) pa_nil)) pe_int (nomark _)) (pss_one (ps_ret (pe_tup (pa_cons pe_str (pa_cons (pv 0) (pa_cons (pv 1) pa_nil)))))) pss_nil)
      (pss_cons (ps_par (i := 2) (j := 3) rfl scN_knot_of.nd rfl rfl (by decide) rfl rfl (pa_cons (pe_ix (ix_K (K := K) rfl) (pe_ix (ix_K (K := K) rfl) (pv 1) pe_int (fun _ _ => rfl)) pe_int (fun _ _ => rfl)) (pa_cons (pe_ix (ix_K (K := K) rfl) (pe_ix (ix_K (K := K) rfl) (pv 1) pe_int (fun _ _ => rfl)) pe_int (fun _ _ => rfl)) pa_nil)) (by rfl))
      (pss_one (ps_ret (pe_tup (pa_cons (pe_ix (ix_K (K := K) rfl) (pv 3) pe_int (fun _ _ => rfl)) (pa_cons (pe_op (op_addK (K := K) rfl) (pe_op (op_addK (K := K) rfl) (pv 0) (pv 2)) (pe_ix (ix_K (K := K) rfl) (pv 3) pe_int (fun _ _ => rfl))) (pa_cons (pe_ix (ix_K (K := K) rfl) (pv 3) pe_int (fun _ _ => rfl)) pa_nil)))))))), ?_⟩)
  try dsimp only [cxOf]
  intro H0 ds μ kk ex hW h
  obtain ⟨s, bs, rfl, hne, hs, hb, q⟩ := h
  walk_at "r0"
  refine iteD (fun c => ?_) (fun c => ?_)
  · walk_at "r"
    rw [List.length_map] at c
    have c' : bs.length > 1 := by omega
    unfold knotOf at q
    rw [if_pos c', encT_fork] at q
    exact q
  · rw [List.length_map] at c
    match bs, hne, hb, q, c with
    | [(d, t)], _, hb, q, _ =>
      have h1 := hb _ List.mem_cons_self
      simp only at h1
      walk_at "r"
      refine wp_par ?_
      walk_at "r"
      refine wr_ixT (d := encP (d, t)) rfl ?_
      walk_at "r"
      refine wr_ixT (d := .str d) rfl ?_
      walk_at "r"
      refine wr_ixT (d := encP (d, t)) rfl ?_
      walk_at "r"
      refine wr_ixT (d := encT t) rfl ?_
      walk_at "r"
      refine ⟨_, _, rfl, ?_⟩
      walk_at "set"
      rw [encT_eq]
      walk_at "r"
      refine wr_ixT (d := tagD t) rfl ?_
      walk_at "r"
      refine wr_ixT (d := .str (text t)) rfl ?_
      walk_at "r"
      refine wr_ixT (d := thirdD t) rfl ?_
      walk_at "r"
      have e : knotOf s [(d, t)] = TM.ahead (s ++ d) t := rfl
      rw [e] at q
      have e2 : encT (TM.ahead (s ++ d) t) = .tup [tagD t, .str (s ++ d ++ text t), thirdD t] := by
        rw [encT_eq]
        unfold TM.ahead
        rw [text_retext]
        cases t <;> rfl
      rw [e2] at q
      exact q
    | _ :: _ :: _, _, _, _, c =>
      simp only [List.length_cons] at c
      omega
end
section
variable {P : Program} {w : World} {K : PySem.W.Frag} {mg : Str → Option Value} {base : Heap} {k : Nat}
theorem scN_found : FnScope ["tree", "name", "left"] ["tree", "name"] (defScope s_found) := ⟨rfl, rfl, rfl, by decide +kernel, rfl, by decide +kernel, by decide +kernel⟩
theorem ok_found {f : Addr} {fd : FuncData} (F : Fun K "found" "found" s_found f fd) (D_branch_of : Df P w K mg base k "branch_of" ["branches", "sign"] S_branch_of) (D_rest : Df P w K mg base k "rest" ["name", "beginning"] S_rest) : FnD P w K mg base (k + 1) f fd ["tree", "name"] (spOf K mg 2 S_found) := by
  refine okD F scN_found (fun cdv A outer s H E hr => ⟨_, (pss_cons (ps_while (passes_of rfl) (pt_cmpR op_notU (pv 0) pe_non (nomark _)) (pss_cons (ps_if (pt_cmpR (op_eqK (K := K) rfl hr.units) (pe_ix (ix_K (K := K) rfl) (pv 0) pe_int (fun _ _ => rfl)) pe_str (nomark _)) (pss_cons (ps_if (pt_cmpR (op_eqK (K := K) rfl hr.units) (pe_ix (ix_K (K := K) rfl) (pv 0) pe_int (fun _ _ => rfl)) (pv 1) (nomark _)) (pss_one (ps_ret (pe_ix (ix_K (K := K) rfl) (pv 0) pe_int (fun _ _ => rfl)))) pss_nil)
      (pss_one (ps_ret pe_non))) pss_nil)
      (pss_cons (ps_set (i := 2) scN_found.nd rfl (Or.inl rfl) (pe_dfK D_rest ⟨rfl, rfl, rfl, rfl, rfl⟩ hr (takes_of rfl rfl rfl rfl) rfl (pa_cons (pv 1) (pa_cons (pe_ix (ix_K (K := K) rfl) (pv 0) pe_int (fun _ _ => rfl)) pa_nil))))
      (pss_cons (ps_if (pt_cmpR op_isU (pv 2) pe_non (nomark _)) (pss_one (ps_ret pe_non)) pss_nil)
      (pss_cons (ps_set (i := 0) scN_found.nd rfl (Or.inl rfl) (pe_dfK D_branch_of ⟨rfl, rfl, rfl, rfl, rfl⟩ hr (takes_of rfl rfl rfl rfl) rfl (pa_cons (pe_ix (ix_K (K := K) rfl) (pv 0) pe_int (fun _ _ => rfl)) (pa_cons (pe_slice (sl_K (K := K) rfl) (pv 2) po_none (po_some pe_int)) pa_nil))))
      (pss_one (ps_set (i := 1) scN_found.nd rfl (Or.inl rfl) (pe_slice (sl_K (K := K) rfl) (pv 2) (po_some pe_int) po_none))))))))
      (pss_one (ps_ret pe_non))), ?_⟩)
  try dsimp only [cxOf]
  intro H0 ds μ kk ex hW h
  obtain ⟨o, x, rfl, hO, hx, q⟩ := h
  walk_at "env"
  refine wp_mid (fun ρ' μ' => kk .non μ') ?_ (fun ρ' μ' h => by walk_at "r"; exact h)
  refine wp_while (Inv := fun m ρ' μ' => μ' = μ ∧ ∃ (o' : Option Tr) (x' : Tx) (z : Option Dv), ρ' = [some (encO o'), some (.str x'), z] ∧ m = depthO o' ∧ OkO LL MM o' ∧ x'.length ≤ 1000 ∧ getO o' x' = getO o x) ⟨_, rfl, o, x, none, rfl, rfl, hO, hx, rfl⟩ ?_
  rintro m ρ' μ' ⟨rfl, o', x', z, rfl, rfl, hO', hx', he⟩
  walk_at "r"
  rw [isNon_encO]
  cases o' with
  | none =>
    refine iteF ?_
    rw [show getO none x' = none from rfl] at he
    rw [← he] at q
    exact q
  | some t =>
    refine iteT ?_
    have hok : Ok LL MM t := hO'
    have hT : (text t).length ≤ 300 := Nat.le_trans hok.text (by decide)
    cases t with
    | leaf r n =>
      simp only [encO, encT_leaf]
      walk_at "r"
      refine wr_ixT (d := .str leafX) rfl ?_
      walk_at "r"
      refine ite_leaf ?_
      walk_at "r"
      refine wr_ixT (d := .str r) rfl ?_
      walk_at "r"
      have hg : getO o x = if x' = r then some n else none := by rw [← he]; exact get_leaf r n x'
      refine iteD (fun c => ?_) (fun c => ?_)
      · walk_at "r"
        refine wr_ixT (d := .int n) rfl ?_
        rw [hg, if_pos c.symm] at q
        exact q
      · walk_at "r"
        rw [hg, if_neg (fun e => c e.symm)] at q
        exact q
    | fork s bs =>
      simp only [encO, encT_fork]
      walk_at "r"
      refine wr_ixT (d := .str forkX) rfl ?_
      walk_at "r"
      refine ite_fork ?_
      walk_at "r"
      refine wp_call hW ?_
      walk_at "r"
      refine wr_ixT (d := .str s) rfl ?_
      walk_at "r"
      refine ⟨rfl, x', s, rfl, hx', by simp only [text] at hT; omega, ?_⟩
      walk_at "set"
      have hg : getO o x = if s <+: x' then (brOf bs ((x'.drop s.length).take 1)).bind (fun t => get t (x'.drop (s.length + 1))) else none := by rw [← he]; exact get_fork s bs x'
      by_cases c : s <+: x'
      · rw [if_pos c] at hg ⊢
        walk_at "r"
        refine iteF ?_
        walk_at "r"
        refine wp_call hW ?_
        walk_at "r"
        refine wr_ixT (d := .tup (bs.map encP)) rfl ?_
        walk_at "r"
        rw [cutL_one]
        refine ⟨rfl, bs, _, rfl, ?_⟩
        walk_at "set"
        walk_at "r"
        walk_at "set"
        rw [cutL_tail, List.drop_drop]
        have hl : (x'.drop (s.length + 1)).length ≤ 1000 := by rw [List.length_drop]; omega
        refine ⟨_, ?_, rfl, _, _, _, rfl, rfl, ?_, hl, ?_⟩
        · show depthO (brOf bs ((x'.drop s.length).take 1)) < depth (.fork s bs)
          cases e : brOf bs ((x'.drop s.length).take 1) with
          | none => exact depth_pos _
          | some t' => exact depth_br e
        · cases e : brOf bs ((x'.drop s.length).take 1) with
          | none => trivial
          | some t' => exact hok.sub (brOf_mem e)
        · rw [hg]
          cases e : brOf bs ((x'.drop s.length).take 1) <;> rfl
      · rw [if_neg c] at hg ⊢
        walk_at "r"
        refine iteT ?_
        walk_at "r"
        rw [hg] at q
        exact q
end
section
variable {P : Program} {w : World} {K : PySem.W.Frag} {mg : Str → Option Value} {base : Heap} {k : Nat}
theorem scN_thinned : FnScope ["tree", "name", "size", "sign", "left"] ["tree", "name"] (defScope s_thinned) := ⟨rfl, rfl, rfl, by decide +kernel, rfl, by decide +kernel, by decide +kernel⟩
theorem ok_thinned {f : Addr} {fd : FuncData} {n : Nat} (F : Fun K "thinned" "thinned" s_thinned f fd) (D_knot_of : Df P w K mg base k "knot_of" ["shared", "branches"] S_knot_of) (D_with_branch : Df P w K mg base k "with_branch" ["branches", "sign", "tree"] S_with_branch) (D_thinned : Df P w K mg base k "thinned" ["tree", "name"] (S_thinned n)) (D_branch_of : Df P w K mg base k "branch_of" ["branches", "sign"] S_branch_of) (M_len : mg "len" = none) : FnD P w K mg base (k + 1) f fd ["tree", "name"] (spOf K mg 2 (S_thinned (n + 1))) := by
  refine okD F scN_thinned (fun cdv A outer s H E hr => ⟨_, (pss_cons (ps_if (pt_cmpR (op_eqK (K := K) rfl hr.units) (pe_ix (ix_K (K := K) rfl) (pv 0) pe_int (fun _ _ => rfl)) pe_str (nomark _)) (pss_one (ps_ret pe_non)) pss_nil)
      (pss_cons (ps_set (i := 2) scN_thinned.nd rfl (Or.inl rfl) (pe_callB (call_lenK (K := K) rfl) (by rfl) M_len PySem.boot_len (pa_cons (pe_ix (ix_K (K := K) rfl) (pv 0) pe_int (fun _ _ => rfl)) pa_nil)))
      (pss_cons (ps_set (i := 3) scN_thinned.nd rfl (Or.inl rfl) (pe_slice (sl_K (K := K) rfl) (pv 1) (po_some (pv 2)) (po_some (pe_op (op_addK (K := K) rfl) (pv 2) pe_int))))
      (pss_cons (ps_set (i := 4) scN_thinned.nd rfl (Or.inl rfl) (pe_dfK D_thinned ⟨rfl, rfl, rfl, rfl, rfl⟩ hr (takes_of rfl rfl rfl rfl) rfl (pa_cons (pe_dfK D_branch_of ⟨rfl, rfl, rfl, rfl, rfl⟩ hr (takes_of rfl rfl rfl rfl) rfl (pa_cons (pe_ix (ix_K (K := K) rfl) (pv 0) pe_int (fun _ _ => rfl)) (pa_cons (pv 3) pa_nil))) (pa_cons (pe_slice (sl_K (K := K) rfl) (pv 1) (po_some (pe_op (op_addK (K := K) rfl) (pv 2) pe_int)) po_none) pa_nil))))
      (pss_one (ps_ret (pe_dfK D_knot_of ⟨rfl, rfl, rfl, rfl, rfl⟩ hr (takes_of rfl rfl rfl rfl) rfl (pa_cons (pe_ix (ix_K (K := K) rfl) (pv 0) pe_int (fun _ _ => rfl)) (pa_cons (pe_dfK D_with_branch ⟨rfl, rfl, rfl, rfl, rfl⟩ hr (takes_of rfl rfl rfl rfl) rfl (pa_cons (pe_ix (ix_K (K := K) rfl) (pv 0) pe_int (fun _ _ => rfl)) (pa_cons (pv 3) (pa_cons (pv 4) pa_nil)))) pa_nil))))))))), ?_⟩)
  try dsimp only [cxOf]
  intro H0 ds μ kk ex hW h
  obtain ⟨t, x, rfl, hok, hx, hd, hg, q⟩ := h
  have hT : (text t).length ≤ 300 := Nat.le_trans hok.text (by decide)
  cases t with
  | leaf r m =>
    simp only [encT_leaf]
    walk_at "r0"
    refine wr_ixT (d := .str leafX) rfl ?_
    walk_at "r"
    refine ite_leaf ?_
    walk_at "r"
    refine q none trivial fun y => ?_
    show none = _
    rw [get_leaf] at hg ⊢
    have e : x = r := Classical.byContradiction fun z => hg (if_neg z)
    subst e
    by_cases c : y = x
    · rw [if_pos c]
    · rw [if_neg c, if_neg c]
  | fork s bs =>
    have hs : s.length ≤ 300 := hT
    have hpf := pf_of hok.wf
    have h2 := (wf_fork.mp hok.wf).1
    have hlb : bs.length ≤ 20000 := hok.len
    have hpre : s <+: x := get_pre hg
    have hg' := hg
    rw [get_fork, if_pos hpre] at hg'
    cases hb : brOf bs ((x.drop s.length).take 1) with
    | none => rw [hb] at hg'; exact absurd rfl hg'
    | some t' =>
      rw [hb] at hg'
      have hg2 : get t' (x.drop (s.length + 1)) ≠ none := hg'
      have hm := brOf_mem hb
      simp only [encT_fork]
      walk_at "r0"
      refine wr_ixT (d := .str forkX) rfl ?_
      walk_at "r"
      refine ite_fork ?_
      walk_at "r"
      refine wr_ixT (d := .str s) rfl ?_
      walk_at "r"
      walk_at "set"
      walk_at "r"
      walk_at "set"
      rw [cutL_at]
      walk_at "r"
      refine wp_call hW ?_
      walk_at "r"
      refine wp_call hW ?_
      walk_at "r"
      refine wr_ixT (d := .tup (bs.map encP)) rfl ?_
      walk_at "r"
      refine ⟨rfl, bs, _, rfl, ?_⟩
      rw [hb]
      walk_at "r"
      rw [cutL_after]
      refine ⟨rfl, t', _, rfl, hok.sub hm, by rw [List.length_drop]; omega, by have := depth_br (s := s) hb; omega, hg2, ?_⟩
      intro o1 ho1 he1
      walk_at "set"
      refine wp_ret (wp_call hW ?_)
      walk_at "r"
      refine wr_ixT (d := .str s) rfl ?_
      walk_at "r"
      refine wp_call hW ?_
      walk_at "r"
      refine wr_ixT (d := .tup (bs.map encP)) rfl ?_
      walk_at "r"
      refine ⟨rfl, bs, _, o1, rfl, by omega, ?_⟩
      walk_at "r"
      have sub : ∀ y v, getO o1 y = some v → get t' y = some v := fun y v h => by
        rw [he1] at h
        split at h
        · cases h
        · exact h
      have so : SignOk ((x.drop s.length).take 1, t') := (hpf.2.1 _ hm).1
      have o1ok : ∀ u, o1 = some u → SignOk ((x.drop s.length).take 1, u) ∧ Wf u ∧ (text u).length ≤ 300 := fun u hu => by
        subst hu
        have h3 : (text u).length ≤ 300 := Nat.le_trans (ok_sub (hok.sub hm) ho1 sub).text (by decide)
        refine ⟨⟨so.1, fun e => ?_⟩, ho1, h3⟩
        -- behind the empty sign nothing is left
        obtain ⟨m, em⟩ := so.2 e
        simp only at em
        obtain ⟨y, hy⟩ := wf_some u ho1
        cases hv : get u y with
        | none => exact absurd hv hy
        | some v =>
          have h4 := he1 y
          have h5 := sub y v hv
          have ex : x.drop (s.length + 1) = [] := by
            rcases take1_cases (x.drop s.length) with ⟨z, _⟩ | ⟨_, _, _, z, _⟩
            · rw [← List.drop_drop, z]; rfl
            · rw [z] at e; cases e
          rw [em, get_leaf] at h5
          have ey : y = [] := Classical.byContradiction fun z => by rw [if_neg z] at h5; cases h5
          rw [ey, ex, if_pos rfl] at h4
          have h6 : get u [] = none := h4
          rw [ey, h6] at hv
          cases hv
      have pf : Pf (withB bs ((x.drop s.length).take 1) o1) := ⟨up_withB hpf.1, ok_withB hpf.2.1 (fun u hu => ⟨(o1ok u hu).1, (o1ok u hu).2.1⟩), withB_ne hpf.1 h2⟩
      refine ⟨rfl, s, _, rfl, pf.2.2, by omega, fun p hp => ?_, ?_⟩
      · rcases mem_withB.mp hp with ⟨e1, e2⟩ | ⟨e1, _⟩
        · have := (o1ok p.2 e2).2.2
          rw [e1]
          exact ⟨so.1, by omega⟩
        · have := (hok.sub e1).text
          exact ⟨(hpf.2.1 p e1).1.1, Nat.le_trans this (by decide)⟩
      · refine q (some _) (wf_knot pf) fun y => ?_
        show get (knotOf s _) y = _
        rw [get_knot pf, get_withB hpf.1]
        by_cases c : s <+: y ∧ (y.drop s.length).take 1 = (x.drop s.length).take 1
        · rw [if_pos c, he1]
          have ee := eq_by hpre c.1 c.2
          by_cases cy : y = x
          · rw [if_pos cy, if_pos (ee.mp cy)]
          · rw [if_neg cy, if_neg fun z => cy (ee.mpr z), get_fork, if_pos c.1, c.2, hb]
            rfl
        · rw [if_neg c]
          have cy : y ≠ x := fun z => c (by rw [z]; exact ⟨hpre, rfl⟩)
          rw [if_neg cy]
theorem scN_without : FnScope ["tree", "name"] ["tree", "name"] (defScope s_without) := ⟨rfl, rfl, rfl, by decide +kernel, rfl, by decide +kernel, by decide +kernel⟩
theorem ok_without {f : Addr} {fd : FuncData} (F : Fun K "without" "without" s_without f fd) (D_thinned : Df P w K mg base k "thinned" ["tree", "name"] (S_thinned 83)) (D_found : Df P w K mg base k "found" ["tree", "name"] S_found) {C_NotThere : Addr} (R_NotThere : RaiseOk K mg "NotThere" C_NotThere) : FnD P w K mg base (k + 1) f fd ["tree", "name"] (spOf K mg 2 S_without) := by
  refine okD F scN_without (fun cdv A outer s H E hr => ⟨_, (pss_cons (ps_if (pt_cmpR op_isU (pe_dfK D_found ⟨rfl, rfl, rfl, rfl, rfl⟩ hr (takes_of rfl rfl rfl rfl) rfl (pa_cons (pv 0) (pa_cons (pv 1) pa_nil))) pe_non (nomark _)) (pss_one (ps_raise rfl (takes_of rfl rfl rfl rfl) (pmk_own PySem.F.excBase_ValueError R_NotThere.1 R_NotThere.2.1 R_NotThere.2.2.1 (raises_own R_NotThere.2.2.2.1 R_NotThere.2.2.2.2) rfl))) pss_nil)
      (pss_one (ps_ret (pe_dfK D_thinned ⟨rfl, rfl, rfl, rfl, rfl⟩ hr (takes_of rfl rfl rfl rfl) rfl (pa_cons (pv 0) (pa_cons (pv 1) pa_nil)))))), ?_⟩)
  try dsimp only [cxOf]
  intro H0 ds μ kk ex hW h
  obtain ⟨o, x, rfl, hO, hx, q1, q2⟩ := h
  walk_at "r0"
  refine wp_call hW ?_
  walk_at "r"
  refine ⟨rfl, o, x, rfl, hO, hx, ?_⟩
  walk_at "r"
  rw [isNon_encI]
  cases e : getO o x with
  | none =>
    refine iteT ?_
    exact wp_raise hW R_NotThere.2.1 (q1 e)
  | some v =>
    refine iteF ?_
    cases o with
    | none => cases e
    | some t =>
      walk_at "r"
      refine wp_call hW ?_
      walk_at "r"
      have hok : Ok LL MM t := hO
      exact ⟨rfl, t, x, rfl, hok, hx, Nat.le_trans (depth_le LL t hok) (by decide), (by have h : get t x = some v := e; rw [h]; exact fun z => nomatch z), q2 (by rw [e]; exact fun z => nomatch z)⟩
end
theorem zero_thinned (ds : List Dv) (μ : DMem) (kk : Dv → DMem → Prop) (ex : Str → DMem → Prop) : ¬ S_thinned 0 ds μ kk ex := fun ⟨t, _, _, _, _, h, _⟩ => by
  have := depth_pos t
  omega
theorem encT_retext (t : Tr) (x : Tx) : encT (retext t x) = .tup [tagD t, .str x, thirdD t] := by
  cases t with
  | leaf r n => exact encT_leaf x n
  | fork s bs => exact encT_fork x bs
section
variable {K : PySem.W.Frag} {H0 : Hp} {ρ : DEnv} {μ : DMem} {kk : Dv → DMem → Prop} {t : Tr}
theorem wr_tag (q : kk (tagD t) μ) : wpR K H0 (rIx K) (encT t) (.int 0) ρ μ kk := by rw [encT_eq]; exact wr_ixT rfl q
theorem wr_text (q : kk (.str (text t)) μ) : wpR K H0 (rIx K) (encT t) (.int 1) ρ μ kk := by rw [encT_eq]; exact wr_ixT rfl q
theorem wr_third (q : kk (thirdD t) μ) : wpR K H0 (rIx K) (encT t) (.int 2) ρ μ kk := by rw [encT_eq]; exact wr_ixT rfl q
end
def S_common : Spc := fun ds μ k ex => ∃ a b : Tx, ds = [.str a, .str b] ∧ a.length ≤ 1000 ∧ b.length ≤ 1000 ∧ k (.str (lcp a b)) μ
def S_behind : Spc := fun ds μ k ex => ∃ (t : Tr) (i : Nat), ds = [encT t, .int i] ∧ (text t).length ≤ 1000 ∧ k (encP (behindT t i)) μ
def S_branches_behind : Spc := fun ds μ k ex => ∃ (t : Tr) (i : Nat), ds = [encT t, .int i] ∧ (text t).length ≤ 1000 ∧ k (.tup ((bb t i).map encP)) μ
def S_joined (n : Nat) : Spc := fun ds μ k ex => ∃ a b : Option Tr, ds = [encO a, encO b] ∧ OkO LL MM a ∧ OkO LL MM b ∧ 1 ≤ n ∧ (∀ y, getO a y ≠ none → y.length + 2 ≤ n) ∧
  ((∀ y, getO a y = none ∨ getO b y = none) → ∀ t', WfO t' → (∀ y, getO t' y = (getO a y).or (getO b y)) → k (encO t') μ) ∧ ((∃ y, getO a y ≠ none ∧ getO b y ≠ none) → ex "Taken" μ)
theorem zero_joined (ds : List Dv) (μ : DMem) (kk : Dv → DMem → Prop) (ex : Str → DMem → Prop) : ¬ S_joined 0 ds μ kk ex := fun ⟨_, _, _, _, _, h, _⟩ => by omega
section
variable {P : Program} {w : World} {K : PySem.W.Frag} {mg : Str → Option Value} {base : Heap} {k : Nat}
theorem scN_common : FnScope ["one", "other", "at"] ["one", "other"] (defScope s_common) := ⟨rfl, rfl, rfl, by decide +kernel, rfl, by decide +kernel, by decide +kernel⟩
theorem ok_common {f : Addr} {fd : FuncData} (F : Fun K "common" "common" s_common f fd) (M_len : mg "len" = none) : FnD P w K mg base (k + 1) f fd ["one", "other"] (spOf K mg 2 S_common) := by
  refine okD F scN_common (fun cdv A outer s H E hr => ⟨_, (pss_cons (ps_set (i := 2) scN_common.nd rfl (Or.inl rfl) pe_int)
      (pss_cons (ps_while (passes_of rfl) (PW.pt (pw_and (pt_cmpR op_ltU (pv 2) (pe_callB (call_lenK (K := K) rfl) (by rfl) M_len PySem.boot_len (pa_cons (pv 0) pa_nil)) (nomark _)) (pw_and (pt_cmpR op_ltU (pv 2) (pe_callB (call_lenK (K := K) rfl) (by rfl) M_len PySem.boot_len (pa_cons (pv 1) pa_nil)) (nomark _)) (pw_and1 (pt_cmpR (op_eqK (K := K) rfl hr.units) (pe_ix (ix_K (K := K) rfl) (pv 0) (pv 2) (fun _ _ => rfl)) (pe_ix (ix_K (K := K) rfl) (pv 1) (pv 2) (fun _ _ => rfl)) (nomark _)))))) (pss_one (ps_set (i := 2) scN_common.nd rfl (Or.inl rfl) (pe_op (op_addK (K := K) rfl) (pv 2) pe_int))))
      (pss_one (ps_ret (pe_slice (sl_K (K := K) rfl) (pv 0) po_none (po_some (pv 2))))))), ?_⟩)
  try dsimp only [cxOf]
  intro H0 ds μ kk ex hW h
  obtain ⟨a, b, rfl, ha, hb, q⟩ := h
  walk_at "env"
  refine wp_seq (wp_set (wp_int ?_))
  walk_at "set"
  refine wp_mid (fun ρ' μ' => μ' = μ ∧ ρ' = [some (.str a), some (.str b), some (.int ((lcp a b).length : Nat))]) ?_ ?_
  · refine wp_while (Inv := fun m ρ' μ' => μ' = μ ∧ ∃ i : Nat, m = a.length - i ∧ a.take i = b.take i ∧ i ≤ a.length ∧ i ≤ b.length ∧ ρ' = [some (.str a), some (.str b), some (.int (i : Nat))]) ⟨_, rfl, 0, rfl, rfl, Nat.zero_le _, Nat.zero_le _, rfl⟩ ?_
    rintro m ρ' μ' ⟨rfl, i, rfl, ht, hi1, hi2, rfl⟩
    have fin : (i = a.length ∨ i = b.length ∨ a[i]? ≠ b[i]?) → μ' = μ' ∧ [some (Dv.str a), some (.str b), some (.int (i : Nat))] = [some (Dv.str a), some (.str b), some (.int ((lcp a b).length : Nat))] := fun h => by
      rw [lcp_len ht hi1 hi2 h]
      exact ⟨rfl, rfl⟩
    walk_at "r"
    refine iteD (fun c2 => ?_) (fun c2 => ?_)
    · walk_at "r"
      refine iteD (fun c3 => ?_) (fun c3 => ?_)
      · have i1 : i < a.length := by omega
        have i2 : i < b.length := by omega
        walk_at "r"
        refine wr_ixS (c := a[i]) (sz_le (by omega)) (atV.mpr (List.getElem?_eq_getElem i1)) ?_
        walk_at "r"
        refine wr_ixS (c := b[i]) (sz_le (by omega)) (atV.mpr (List.getElem?_eq_getElem i2)) ?_
        walk_at "r"
        refine iteD (fun c4 => ?_) (fun c4 => ?_)
        · walk_at "r"
          have e : a[i]? = b[i]? := by
            rw [List.getElem?_eq_getElem i1, List.getElem?_eq_getElem i2]
            simp only [List.cons.injEq, and_true] at c4
            rw [c4]
          exact ⟨a.length - (i + 1), by omega, rfl, i + 1, rfl, take_more ht e, i1, i2, by simp⟩
        · refine fin (.inr (.inr fun e => c4 ?_))
          rw [List.getElem?_eq_getElem i1, List.getElem?_eq_getElem i2] at e
          rw [Option.some.inj e]
      · refine iteF ?_
        exact fin (.inr (.inl (by omega)))
    · refine iteF ?_
      exact fin (.inl (by omega))
  rintro ρ' μ' ⟨rfl, rfl⟩
  walk_at "r"
  rw [cutL_to, ← (List.prefix_iff_eq_take.mp (lcp_pre1 a b))]
  exact q
end
section
variable {P : Program} {w : World} {K : PySem.W.Frag} {mg : Str → Option Value} {base : Heap} {k : Nat}
theorem scN_behind : FnScope ["tree", "size"] ["tree", "size"] (defScope s_behind) := ⟨rfl, rfl, rfl, by decide +kernel, rfl, by decide +kernel, by decide +kernel⟩
theorem ok_behind {f : Addr} {fd : FuncData} (F : Fun K "behind" "behind" s_behind f fd)  : FnD P w K mg base (k + 1) f fd ["tree", "size"] (spOf K mg 2 S_behind) := by
  refine okD F scN_behind (fun cdv A outer s H E hr => ⟨_, (pss_one (ps_ret (pe_tup (pa_cons (pe_slice (sl_K (K := K) rfl) (pe_ix (ix_K (K := K) rfl) (pv 0) pe_int (fun _ _ => rfl)) (po_some (pv 1)) (po_some (pe_op (op_addK (K := K) rfl) (pv 1) pe_int))) (pa_cons (pe_tup (pa_cons (pe_ix (ix_K (K := K) rfl) (pv 0) pe_int (fun _ _ => rfl)) (pa_cons (pe_slice (sl_K (K := K) rfl) (pe_ix (ix_K (K := K) rfl) (pv 0) pe_int (fun _ _ => rfl)) (po_some (pe_op (op_addK (K := K) rfl) (pv 1) pe_int)) po_none) (pa_cons (pe_ix (ix_K (K := K) rfl) (pv 0) pe_int (fun _ _ => rfl)) pa_nil)))) pa_nil))))), ?_⟩)
  try dsimp only [cxOf]
  intro H0 ds μ kk ex hW h
  obtain ⟨t, i, rfl, ht, q⟩ := h
  walk_at "r0"
  refine wr_text ?_
  walk_at "r"
  rw [cutL_at]
  refine wr_tag ?_
  walk_at "r"
  refine wr_text ?_
  walk_at "r"
  rw [cutL_after]
  refine wr_third ?_
  walk_at "r"
  have e : encP (behindT t i) = .tup [.str (((text t).drop i).take 1), .tup [tagD t, .str ((text t).drop (i + 1)), thirdD t]] := by
    unfold encP behindT
    rw [encT_retext]
  rw [e] at q
  exact q
end
theorem ite_isfork {A B : Prop} (h : A) : if decide (forkX = ("fork" : Str).cps.toList) = true then A else B := iteD (fun _ => h) (fun z => absurd rfl z)
theorem ite_isleaf {A B : Prop} (h : B) : if decide (leafX = ("fork" : Str).cps.toList) = true then A else B := iteD (fun z => absurd z leaf_fork) (fun _ => h)
section
variable {P : Program} {w : World} {K : PySem.W.Frag} {mg : Str → Option Value} {base : Heap} {k : Nat}
theorem scN_branches_behind : FnScope ["tree", "size"] ["tree", "size"] (defScope s_branches_behind) := ⟨rfl, rfl, rfl, by decide +kernel, rfl, by decide +kernel, by decide +kernel⟩
theorem ok_branches_behind {f : Addr} {fd : FuncData} (F : Fun K "branches_behind" "branches_behind" s_branches_behind f fd) (D_behind : Df P w K mg base k "behind" ["tree", "size"] S_behind) (M_len : mg "len" = none) : FnD P w K mg base (k + 1) f fd ["tree", "size"] (spOf K mg 2 S_branches_behind) := by
  refine okD F scN_branches_behind (fun cdv A outer s H E hr => ⟨_, (pss_cons (ps_if (PW.pt (pw_and (pt_cmpR (op_eqK (K := K) rfl hr.units) (pe_ix (ix_K (K := K) rfl) (pv 0) pe_int (fun _ _ => rfl)) pe_str (nomark _)) (pw_and1 (pt_cmpR (op_eqK (K := K) rfl hr.units) (pe_callB (call_lenK (K := K) rfl) (by rfl) M_len PySem.boot_len (pa_cons (pe_ix (ix_K (K := K) rfl) (pv 0) pe_int (fun _ _ => rfl)) pa_nil)) (pv 1) (nomark _))))) (pss_one (ps_ret (pe_ix (ix_K (K := K) rfl) (pv 0) pe_int (fun _ _ => rfl)))) pss_nil)
      (pss_one (ps_ret (pe_tup (pa_cons (pe_dfK D_behind ⟨rfl, rfl, rfl, rfl, rfl⟩ hr (takes_of rfl rfl rfl rfl) rfl (pa_cons (pv 0) (pa_cons (pv 1) pa_nil))) pa_nil))))), ?_⟩)
  try dsimp only [cxOf]
  intro H0 ds μ kk ex hW h
  obtain ⟨t, i, rfl, ht, q⟩ := h
  refine wp_mid (fun ρ' μ' => μ' = μ ∧ ρ' = [some (encT t), some (.int (i : Nat))] ∧ bb t i = [behindT t i]) ?_ ?_
  · walk_at "r0"
    refine wr_tag ?_
    cases t with
    | leaf r n =>
      unfold tagD
      walk_at "r"
      refine ite_isleaf ?_
      refine iteF ?_
      walk_at "r"
      exact ⟨rfl, rfl, rfl⟩
    | fork s bs =>
      unfold tagD
      walk_at "r"
      refine ite_isfork ?_
      walk_at "r"
      refine wr_text ?_
      have hs : s.length ≤ 1000 := ht
      unfold text
      walk_at "r"
      refine iteD (fun c => ?_) (fun c => ?_)
      · walk_at "r"
        refine wr_third ?_
        rw [bb_fork, if_pos (by omega)] at q
        exact q
      · walk_at "r"
        exact ⟨rfl, rfl, by rw [bb_fork, if_neg (by omega)]⟩
  · rintro ρ' μ' ⟨rfl, rfl, e⟩
    walk_at "r"
    refine wp_call hW ?_
    walk_at "r"
    refine ⟨rfl, t, i, rfl, ht, ?_⟩
    walk_at "r"
    rw [e] at q
    exact q
theorem scN_joined : FnScope ["one", "other", "shared", "made", "branch", "held"] ["one", "other"] (defScope s_joined) := ⟨rfl, rfl, rfl, by decide +kernel, rfl, by decide +kernel, by decide +kernel⟩
theorem ok_joined {f : Addr} {fd : FuncData} {n : Nat} (F : Fun K "joined" "joined" s_joined f fd) (D_branches_behind : Df P w K mg base k "branches_behind" ["tree", "size"] S_branches_behind) (M_len : mg "len" = none) (D_with_branch : Df P w K mg base k "with_branch" ["branches", "sign", "tree"] S_with_branch) (D_joined : Df P w K mg base k "joined" ["one", "other"] (S_joined n)) {C_Taken : Addr} (R_Taken : RaiseOk K mg "Taken" C_Taken) (D_branch_of : Df P w K mg base k "branch_of" ["branches", "sign"] S_branch_of) (D_common : Df P w K mg base k "common" ["one", "other"] S_common) : FnD P w K mg base (k + 1) f fd ["one", "other"] (spOf K mg 2 (S_joined (n + 1))) := by
  refine okD F scN_joined (fun cdv A outer s H E hr => ⟨_, (pss_cons (ps_if (pt_cmpR op_isU (pv 0) pe_non (nomark _)) (pss_one (ps_ret (pv 1))) pss_nil)
      (pss_cons (ps_if (pt_cmpR op_isU (pv 1) pe_non (nomark _)) (pss_one (ps_ret (pv 0))) pss_nil)
      (pss_cons (ps_set (i := 2) scN_joined.nd rfl (Or.inl rfl) (pe_dfK D_common ⟨rfl, rfl, rfl, rfl, rfl⟩ hr (takes_of rfl rfl rfl rfl) rfl (pa_cons (pe_ix (ix_K (K := K) rfl) (pv 0) pe_int (fun _ _ => rfl)) (pa_cons (pe_ix (ix_K (K := K) rfl) (pv 1) pe_int (fun _ _ => rfl)) pa_nil))))
      (pss_cons (ps_set (i := 3) scN_joined.nd rfl (Or.inl rfl) (pe_dfK D_branches_behind ⟨rfl, rfl, rfl, rfl, rfl⟩ hr (takes_of rfl rfl rfl rfl) rfl (pa_cons (pv 0) (pa_cons (pe_callB (call_lenK (K := K) rfl) (by rfl) M_len PySem.boot_len (pa_cons (pv 2) pa_nil)) pa_nil))))
      (pss_cons (ps_for (passes_of rfl) rfl (pi_seqK (K := K) rfl (pe_dfK D_branches_behind ⟨rfl, rfl, rfl, rfl, rfl⟩ hr (takes_of rfl rfl rfl rfl) rfl (pa_cons (pv 1) (pa_cons (pe_callB (call_lenK (K := K) rfl) (by rfl) M_len PySem.boot_len (pa_cons (pv 2) pa_nil)) pa_nil)))) (pg_name (i := 4) scN_joined.nd rfl (Or.inl rfl)) (pss_cons (ps_set (i := 5) scN_joined.nd rfl (Or.inl rfl) (pe_dfK D_branch_of ⟨rfl, rfl, rfl, rfl, rfl⟩ hr (takes_of rfl rfl rfl rfl) rfl (pa_cons (pv 3) (pa_cons (pe_ix (ix_K (K := K) rfl) (pv 4) pe_int (fun _ _ => rfl)) pa_nil))))
      (pss_cons (ps_if (PW.pt (pw_and (pt_cmpR op_notU (pv 5) pe_non (nomark _)) (pw_and1 (pt_cmpR (op_eqK (K := K) rfl hr.units) (pe_ix (ix_K (K := K) rfl) (pv 4) pe_int (fun _ _ => rfl)) pe_str (nomark _))))) (pss_one (ps_raise rfl (takes_of rfl rfl rfl rfl) (pmk_own PySem.F.excBase_ValueError R_Taken.1 R_Taken.2.1 R_Taken.2.2.1 (raises_own R_Taken.2.2.2.1 R_Taken.2.2.2.2) rfl))) pss_nil)
      (pss_one (ps_set (i := 3) scN_joined.nd rfl (Or.inl rfl) (pe_dfK D_with_branch ⟨rfl, rfl, rfl, rfl, rfl⟩ hr (takes_of rfl rfl rfl rfl) rfl (pa_cons (pv 3) (pa_cons (pe_ix (ix_K (K := K) rfl) (pv 4) pe_int (fun _ _ => rfl)) (pa_cons (pe_dfK D_joined ⟨rfl, rfl, rfl, rfl, rfl⟩ hr (takes_of rfl rfl rfl rfl) rfl (pa_cons (pv 5) (pa_cons (pe_ix (ix_K (K := K) rfl) (pv 4) pe_int (fun _ _ => rfl)) pa_nil))) pa_nil)))))))))
      (pss_one (ps_ret (pe_tup (pa_cons pe_str (pa_cons (pv 2) (pa_cons (pv 3) pa_nil))))))))))), ?_⟩)
  try dsimp only [cxOf]
  intro H0 ds μ kk ex hW h
  obtain ⟨a, b, rfl, ha, hb, hn1, hn, q1, q2⟩ := h
  walk_at "r0"
  rw [isNon_encO]
  cases a with
  | none =>
    refine iteT ?_
    walk_at "r"
    exact q1 (fun y => .inl rfl) b hb.wf fun y => rfl
  | some t =>
  refine iteF ?_
  walk_at "r"
  rw [isNon_encO]
  cases b with
  | none =>
    refine iteT ?_
    walk_at "r"
    exact q1 (fun y => .inr rfl) (some t) ha.wf fun y => by show get t y = (get t y).or none; cases get t y <;> rfl
  | some u =>
  refine iteF ?_
  have ha' : Ok LL MM t := ha
  have hb' : Ok LL MM u := hb
  have lt : (text t).length ≤ 1000 := Nat.le_trans ha'.text (by decide)
  have lu : (text u).length ≤ 1000 := Nat.le_trans hb'.text (by decide)
  have ka := (lcp_pre1 (text t) (text u)).length_le
  have kb := (lcp_pre2 (text t) (text u)).length_le
  have ea : (text t).take (lcp (text t) (text u)).length = lcp (text t) (text u) := (List.prefix_iff_eq_take.mp (lcp_pre1 _ _)).symm
  have eb : (text u).take (lcp (text t) (text u)).length = lcp (text t) (text u) := (List.prefix_iff_eq_take.mp (lcp_pre2 _ _)).symm
  have pa := (bb_ok ha'.wf ka).1
  have pb := (bb_ok hb'.wf kb).1
  have la := bb_len ha' (k := (lcp (text t) (text u)).length)
  have lb := bb_len hb' (k := (lcp (text t) (text u)).length)
  have hMM : MM = 20000 := rfl
  have suba := fun {p : Tx × Tr} => bb_sub ha' ka (p := p)
  have subb := fun {p : Tx × Tr} => bb_sub hb' kb (p := p)
  rw [ea] at suba
  rw [eb] at subb
  have done := fun {M : List (Tx × Tr)} => jinv_done (M := M) ha'.wf hb'.wf
  have hls : (lcp (text t) (text u)).length ≤ 1000 := by omega
  walk_at "r"
  refine wp_call hW ?_
  walk_at "r"
  refine wr_text ?_
  walk_at "r"
  refine wr_text ?_
  walk_at "r"
  refine ⟨rfl, text t, text u, rfl, lt, lu, ?_⟩
  walk_at "set"
  clear ka kb ea eb
  generalize lcp (text t) (text u) = s at pa pb la lb suba subb done hls ⊢
  walk_at "r"
  refine wp_call hW ?_
  walk_at "r"
  refine ⟨rfl, t, s.length, rfl, lt, ?_⟩
  walk_at "r"
  generalize hA : bb t s.length = A at *
  generalize hB : bb u s.length = B at *
  refine wp_for (wi_seq (wp_call hW ?_))
  walk_at "r"
  refine ⟨rfl, u, s.length, rfl, lu, ?_⟩
  rw [hB]
  refine ⟨_, .inr rfl, fun i ρ' μ' => μ' = μ ∧ ∃ (dn M : List (Tx × Tr)) (z4 z5 : Option Dv), i ≤ B.length ∧ M.length ≤ A.length + i ∧ JInv A dn (B.drop i) B M ∧ ρ' = [some (encT t), some (encT u), some (.str s), some (.tup (M.map encP)), z4, z5], ⟨rfl, [], A, _, _, Nat.zero_le _, Nat.le_refl _, jinv_start pa, rfl⟩, ?_, ?_⟩
  · rintro i d ρ' μ' hd ⟨rfl, dn, M, z4, z5, hi, hl, J, rfl⟩
    rw [List.getElem?_map] at hd
    cases e : B[i]? with
    | none => rw [e] at hd; cases hd
    | some p =>
      rw [e] at hd
      cases hd
      have hlt : i < B.length := (List.getElem?_eq_some_iff.mp e).1
      have hp : B[i] = p := (List.getElem?_eq_some_iff.mp e).2
      have hdr : B.drop i = p :: B.drop (i + 1) := by rw [← hp]; exact List.drop_eq_getElem_cons hlt
      have hpB : p ∈ B := by rw [← hp]; exact List.getElem_mem hlt
      rw [hdr] at J
      have hd0 : brOf dn p.1 = none := up_head (p := p) (rm := B.drop (i + 1)) (by rw [← J.rows]; exact pb.1)
      have e1 : brOf M p.1 = brOf A p.1 := J.same _ hd0
      obtain ⟨okp, sop, gp⟩ := subb hpB
      -- what is held there
      have heldA : ∀ v, brOf M p.1 = some v → Ok LL MM v ∧ SignOk (p.1, v) ∧ ∀ z, get v z ≠ none → get t (s ++ p.1 ++ z) = get v z := fun v hv => suba (p := (p.1, v)) (brOf_mem (e1 ▸ hv))
      have clash : ∀ z, getO (brOf M p.1) z ≠ none → get p.2 z ≠ none → ex "Taken" μ' := fun z h1 h2 => by
        cases hv : brOf M p.1 with
        | none => rw [hv] at h1; exact absurd rfl h1
        | some v =>
          rw [hv] at h1
          have h1' : get v z ≠ none := h1
          refine q2 ⟨s ++ p.1 ++ z, ?_, ?_⟩
          · show get t _ ≠ none
            rw [(heldA v hv).2.2 z h1']; exact h1'
          · show get u _ ≠ none
            rw [gp z h2]; exact h2
      have endOf : p.1 = [] → ∃ m, p.2 = .leaf [] m := sop.2
      have hn2 : 1 ≤ n := by
        obtain ⟨y, hy⟩ := wf_some t ha'.wf
        have := hn y hy
        omega
      walk_at "set"
      walk_at "r"
      refine wp_call hW ?_
      walk_at "r"
      refine wr_ixT (d := .str p.1) rfl ?_
      walk_at "r"
      refine ⟨rfl, M, p.1, rfl, ?_⟩
      walk_at "set"
      refine wp_mid (fun ρ2 μ2 => μ2 = μ' ∧ ρ2 = [some (encT t), some (encT u), some (.str s), some (.tup (M.map encP)), some (encP p), some (encO (brOf M p.1))] ∧ (p.1 = [] → brOf M p.1 = none)) ?_ ?_
      · walk_at "r"
        rw [isNon_encO]
        cases hv : brOf M p.1 with
        | none =>
          refine iteF ?_
          refine iteF ?_
          walk_at "r"
          exact ⟨rfl, rfl, fun _ => rfl⟩
        | some v =>
          refine iteT ?_
          walk_at "r"
          refine wr_ixT (d := .str p.1) rfl ?_
          walk_at "r"
          refine iteD (fun c => ?_) (fun c => ?_)
          · have c' : p.1 = [] := c
            obtain ⟨m, hm⟩ := endOf c'
            obtain ⟨m2, hm2⟩ := (heldA v hv).2.1.2 c'
            have hm2' : v = .leaf [] m2 := hm2
            refine wp_raise hW R_Taken.2.1 (clash [] ?_ ?_)
            · rw [hv, hm2']
              show get _ _ ≠ none
              rw [get_leaf, if_pos rfl]; exact fun z => by cases z
            · rw [hm, get_leaf, if_pos rfl]; exact fun z => by cases z
          · walk_at "r"
            exact ⟨rfl, rfl, fun z => absurd z c⟩
      · rintro ρ2 μ2 ⟨rfl, rfl, hend⟩
        walk_at "r"
        refine wp_call hW ?_
        walk_at "r"
        refine wr_ixT (d := .str p.1) rfl ?_
        walk_at "r"
        refine wp_call hW ?_
        walk_at "r"
        refine wr_ixT (d := encT p.2) rfl ?_
        walk_at "r"
        refine ⟨rfl, brOf M p.1, some p.2, rfl, ?_, okp, hn2, fun y hy => ?_, fun hno o1 ho1 hg1 => ?_, fun ⟨z, h1, h2⟩ => clash z h1 h2⟩
        · cases hv : brOf M p.1 with
          | none => trivial
          | some v => exact (heldA v hv).1
        · cases hv : brOf M p.1 with
          | none => rw [hv] at hy; exact absurd rfl hy
          | some v =>
            rw [hv] at hy
            have hy' : get v y ≠ none := hy
            have h3 := hn (s ++ p.1 ++ y) (by show get t _ ≠ none; rw [(heldA v hv).2.2 y hy']; exact hy')
            have h4 : p.1 ≠ [] := fun z => by rw [hend z] at hv; cases hv
            have h5 := List.length_pos_iff.mpr h4
            simp only [List.length_append] at h3
            omega
        · obtain ⟨y0, hy0⟩ := wf_some p.2 okp.wf
          cases o1 with
          | none =>
            exfalso
            have h3 := hg1 y0
            have h4 : getO (brOf M p.1) y0 = none := (hno y0).resolve_right hy0
            rw [h4] at h3
            exact hy0 h3.symm
          | some t' =>
            walk_at "r"
            refine ⟨rfl, M, p.1, some t', rfl, by omega, ?_⟩
            walk_at "r"
            have hl2 := len_withB_le (bs := M) (c := p.1) (o := some t')
            refine ⟨rfl, _, _, _, _, hlt, by omega, J.step pb ho1 hg1 hend hno (fun hz => ?_), rfl⟩
            refine wf_ext t' ho1 p.2 okp.wf fun y => ?_
            have h3 := hg1 y
            rw [hend hz] at h3
            exact h3
  · rintro ρ' μ' ⟨rfl, dn, M, z4, z5, hi, hl, J, rfl⟩
    rw [List.length_map, List.drop_length] at J
    have er := J.rows
    rw [List.append_nil] at er
    subst er
    obtain ⟨d1, d2, d3⟩ := done J
    walk_at "r"
    have := q1 d1 (some (.fork s M)) d2 d3
    simp only [encO, encT_fork] at this
    exact this
end
def encX : Option Tx → Dv
  | none => .non
  | some x => .str x
theorem isNon_encX (o : Option Tx) : isNonD (encX o) = o.isNone := by cases o <;> rfl
def S_names (n : Nat) : Spc := fun ds μ k ex => ∃ o : Option Tr, ds = [encO o] ∧ OkO LL MM o ∧ depthO o + 1 ≤ n ∧ ∀ p, k (.ref p) ((p, DCell.lst ((namesO o).map encR)) :: μ)
def S_cut (n : Nat) : Spc := fun ds μ k ex => ∃ (o : Option Tr) (x : Tx), ds = [encO o, .str x] ∧ OkO LL MM o ∧ x.length ≤ 1000 ∧ depthO o + 1 ≤ n ∧ ∀ a b, CutOk o x a b → k (.tup [encO a, encO b]) μ
def S_under : Spc := fun ds μ k ex => ∃ (o : Option Tr) (x : Tx), ds = [encO o, .str x] ∧ OkO LL MM o ∧ x.length ≤ 1000 ∧ ∀ p, k (.ref p) ((p, DCell.lst (((namesO o).filter (fun r => decide (x <+: r.1))).map encR)) :: μ)
def S_many : Spc := fun ds μ k ex => ∃ (o : Option Tr) (x : Tx), ds = [encO o, .str x] ∧ OkO LL MM o ∧ x.length ≤ 1000 ∧ k (.int ((namesO o).filter (fun r => decide (x <+: r.1))).length) μ
def S_longest : Spc := fun ds μ k ex => ∃ (o : Option Tr) (x : Tx), ds = [encO o, .str x] ∧ OkO LL MM o ∧ x.length ≤ 1000 ∧ ∀ r, LongP (getO o) x r → k (encX r) μ
def S_after : Spc := fun ds μ k ex => ∃ (o : Option Tr) (x : Tx), ds = [encO o, .str x] ∧ OkO LL MM o ∧ k (encX (((namesO o).find? (fun r => decide (x < r.1))).map (·.1))) μ
def S_common_of : Spc := fun ds μ k ex => ∃ (o : Option Tr) (x : Tx), ds = [encO o, .str x] ∧ OkO LL MM o ∧ x.length ≤ 1000 ∧ ∀ a b, CutOk o x a b → k (encX (b.map fun u => x ++ text u)) μ
def S_next_signs : Spc := fun ds μ k ex => ∃ (o : Option Tr) (x : Tx), ds = [encO o, .str x] ∧ OkO LL MM o ∧ x.length ≤ 1000 ∧ ∀ a b, CutOk o x a b → ∀ p, k (.ref p) ((p, DCell.lst ((nextS b).map Dv.str)) :: μ)
theorem zero_names (ds : List Dv) (μ : DMem) (kk : Dv → DMem → Prop) (ex : Str → DMem → Prop) : ¬ S_names 0 ds μ kk ex := fun ⟨_, _, _, h, _⟩ => by omega
theorem zero_cut (ds : List Dv) (μ : DMem) (kk : Dv → DMem → Prop) (ex : Str → DMem → Prop) : ¬ S_cut 0 ds μ kk ex := fun ⟨_, _, _, _, _, h, _⟩ => by omega
theorem _root_.TM.CutOk.okb {o a b : Option Tr} {x : Tx} (C : CutOk o x a b) (h : OkO LL MM o) : OkO LL MM b := by
  cases b with
  | none => trivial
  | some u =>
    have e := under_eq h.wf C.wb C.vb
    have hl := congrArg List.length e
    rw [List.length_map] at hl
    have hf : ((namesO o).filter fun r => decide (x <+: r.1)).length ≤ (namesO o).length := List.length_filter_le _ _
    cases o with
    | none =>
      obtain ⟨y, hy⟩ := wf_some u C.wb
      exact absurd (C.vb y) hy
    | some t =>
      have h' : Ok LL MM t := h
      refine ⟨C.wb, fun y hy => ?_, ?_⟩
      · have := h'.ln (x ++ y) (by have := C.vb y; show get t _ ≠ none; intro z; exact hy (this.trans z))
        rw [List.length_append] at this
        omega
      · have := h'.nm
        show (names u).length ≤ _
        have h3 : (names u).length ≤ (names t).length := by
          have : (names u).length = _ := hl
          rw [this]; exact hf
        omega
theorem _root_.TM.CutOk.oka {o a b : Option Tr} {x : Tx} (C : CutOk o x a b) (h : OkO LL MM o) : OkO LL MM a := by
  cases a with
  | none => trivial
  | some u =>
    cases o with
    | none =>
      obtain ⟨y, hy⟩ := wf_some u C.wa
      have := C.va y
      split at this
      · exact absurd this hy
      · exact absurd this hy
    | some t =>
      refine ok_sub (t := t) h C.wa fun y v hv => ?_
      have := C.va y
      split at this
      · rw [show getO (some u) y = some v from hv] at this; cases this
      · exact this.symm.trans hv
theorem depthO_sub {s : Tx} {bs : List (Tx × Tr)} (x : Tx) : depthO (brOf bs x) + 1 ≤ depth (.fork s bs) := by
  cases e : brOf bs x with
  | none => exact depth_pos _
  | some t => exact depth_br (s := s) e
theorem depthO_le {o : Option Tr} (h : OkO LL MM o) : depthO o + 1 ≤ 84 := by
  cases o with
  | none => decide
  | some t =>
    have := depth_le LL t h
    have h3 : LL = 82 := rfl
    show depth t + 1 ≤ 84
    omega
theorem okO_br {s : Tx} {bs : List (Tx × Tr)} (h : Ok LL MM (.fork s bs)) (x : Tx) : OkO LL MM (brOf bs x) := by
  cases e : brOf bs x with
  | none => trivial
  | some t => exact h.sub (brOf_mem e)
section
variable {P : Program} {w : World} {K : PySem.W.Frag} {mg : Str → Option Value} {base : Heap} {k : Nat}
theorem scN_names : FnScope ["tree", "told", "branch", "pair"] ["tree"] (defScope s_names) := ⟨rfl, rfl, rfl, by decide +kernel, rfl, by decide +kernel, by decide +kernel⟩
theorem ok_names {f : Addr} {fd : FuncData} {n : Nat} (F : Fun K "names" "names" s_names f fd) (D_names : Df P w K mg base k "names" ["tree"] (S_names n)) : FnD P w K mg base (k + 1) f fd ["tree"] (spOf K mg 1 (S_names (n + 1))) := by
  refine okD F scN_names (fun cdv A outer s H E hr => ⟨_, (pss_cons (ps_if (pt_cmpR op_isU (pv 0) pe_non (nomark _)) (pss_one (ps_ret (pe_lst pa_nil))) pss_nil)
      (pss_cons (ps_if (pt_cmpR (op_eqK (K := K) rfl hr.units) (pe_ix (ix_K (K := K) rfl) (pv 0) pe_int (fun _ _ => rfl)) pe_str (nomark _)) (pss_one (ps_ret (pe_lst (pa_cons (pe_tup (pa_cons (pe_ix (ix_K (K := K) rfl) (pv 0) pe_int (fun _ _ => rfl)) (pa_cons (pe_ix (ix_K (K := K) rfl) (pv 0) pe_int (fun _ _ => rfl)) pa_nil))) pa_nil)))) pss_nil)
      (pss_cons (ps_set (i := 1) scN_names.nd rfl (Or.inl rfl) (pe_lst pa_nil))
      (pss_cons (ps_for (passes_of rfl) rfl (pi_seqK (K := K) rfl (pe_ix (ix_K (K := K) rfl) (pv 0) pe_int (fun _ _ => rfl))) (pg_name (i := 2) scN_names.nd rfl (Or.inl rfl)) (pss_one (ps_for (passes_of rfl) rfl (pi_seqK (K := K) rfl (pe_dfK D_names ⟨rfl, rfl, rfl, rfl, rfl⟩ hr (takes_of rfl rfl rfl rfl) rfl (pa_cons (pe_ix (ix_K (K := K) rfl) (pv 2) pe_int (fun _ _ => rfl)) pa_nil))) (pg_name (i := 3) scN_names.nd rfl (Or.inl rfl)) (pss_one (ps_expr (pe_bm PySem.F.plainAttrs_list PySem.F.slot_list_append PySem.F.type_list_append mt_append (pv 1) (pa_cons (pe_tup (pa_cons (pe_op (op_addK (K := K) rfl) (pe_op (op_addK (K := K) rfl) (pe_ix (ix_K (K := K) rfl) (pv 0) pe_int (fun _ _ => rfl)) (pe_ix (ix_K (K := K) rfl) (pv 2) pe_int (fun _ _ => rfl))) (pe_ix (ix_K (K := K) rfl) (pv 3) pe_int (fun _ _ => rfl))) (pa_cons (pe_ix (ix_K (K := K) rfl) (pv 3) pe_int (fun _ _ => rfl)) pa_nil))) pa_nil)))))))
      (pss_one (ps_ret (pv 1))))))), ?_⟩)
  try dsimp only [cxOf]
  intro H0 ds μ kk ex hW h
  obtain ⟨o, rfl, hO, hd, q⟩ := h
  walk_at "r0"
  rw [isNon_encO]
  cases o with
  | none =>
    refine iteT ?_
    exact wp_ret (wp_lstC (wp_nil ⟨sz_le (by decide), q⟩))
  | some t =>
  refine iteF ?_
  have hok : Ok LL MM t := hO
  cases t with
  | leaf r m =>
    simp only [encO, encT_leaf]
    walk_at "r"
    refine wr_ixT (d := .str leafX) rfl ?_
    walk_at "r"
    refine ite_leaf ?_
    refine wp_ret (wp_lstC ?_)
    walk_at "r"
    refine wr_ixT (d := .str r) rfl ?_
    walk_at "r"
    refine wr_ixT (d := .int m) rfl ?_
    walk_at "r"
    exact q
  | fork s bs =>
    have hs : s.length ≤ 300 := Nat.le_trans hok.text (by decide)
    have hnm : (namesB s bs).length ≤ 20000 := hok.nm
    simp only [encO, encT_fork]
    walk_at "r"
    refine wr_ixT (d := .str forkX) rfl ?_
    walk_at "r"
    refine ite_fork ?_
    refine wp_next ?_
    refine wp_seq (wp_set (wp_lstC (wp_nil ⟨sz_le (by decide), fun pa => ?_⟩)))
    walk_at "set"
    refine wp_seq ?_
    refine wp_for (wi_seq ?_)
    walk_at "r"
    refine wr_ixT (d := .tup (bs.map encP)) rfl ?_
    refine ⟨_, .inr rfl, fun i ρ' μ' => i ≤ bs.length ∧ μ' = (pa, DCell.lst ((namesB s (bs.take i)).map encR)) :: μ ∧ ∃ z2 z3 : Option Dv, ρ' = [some (.tup [.str forkX, .str s, .tup (bs.map encP)]), some (.ref pa), z2, z3], ⟨Nat.zero_le _, by rw [List.take_zero, namesB]; rfl, _, _, rfl⟩, ?_, ?_⟩
    · rintro i d ρ' μ' hdd ⟨hi, rfl, z2, z3, rfl⟩
      rw [List.getElem?_map] at hdd
      cases e : bs[i]? with
      | none => rw [e] at hdd; cases hdd
      | some p =>
        rw [e] at hdd
        cases hdd
        have hlt : i < bs.length := (List.getElem?_eq_some_iff.mp e).1
        have hpm : p ∈ bs := by
          have := (List.getElem?_eq_some_iff.mp e).2
          rw [← this]; exact List.getElem_mem hlt
        have hcat := namesB_at (s := s) e
        have hle := namesB_take_le s bs (i + 1)
        have hsp := (hok.br hpm).1
        have hp1 : p.1.length ≤ 300 := by
          have : s.length + p.1.length ≤ 82 := hsp
          omega
        have okp := hok.sub hpm
        walk_at "set"
        refine wp_for (wi_seq (wp_cool (wp_call hW ?_)))
        walk_at "r"
        refine wr_ixT (d := encT p.2) rfl ?_
        walk_at "r"
        refine ⟨rfl, some p.2, rfl, okp, by have := depth_mem hpm; have e2 : depthO (some (Tr.fork s bs)) = depthB bs + 1 := (by show depth _ = _; rw [depth.eq_2]); show depth p.2 + 1 ≤ n; omega, fun pb => ?_⟩
        refine ⟨_, _, _, rfl, rfl, ?_⟩
        rw [hcat, List.length_append, List.length_map] at hle
        refine ⟨_, .inl rfl, fun j ρ' μ' => j ≤ (names p.2).length ∧ μ' = (pa, DCell.lst ((namesB s (bs.take i) ++ ((names p.2).take j).map (fun q => (s ++ p.1 ++ q.1, q.2))).map encR)) :: μ ∧ ∃ z3 : Option Dv, ρ' = [some (.tup [.str forkX, .str s, .tup (bs.map encP)]), some (.ref pa), some (encP p), z3], ⟨Nat.zero_le _, by simp, _, rfl⟩, ?_, ?_⟩
        · rintro j d ρ' μ' hdd ⟨hj, rfl, z3, rfl⟩
          rw [List.getElem?_map] at hdd
          have hdd' : ((names p.2)[j]?).map encR = some d := hdd
          cases e4 : (names p.2)[j]? with
          | none => rw [e4] at hdd'; cases hdd'
          | some r =>
            rw [e4] at hdd'
            cases hdd'
            have hjl : j < (names p.2).length := (List.getElem?_eq_some_iff.mp e4).1
            have hrm : r ∈ names p.2 := by
              have := (List.getElem?_eq_some_iff.mp e4).2
              rw [← this]; exact List.getElem_mem hjl
            have hrl : r.1.length ≤ 300 := Nat.le_trans (okp.ln r.1 (by rw [(mem_names p.2 okp.wf r.1 r.2).mp hrm]; exact fun z => by cases z)) (by decide)
            walk_at "set"
            refine wp_drop (wp_app ?_)
            walk_at "r"
            refine ⟨_, rfl, ⟨_, List.mem_cons_self⟩, ?_⟩
            walk_at "r"
            refine wr_ixT (d := .str s) rfl ?_
            walk_at "r"
            refine wr_ixT (d := .str p.1) rfl ?_
            walk_at "r"
            refine wr_ixT (d := .str r.1) rfl ?_
            walk_at "r"
            refine wr_ixT (d := .int r.2) rfl ?_
            walk_at "r"
            refine ⟨[], _, _, rfl, sz_lt (by simp only [List.length_map, List.length_append, List.length_take]; omega), ?_⟩
            refine ⟨hjl, ?_, _, rfl⟩
            have hj2 := (List.getElem?_eq_some_iff.mp e4).2
            rw [List.take_succ_eq_append_getElem hjl, hj2]
            simp [encR]
        · rintro ρ' μ' ⟨hj, rfl, z3, rfl⟩
          have hl : ((namesO (some p.2)).map encR).length = (names p.2).length := by rw [List.length_map]; rfl
          rw [hl, List.take_length, ← hcat]
          exact ⟨hlt, rfl, _, _, rfl⟩
    · rintro ρ' μ' ⟨hi, rfl, z2, z3, rfl⟩
      rw [List.length_map, List.take_length]
      walk_at "r"
      exact q pa
end
section
variable {P : Program} {w : World} {K : PySem.W.Frag} {mg : Str → Option Value} {base : Heap} {k : Nat}
theorem scN_cut : FnScope ["tree", "beginning", "size", "sign", "pair"] ["tree", "beginning"] (defScope s_cut) := ⟨rfl, rfl, rfl, by decide +kernel, rfl, by decide +kernel, by decide +kernel⟩
theorem ok_cut {f : Addr} {fd : FuncData} {n : Nat} (F : Fun K "cut" "cut" s_cut f fd) (D_knot_of : Df P w K mg base k "knot_of" ["shared", "branches"] S_knot_of) (D_with_branch : Df P w K mg base k "with_branch" ["branches", "sign", "tree"] S_with_branch) (D_cut : Df P w K mg base k "cut" ["tree", "beginning"] (S_cut n)) (D_branch_of : Df P w K mg base k "branch_of" ["branches", "sign"] S_branch_of) (M_len : mg "len" = none) (D_common : Df P w K mg base k "common" ["one", "other"] S_common) : FnD P w K mg base (k + 1) f fd ["tree", "beginning"] (spOf K mg 2 (S_cut (n + 1))) := by
  refine okD F scN_cut (fun cdv A outer s H E hr => ⟨_, (pss_cons (ps_if (pt_cmpR op_isU (pv 0) pe_non (nomark _)) (pss_one (ps_ret (pe_tup (pa_cons pe_non (pa_cons pe_non pa_nil))))) pss_nil)
      (pss_cons (ps_set (i := 2) scN_cut.nd rfl (Or.inl rfl) (pe_callB (call_lenK (K := K) rfl) (by rfl) M_len PySem.boot_len (pa_cons (pe_dfK D_common ⟨rfl, rfl, rfl, rfl, rfl⟩ hr (takes_of rfl rfl rfl rfl) rfl (pa_cons (pe_ix (ix_K (K := K) rfl) (pv 0) pe_int (fun _ _ => rfl)) (pa_cons (pv 1) pa_nil))) pa_nil)))
      (pss_cons (ps_if (pt_cmpR (op_eqK (K := K) rfl hr.units) (pv 2) (pe_callB (call_lenK (K := K) rfl) (by rfl) M_len PySem.boot_len (pa_cons (pv 1) pa_nil)) (nomark _)) (pss_one (ps_ret (pe_tup (pa_cons pe_non (pa_cons (pe_tup (pa_cons (pe_ix (ix_K (K := K) rfl) (pv 0) pe_int (fun _ _ => rfl)) (pa_cons (pe_slice (sl_K (K := K) rfl) (pe_ix (ix_K (K := K) rfl) (pv 0) pe_int (fun _ _ => rfl)) (po_some (pv 2)) po_none) (pa_cons (pe_ix (ix_K (K := K) rfl) (pv 0) pe_int (fun _ _ => rfl)) pa_nil)))) pa_nil))))) pss_nil)
      (pss_cons (ps_if (PW.pt (pw_or (pt_cmpR (op_eqK (K := K) rfl hr.units) (pe_ix (ix_K (K := K) rfl) (pv 0) pe_int (fun _ _ => rfl)) pe_str (nomark _)) (pw_or1 (pt_cmpR op_ltU (pv 2) (pe_callB (call_lenK (K := K) rfl) (by rfl) M_len PySem.boot_len (pa_cons (pe_ix (ix_K (K := K) rfl) (pv 0) pe_int (fun _ _ => rfl)) pa_nil)) (nomark _))))) (pss_one (ps_ret (pe_tup (pa_cons (pv 0) (pa_cons pe_non pa_nil))))) pss_nil)
      (pss_cons (ps_set (i := 3) scN_cut.nd rfl (Or.inl rfl) (pe_slice (sl_K (K := K) rfl) (pv 1) (po_some (pv 2)) (po_some (pe_op (op_addK (K := K) rfl) (pv 2) pe_int))))
      (pss_cons (ps_set (i := 4) scN_cut.nd rfl (Or.inl rfl) (pe_dfK D_cut ⟨rfl, rfl, rfl, rfl, rfl⟩ hr (takes_of rfl rfl rfl rfl) rfl (pa_cons (pe_dfK D_branch_of ⟨rfl, rfl, rfl, rfl, rfl⟩ hr (takes_of rfl rfl rfl rfl) rfl (pa_cons (pe_ix (ix_K (K := K) rfl) (pv 0) pe_int (fun _ _ => rfl)) (pa_cons (pv 3) pa_nil))) (pa_cons (pe_slice (sl_K (K := K) rfl) (pv 1) (po_some (pe_op (op_addK (K := K) rfl) (pv 2) pe_int)) po_none) pa_nil))))
      (pss_cons (ps_if (pt_cmpR op_isU (pe_ix (ix_K (K := K) rfl) (pv 4) pe_int (fun _ _ => rfl)) pe_non (nomark _)) (pss_one (ps_ret (pe_tup (pa_cons (pv 0) (pa_cons pe_non pa_nil))))) pss_nil)
      (pss_one (ps_ret (pe_tup (pa_cons (pe_dfK D_knot_of ⟨rfl, rfl, rfl, rfl, rfl⟩ hr (takes_of rfl rfl rfl rfl) rfl (pa_cons (pe_ix (ix_K (K := K) rfl) (pv 0) pe_int (fun _ _ => rfl)) (pa_cons (pe_dfK D_with_branch ⟨rfl, rfl, rfl, rfl, rfl⟩ hr (takes_of rfl rfl rfl rfl) rfl (pa_cons (pe_ix (ix_K (K := K) rfl) (pv 0) pe_int (fun _ _ => rfl)) (pa_cons (pv 3) (pa_cons (pe_ix (ix_K (K := K) rfl) (pv 4) pe_int (fun _ _ => rfl)) pa_nil)))) pa_nil))) (pa_cons (pe_ix (ix_K (K := K) rfl) (pv 4) pe_int (fun _ _ => rfl)) pa_nil)))))))))))), ?_⟩)
  try dsimp only [cxOf]
  intro H0 ds μ kk ex hW h
  obtain ⟨o, x, rfl, hO, hx, hd, q⟩ := h
  walk_at "r0"
  rw [isNon_encO]
  cases o with
  | none =>
    refine iteT ?_
    walk_at "r"
    exact q none none (cut_none x)
  | some t =>
  refine iteF ?_
  have hok : Ok LL MM t := hO
  have hT : (text t).length ≤ 300 := Nat.le_trans hok.text (by decide)
  walk_at "r"
  refine wp_call hW ?_
  walk_at "r"
  refine wr_text ?_
  walk_at "r"
  refine ⟨rfl, text t, x, rfl, by omega, hx, ?_⟩
  have l1 := (lcp_pre1 (text t) x).length_le
  walk_at "r"
  refine iteD (fun c => ?_) (fun c => ?_)
  · -- all of the beginning
    have hpx : x <+: text t := by
      have h1 := lcp_pre1 (text t) x
      have h2 := lcp_pre2 (text t) x
      rw [h2.eq_of_length (by omega)] at h1
      exact h1
    walk_at "r"
    refine wr_tag ?_
    walk_at "r"
    refine wr_text ?_
    walk_at "r"
    rw [cutL_from]
    refine wr_third ?_
    walk_at "r"
    have := q _ _ (cut_all hok.wf hpx)
    simp only [encO, encT_retext] at this
    have e : (lcp (text t) x).length = x.length := by omega
    rw [e]
    exact this
  refine wp_next ?_
  refine wp_mid (fun ρ' μ' => μ' = μ ∧ ρ' = [some (encT t), some (.str x), some (.int ((lcp (text t) x).length : Nat)), none, none] ∧ ∃ s bs, t = .fork s bs ∧ (lcp (text t) x).length = s.length) ?_ ?_
  · cases t with
    | leaf r m =>
      walk_at "r"
      refine wr_tag ?_
      unfold tagD
      walk_at "r"
      refine ite_leaf ?_
      refine iteT ?_
      walk_at "r"
      exact q _ _ (cut_stay hok.wf fun y hy => no_begin (fun z => c (by omega)) (.inl rfl) hy)
    | fork s bs =>
      walk_at "r"
      refine wr_tag ?_
      unfold tagD
      walk_at "r"
      refine ite_fork ?_
      walk_at "r"
      refine wr_text ?_
      walk_at "r"
      refine iteD (fun c2 => ?_) (fun c2 => ?_)
      · walk_at "r"
        exact q _ _ (cut_stay hok.wf fun y hy => no_begin (fun z => c (by omega)) (.inr (by omega)) hy)
      · walk_at "r"
        have e : (text (.fork s bs)).length = s.length := rfl
        exact ⟨rfl, rfl, s, bs, rfl, by omega⟩
  rintro ρ' μ' ⟨rfl, rfl, s, bs, rfl, es⟩
  rw [es]
  have hs : s.length ≤ 300 := hT
  have l2 := (lcp_pre2 (text (.fork s bs)) x).length_le
  have hpre : s <+: x := by
    have h1 := lcp_pre1 s x
    have h2 := lcp_pre2 s x
    rw [h1.eq_of_length es] at h2
    exact h2
  have hlt : s.length < x.length := by omega
  have pf := pf_of hok.wf
  have h2b := (wf_fork.mp hok.wf).1
  have hlb : bs.length ≤ 20000 := hok.len
  have hdep : depthO (some (Tr.fork s bs)) = depth (.fork s bs) := rfl
  have hds := depthO_sub (s := s) (bs := bs) ((x.drop s.length).take 1)
  walk_at "r"
  rw [cutL_at]
  walk_at "r"
  refine wp_call hW ?_
  walk_at "r"
  refine wp_call hW ?_
  walk_at "r"
  refine wr_third ?_
  walk_at "r"
  refine ⟨rfl, bs, _, rfl, ?_⟩
  walk_at "r"
  rw [cutL_after]
  refine ⟨rfl, brOf bs ((x.drop s.length).take 1), _, rfl, okO_br hok _, by rw [List.length_drop]; omega, by omega, fun a b C => ?_⟩
  walk_at "r"
  refine wr_ixT (d := encO b) rfl ?_
  walk_at "r"
  rw [isNon_encO]
  cases b with
  | none =>
    refine iteT ?_
    walk_at "r"
    exact q _ _ (cut_fork_no hok.wf hpre hlt C)
  | some b =>
    refine iteF ?_
    obtain ⟨pf2, C2⟩ := cut_fork hok.wf hpre hlt C (withB_ne pf.1 h2b)
    have oka := C.oka (okO_br hok _)
    walk_at "r"
    refine wp_call hW ?_
    walk_at "r"
    refine wr_text ?_
    walk_at "r"
    refine wp_call hW ?_
    walk_at "r"
    refine wr_third ?_
    walk_at "r"
    refine wr_ixT (d := encO a) rfl ?_
    walk_at "r"
    refine ⟨rfl, bs, _, a, rfl, by omega, ?_⟩
    walk_at "r"
    refine ⟨rfl, s, _, rfl, pf2.2.2, by omega, fun p hp => ⟨(pf2.2.1 p hp).1.1, ?_⟩, ?_⟩
    · rcases mem_withB.mp hp with ⟨e1, e2⟩ | ⟨e1, _⟩
      · rw [e2] at oka
        have oka' : Ok LL MM p.2 := oka
        exact Nat.le_trans oka'.text (by decide)
      · exact Nat.le_trans (hok.sub e1).text (by decide)
    walk_at "r"
    refine wr_ixT (d := encO (some b)) rfl ?_
    walk_at "r"
    exact q _ _ C2
end
/-- what joined promises of two trees -/
def JoinD (a b : Option Tr) (k : Dv → DMem → Prop) (ex : Prop) (μ : DMem) : Prop := ((∀ z, getO a z = none ∨ getO b z = none) → ∀ t', WfO t' → (∀ z, getO t' z = (getO a z).or (getO b z)) → k (encO t') μ) ∧ ((∃ z, getO a z ≠ none ∧ getO b z ≠ none) → ex)
def S_ahead : Spc := fun ds μ k ex => ∃ (o : Option Tr) (x : Tx), ds = [encO o, .str x] ∧ x.length ≤ 1000 ∧ (∀ t, o = some t → (text t).length ≤ 1000) ∧ k (encO (o.map (ahead x))) μ
def S_moved : Spc := fun ds μ k ex => ∃ (o : Option Tr) (x y : Tx), ds = [encO o, .str x, .str y] ∧ OkO 40 MM o ∧ x.length ≤ 1000 ∧ y.length ≤ 40 ∧
  ∀ a b, CutOk o x a b → (b = none → ex "NotThere" μ) ∧ ∀ u, b = some u → JoinD a (some (ahead y u)) k (ex "Taken" μ) μ
def S_copied : Spc := fun ds μ k ex => ∃ (o : Option Tr) (x y : Tx), ds = [encO o, .str x, .str y] ∧ OkO 40 MM o ∧ x.length ≤ 1000 ∧ y.length ≤ 40 ∧
  ∀ a b, CutOk o x a b → (b = none → ex "NotThere" μ) ∧ ∀ u, b = some u → JoinD o (some (ahead y u)) k (ex "Taken" μ) μ
def S_knots (n : Nat) : Spc := fun ds μ k ex => ∃ o : Option Tr, ds = [encO o] ∧ OkO LL MM o ∧ depthO o + 1 ≤ n ∧ ∀ p, k (.ref p) ((p, DCell.lst ((knotsO o).map encR)) :: μ)
theorem zero_knots (ds : List Dv) (μ : DMem) (kk : Dv → DMem → Prop) (ex : Str → DMem → Prop) : ¬ S_knots 0 ds μ kk ex := fun ⟨_, _, _, h, _⟩ => by omega
theorem okO_up {L L' M : Nat} {o : Option Tr} (h : OkO L M o) (hl : L ≤ L') : OkO L' M o := by
  cases o with
  | none => trivial
  | some t => exact Ok.mono (t := t) h hl (Nat.le_refl _)
theorem okO_len {L M : Nat} {o : Option Tr} (h : OkO L M o) {y : Tx} (hy : getO o y ≠ none) : y.length ≤ L := by
  cases o with
  | none => exact absurd rfl hy
  | some t => exact Ok.ln (t := t) h y hy
/-- what was cut off is no larger -/
theorem cut_ok {o a b : Option Tr} {x : Tx} {L : Nat} (C : CutOk o x a b) (h : OkO L MM o) (hl : L ≤ LL) : OkO L MM a ∧ OkO L MM b := by
  have h1 := C.oka (okO_up h hl)
  have h2 := C.okb (okO_up h hl)
  constructor
  · cases a with
    | none => trivial
    | some u =>
      refine ⟨Ok.wf (t := u) h1, fun y hy => okO_len h (y := y) ?_, Ok.nm (t := u) h1⟩
      have e := C.va y
      intro z
      split at e
      · exact hy e
      · exact hy (e.trans z)
  · cases b with
    | none => trivial
    | some u =>
      refine ⟨Ok.wf (t := u) h2, fun y hy => ?_, Ok.nm (t := u) h2⟩
      have := okO_len h (y := x ++ y) (fun z => hy ((C.vb y).trans z))
      rw [List.length_append] at this
      omega
section
variable {P : Program} {w : World} {K : PySem.W.Frag} {mg : Str → Option Value} {base : Heap} {k : Nat}
theorem scN_ahead : FnScope ["tree", "beginning"] ["tree", "beginning"] (defScope s_ahead) := ⟨rfl, rfl, rfl, by decide +kernel, rfl, by decide +kernel, by decide +kernel⟩
theorem ok_ahead {f : Addr} {fd : FuncData} (F : Fun K "ahead" "ahead" s_ahead f fd)  : FnD P w K mg base (k + 1) f fd ["tree", "beginning"] (spOf K mg 2 S_ahead) := by
  refine okD F scN_ahead (fun cdv A outer s H E hr => ⟨_, (pss_cons (ps_if (pt_cmpR op_isU (pv 0) pe_non (nomark _)) (pss_one (ps_ret pe_non)) pss_nil)
      (pss_one (ps_ret (pe_tup (pa_cons (pe_ix (ix_K (K := K) rfl) (pv 0) pe_int (fun _ _ => rfl)) (pa_cons (pe_op (op_addK (K := K) rfl) (pv 1) (pe_ix (ix_K (K := K) rfl) (pv 0) pe_int (fun _ _ => rfl))) (pa_cons (pe_ix (ix_K (K := K) rfl) (pv 0) pe_int (fun _ _ => rfl)) pa_nil))))))), ?_⟩)
  try dsimp only [cxOf]
  intro H0 ds μ kk ex hW h
  obtain ⟨o, x, rfl, hx, ht, q⟩ := h
  walk_at "r0"
  rw [isNon_encO]
  cases o with
  | none =>
    refine iteT ?_
    walk_at "r"
    exact q
  | some t =>
    refine iteF ?_
    have hl := ht t rfl
    walk_at "r"
    refine wr_tag ?_
    walk_at "r"
    refine wr_text ?_
    walk_at "r"
    refine wr_third ?_
    walk_at "r"
    have e : encO ((some t).map (TM.ahead x)) = .tup [tagD t, .str (x ++ text t), thirdD t] := encT_retext t (x ++ text t)
    rw [e] at q
    exact q
theorem scN_moved : FnScope ["tree", "beginning", "other", "pair"] ["tree", "beginning", "other"] (defScope s_moved) := ⟨rfl, rfl, rfl, by decide +kernel, rfl, by decide +kernel, by decide +kernel⟩
theorem ok_moved {f : Addr} {fd : FuncData} (F : Fun K "moved" "moved" s_moved f fd) (D_joined : Df P w K mg base k "joined" ["one", "other"] (S_joined 83)) (D_ahead : Df P w K mg base k "ahead" ["tree", "beginning"] S_ahead) {C_NotThere : Addr} (R_NotThere : RaiseOk K mg "NotThere" C_NotThere) (D_cut : Df P w K mg base k "cut" ["tree", "beginning"] (S_cut 84)) : FnD P w K mg base (k + 1) f fd ["tree", "beginning", "other"] (spOf K mg 3 S_moved) := by
  refine okD F scN_moved (fun cdv A outer s H E hr => ⟨_, (pss_cons (ps_set (i := 3) scN_moved.nd rfl (Or.inl rfl) (pe_dfK D_cut ⟨rfl, rfl, rfl, rfl, rfl⟩ hr (takes_of rfl rfl rfl rfl) rfl (pa_cons (pv 0) (pa_cons (pv 1) pa_nil))))
      (pss_cons (ps_if (pt_cmpR op_isU (pe_ix (ix_K (K := K) rfl) (pv 3) pe_int (fun _ _ => rfl)) pe_non (nomark _)) (pss_one (ps_raise rfl (takes_of rfl rfl rfl rfl) (pmk_own PySem.F.excBase_ValueError R_NotThere.1 R_NotThere.2.1 R_NotThere.2.2.1 (raises_own R_NotThere.2.2.2.1 R_NotThere.2.2.2.2) rfl))) pss_nil)
      (pss_one (ps_ret (pe_dfK D_joined ⟨rfl, rfl, rfl, rfl, rfl⟩ hr (takes_of rfl rfl rfl rfl) rfl (pa_cons (pe_ix (ix_K (K := K) rfl) (pv 3) pe_int (fun _ _ => rfl)) (pa_cons (pe_dfK D_ahead ⟨rfl, rfl, rfl, rfl, rfl⟩ hr (takes_of rfl rfl rfl rfl) rfl (pa_cons (pe_ix (ix_K (K := K) rfl) (pv 3) pe_int (fun _ _ => rfl)) (pa_cons (pv 2) pa_nil))) pa_nil))))))), ?_⟩)
  try dsimp only [cxOf]
  intro H0 ds μ kk ex hW h
  obtain ⟨o, x, y, rfl, hO, hx, hy, q⟩ := h
  have hLL : (40 : Nat) ≤ LL := by decide
  have hO2 := okO_up hO hLL
  walk_at "r0"
  refine wp_call hW ?_
  walk_at "r"
  refine ⟨rfl, o, x, rfl, hO2, hx, depthO_le hO2, fun a b C => ?_⟩
  obtain ⟨oka, okb⟩ := cut_ok C hO hLL
  walk_at "r"
  refine wr_ixT (d := encO b) rfl ?_
  walk_at "r"
  rw [isNon_encO]
  cases b with
  | none =>
    refine iteT ?_
    exact wp_raise hW R_NotThere.2.1 ((q a none C).1 rfl)
  | some u =>
    refine iteF ?_
    obtain ⟨j1, j2⟩ := (q a (some u) C).2 u rfl
    have hu : Ok 40 MM u := okb
    have htu := hu.text
    have hah : Ok LL MM (TM.ahead y u) := TM.ok_ahead (y := y) hu (by show y.length + 40 ≤ 82; omega)
    walk_at "r"
    refine wp_call hW ?_
    walk_at "r"
    refine wr_ixT (d := encO a) rfl ?_
    walk_at "r"
    refine wp_call hW ?_
    walk_at "r"
    refine wr_ixT (d := encO (some u)) rfl ?_
    walk_at "r"
    refine ⟨rfl, some u, y, rfl, by omega, fun t e => by cases e; omega, ?_⟩
    walk_at "r"
    exact ⟨rfl, a, some (TM.ahead y u), rfl, okO_up oka hLL, hah, by decide, fun z hz => by have := okO_len oka hz; omega, j1, j2⟩
theorem scN_copied : FnScope ["tree", "beginning", "other", "pair"] ["tree", "beginning", "other"] (defScope s_copied) := ⟨rfl, rfl, rfl, by decide +kernel, rfl, by decide +kernel, by decide +kernel⟩
theorem ok_copied {f : Addr} {fd : FuncData} (F : Fun K "copied" "copied" s_copied f fd) (D_joined : Df P w K mg base k "joined" ["one", "other"] (S_joined 83)) (D_ahead : Df P w K mg base k "ahead" ["tree", "beginning"] S_ahead) {C_NotThere : Addr} (R_NotThere : RaiseOk K mg "NotThere" C_NotThere) (D_cut : Df P w K mg base k "cut" ["tree", "beginning"] (S_cut 84)) : FnD P w K mg base (k + 1) f fd ["tree", "beginning", "other"] (spOf K mg 3 S_copied) := by
  refine okD F scN_copied (fun cdv A outer s H E hr => ⟨_, (pss_cons (ps_set (i := 3) scN_copied.nd rfl (Or.inl rfl) (pe_dfK D_cut ⟨rfl, rfl, rfl, rfl, rfl⟩ hr (takes_of rfl rfl rfl rfl) rfl (pa_cons (pv 0) (pa_cons (pv 1) pa_nil))))
      (pss_cons (ps_if (pt_cmpR op_isU (pe_ix (ix_K (K := K) rfl) (pv 3) pe_int (fun _ _ => rfl)) pe_non (nomark _)) (pss_one (ps_raise rfl (takes_of rfl rfl rfl rfl) (pmk_own PySem.F.excBase_ValueError R_NotThere.1 R_NotThere.2.1 R_NotThere.2.2.1 (raises_own R_NotThere.2.2.2.1 R_NotThere.2.2.2.2) rfl))) pss_nil)
      (pss_one (ps_ret (pe_dfK D_joined ⟨rfl, rfl, rfl, rfl, rfl⟩ hr (takes_of rfl rfl rfl rfl) rfl (pa_cons (pv 0) (pa_cons (pe_dfK D_ahead ⟨rfl, rfl, rfl, rfl, rfl⟩ hr (takes_of rfl rfl rfl rfl) rfl (pa_cons (pe_ix (ix_K (K := K) rfl) (pv 3) pe_int (fun _ _ => rfl)) (pa_cons (pv 2) pa_nil))) pa_nil))))))), ?_⟩)
  try dsimp only [cxOf]
  intro H0 ds μ kk ex hW h
  obtain ⟨o, x, y, rfl, hO, hx, hy, q⟩ := h
  have hLL : (40 : Nat) ≤ LL := by decide
  have hO2 := okO_up hO hLL
  walk_at "r0"
  refine wp_call hW ?_
  walk_at "r"
  refine ⟨rfl, o, x, rfl, hO2, hx, depthO_le hO2, fun a b C => ?_⟩
  obtain ⟨oka, okb⟩ := cut_ok C hO hLL
  walk_at "r"
  refine wr_ixT (d := encO b) rfl ?_
  walk_at "r"
  rw [isNon_encO]
  cases b with
  | none =>
    refine iteT ?_
    exact wp_raise hW R_NotThere.2.1 ((q a none C).1 rfl)
  | some u =>
    refine iteF ?_
    obtain ⟨j1, j2⟩ := (q a (some u) C).2 u rfl
    have hu : Ok 40 MM u := okb
    have htu := hu.text
    have hah : Ok LL MM (TM.ahead y u) := TM.ok_ahead (y := y) hu (by show y.length + 40 ≤ 82; omega)
    walk_at "r"
    refine wp_call hW ?_
    walk_at "r"
    refine wp_call hW ?_
    walk_at "r"
    refine wr_ixT (d := encO (some u)) rfl ?_
    walk_at "r"
    refine ⟨rfl, some u, y, rfl, by omega, fun t e => by cases e; omega, ?_⟩
    walk_at "r"
    exact ⟨rfl, o, some (TM.ahead y u), rfl, hO2, hah, by decide, fun z hz => by have := okO_len hO hz; omega, j1, j2⟩
end
def S_put (n : Nat) : Spc := fun ds μ k ex => ∃ (o : Option Tr) (x : Tx) (v : Int), ds = [encO o, .str x, .int v] ∧ OkO LL MM o ∧ x.length ≤ 1000 ∧ depthO o + 1 ≤ n ∧ ∀ t', Wf t' → (∀ y, get t' y = if y = x then some v else getO o y) → k (encT t') μ
theorem zero_put (ds : List Dv) (μ : DMem) (kk : Dv → DMem → Prop) (ex : Str → DMem → Prop) : ¬ S_put 0 ds μ kk ex := fun ⟨_, _, _, _, _, _, h, _⟩ => by omega
theorem behind_leaf (x : Tx) (v : Int) (i : Nat) : behindT (.leaf x v) i = ((x.drop i).take 1, .leaf (x.drop (i + 1)) v) := rfl
section
variable {P : Program} {w : World} {K : PySem.W.Frag} {mg : Str → Option Value} {base : Heap} {k : Nat}
theorem scN_put : FnScope ["tree", "name", "number", "shared", "size", "one", "other", "sign", "grown"] ["tree", "name", "number"] (defScope s_put) := ⟨rfl, rfl, rfl, by decide +kernel, rfl, by decide +kernel, by decide +kernel⟩
theorem ok_put {f : Addr} {fd : FuncData} {n : Nat} (F : Fun K "put" "put" s_put f fd) (D_with_branch : Df P w K mg base k "with_branch" ["branches", "sign", "tree"] S_with_branch) (D_put : Df P w K mg base k "put" ["tree", "name", "number"] (S_put n)) (D_branch_of : Df P w K mg base k "branch_of" ["branches", "sign"] S_branch_of) (M_len : mg "len" = none) (D_behind : Df P w K mg base k "behind" ["tree", "size"] S_behind) (D_common : Df P w K mg base k "common" ["one", "other"] S_common) : FnD P w K mg base (k + 1) f fd ["tree", "name", "number"] (spOf K mg 3 (S_put (n + 1))) := by
  refine okD F scN_put (fun cdv A outer s H E hr => ⟨_, (pss_cons (ps_if (pt_cmpR op_isU (pv 0) pe_non (nomark _)) (pss_one (ps_ret (pe_tup (pa_cons pe_str (pa_cons (pv 1) (pa_cons (pv 2) pa_nil)))))) pss_nil)
      (pss_cons (ps_if (PW.pt (pw_and (pt_cmpR (op_eqK (K := K) rfl hr.units) (pe_ix (ix_K (K := K) rfl) (pv 0) pe_int (fun _ _ => rfl)) pe_str (nomark _)) (pw_and1 (pt_cmpR (op_eqK (K := K) rfl hr.units) (pe_ix (ix_K (K := K) rfl) (pv 0) pe_int (fun _ _ => rfl)) (pv 1) (nomark _))))) (pss_one (ps_ret (pe_tup (pa_cons pe_str (pa_cons (pv 1) (pa_cons (pv 2) pa_nil)))))) pss_nil)
      (pss_cons (ps_set (i := 3) scN_put.nd rfl (Or.inl rfl) (pe_dfK D_common ⟨rfl, rfl, rfl, rfl, rfl⟩ hr (takes_of rfl rfl rfl rfl) rfl (pa_cons (pe_ix (ix_K (K := K) rfl) (pv 0) pe_int (fun _ _ => rfl)) (pa_cons (pv 1) pa_nil))))
      (pss_cons (ps_set (i := 4) scN_put.nd rfl (Or.inl rfl) (pe_callB (call_lenK (K := K) rfl) (by rfl) M_len PySem.boot_len (pa_cons (pv 3) pa_nil)))
      (pss_cons (ps_if (PW.pt (pw_or (pt_cmpR (op_eqK (K := K) rfl hr.units) (pe_ix (ix_K (K := K) rfl) (pv 0) pe_int (fun _ _ => rfl)) pe_str (nomark _)) (pw_or1 (pt_cmpR op_ltU (pv 4) (pe_callB (call_lenK (K := K) rfl) (by rfl) M_len PySem.boot_len (pa_cons (pe_ix (ix_K (K := K) rfl) (pv 0) pe_int (fun _ _ => rfl)) pa_nil)) (nomark _))))) (pss_cons (ps_set (i := 5) scN_put.nd rfl (Or.inl rfl) (pe_dfK D_behind ⟨rfl, rfl, rfl, rfl, rfl⟩ hr (takes_of rfl rfl rfl rfl) rfl (pa_cons (pv 0) (pa_cons (pv 4) pa_nil))))
      (pss_cons (ps_set (i := 6) scN_put.nd rfl (Or.inl rfl) (pe_dfK D_behind ⟨rfl, rfl, rfl, rfl, rfl⟩ hr (takes_of rfl rfl rfl rfl) rfl (pa_cons (pe_tup (pa_cons pe_str (pa_cons (pv 1) (pa_cons (pv 2) pa_nil)))) (pa_cons (pv 4) pa_nil))))
      (pss_cons (ps_if (pt_cmpR op_ltU (pe_ix (ix_K (K := K) rfl) (pv 5) pe_int (fun _ _ => rfl)) (pe_ix (ix_K (K := K) rfl) (pv 6) pe_int (fun _ _ => rfl)) (nomark _)) (pss_one (ps_ret (pe_tup (pa_cons pe_str (pa_cons (pv 3) (pa_cons (pe_tup (pa_cons (pv 5) (pa_cons (pv 6) pa_nil))) pa_nil)))))) pss_nil)
      (pss_one (ps_ret (pe_tup (pa_cons pe_str (pa_cons (pv 3) (pa_cons (pe_tup (pa_cons (pv 6) (pa_cons (pv 5) pa_nil))) pa_nil))))))))) pss_nil)
      (pss_cons (ps_set (i := 7) scN_put.nd rfl (Or.inl rfl) (pe_slice (sl_K (K := K) rfl) (pv 1) (po_some (pv 4)) (po_some (pe_op (op_addK (K := K) rfl) (pv 4) pe_int))))
      (pss_cons (ps_set (i := 8) scN_put.nd rfl (Or.inl rfl) (pe_dfK D_put ⟨rfl, rfl, rfl, rfl, rfl⟩ hr (takes_of rfl rfl rfl rfl) rfl (pa_cons (pe_dfK D_branch_of ⟨rfl, rfl, rfl, rfl, rfl⟩ hr (takes_of rfl rfl rfl rfl) rfl (pa_cons (pe_ix (ix_K (K := K) rfl) (pv 0) pe_int (fun _ _ => rfl)) (pa_cons (pv 7) pa_nil))) (pa_cons (pe_slice (sl_K (K := K) rfl) (pv 1) (po_some (pe_op (op_addK (K := K) rfl) (pv 4) pe_int)) po_none) (pa_cons (pv 2) pa_nil)))))
      (pss_one (ps_ret (pe_tup (pa_cons pe_str (pa_cons (pv 3) (pa_cons (pe_dfK D_with_branch ⟨rfl, rfl, rfl, rfl, rfl⟩ hr (takes_of rfl rfl rfl rfl) rfl (pa_cons (pe_ix (ix_K (K := K) rfl) (pv 0) pe_int (fun _ _ => rfl)) (pa_cons (pv 7) (pa_cons (pv 8) pa_nil)))) pa_nil))))))))))))), ?_⟩)
  try dsimp only [cxOf]
  intro H0 ds μ kk ex hW h
  obtain ⟨o, x, v, rfl, hO, hx, hd, q⟩ := h
  walk_at "r0"
  rw [isNon_encO]
  cases o with
  | none =>
    refine iteT ?_
    walk_at "r"
    refine q (.leaf x v) (wf_leaf x v) fun y => ?_
    rw [get_leaf]
    rfl
  | some t =>
  refine iteF ?_
  have hok : Ok LL MM t := hO
  have hT : (text t).length ≤ 300 := Nat.le_trans hok.text (by decide)
  have q : ∀ t', Wf t' → (∀ y, get t' y = if y = x then some v else get t y) → kk (encT t') μ := q
  refine wp_next ?_
  refine wp_mid (fun ρ' μ' => μ' = μ ∧ ρ' = [some (encT t), some (.str x), some (.int v), none, none, none, none, none, none] ∧ (isLeaf t = true → text t ≠ x)) ?_ ?_
  · cases t with
    | leaf r m =>
      walk_at "r"
      refine wr_tag ?_
      unfold tagD
      walk_at "r"
      refine ite_leaf ?_
      walk_at "r"
      refine wr_text ?_
      walk_at "r"
      refine iteD (fun c => ?_) (fun c => ?_)
      · have c' : r = x := c
        walk_at "r"
        refine q (.leaf x v) (wf_leaf x v) fun y => ?_
        rw [get_leaf, get_leaf, c']
        split <;> rfl
      · walk_at "r"
        exact ⟨rfl, rfl, fun _ => c⟩
    | fork s bs =>
      walk_at "r"
      refine wr_tag ?_
      unfold tagD
      walk_at "r"
      refine ite_fork ?_
      refine iteF ?_
      walk_at "r"
      exact ⟨rfl, rfl, fun z => nomatch z⟩
  rintro ρ' μ' ⟨rfl, rfl, hl⟩
  walk_at "r"
  refine wp_call hW ?_
  walk_at "r"
  refine wr_text ?_
  walk_at "r"
  refine ⟨rfl, text t, x, rfl, by omega, hx, ?_⟩
  have l1 := (lcp_pre1 (text t) x).length_le
  have l2 := (lcp_pre2 (text t) x).length_le
  have wl := wf_leaf x v
  cases t with
  | leaf r m =>
    walk_at "r"
    refine wr_tag ?_
    unfold tagD
    walk_at "r"
    refine ite_leaf ?_
    refine iteT ?_
    have eb : bb (.leaf r m) (lcp (text (.leaf r m)) x).length = [behindT (.leaf r m) (lcp (text (.leaf r m)) x).length] := rfl
    have al := put_alone hok.wf hl eb
    have so := (behind_ok (t := .leaf x v) (k := (lcp (text (.leaf r m)) x).length) wl (.inr ⟨rfl, l2⟩)).1
    have pk := put_ok (g := .leaf (x.drop ((lcp (text (.leaf r m)) x).length + 1)) v) hok.wf (wf_leaf _ _) hl so fun y => by rw [al, get_leaf]; rfl
    have qq := q _ pk.1 pk.2
    have ne : (behindT (.leaf r m) (lcp (text (.leaf r m)) x).length).1 ≠ (x.drop (lcp (text (.leaf r m)) x).length).take 1 := fun z => by
      have := brOf_none al (behindT (.leaf r m) (lcp (text (.leaf r m)) x).length) (by rw [eb]; exact List.mem_singleton.mpr rfl)
      exact this z
    rw [eb, withB_pair _ _ _ ne, encT_fork] at qq
    walk_at "r"
    refine wp_call hW ?_
    walk_at "r"
    refine ⟨rfl, .leaf r m, _, rfl, by omega, ?_⟩
    walk_at "r"
    refine wp_call hW ?_
    walk_at "r"
    refine ⟨rfl, .leaf x v, _, by rw [encT_leaf]; rfl, hx, ?_⟩
    rw [behind_leaf]
    walk_at "r"
    refine wr_ixT (d := .str (behindT (.leaf r m) (lcp (text (.leaf r m)) x).length).1) rfl ?_
    walk_at "r"
    refine wr_ixT (d := .str ((x.drop (lcp (text (.leaf r m)) x).length).take 1)) rfl ?_
    walk_at "r"
    refine iteD (fun c => ?_) (fun c => ?_)
    · rw [if_pos c] at qq
      walk_at "r"
      exact qq
    · rw [if_neg c] at qq
      walk_at "r"
      exact qq
  | fork s bs =>
    have hs : s.length ≤ 300 := hT
    have hlb : bs.length ≤ 20000 := hok.len
    have hdep : depthO (some (Tr.fork s bs)) = depth (.fork s bs) := rfl
    walk_at "r"
    refine wr_tag ?_
    unfold tagD
    walk_at "r"
    refine ite_fork ?_
    walk_at "r"
    refine wr_text ?_
    walk_at "r"
    refine iteD (fun c2 => ?_) (fun c2 => ?_)
    · have eb : bb (.fork s bs) (lcp (text (.fork s bs)) x).length = [behindT (.fork s bs) (lcp (text (.fork s bs)) x).length] := if_neg (by show ¬ s.length = _; have : (text (.fork s bs)).length = s.length := rfl; omega)
      have al := put_alone hok.wf hl eb
      have so := (behind_ok (t := .leaf x v) (k := (lcp (text (.fork s bs)) x).length) wl (.inr ⟨rfl, l2⟩)).1
      have pk := put_ok (g := .leaf (x.drop ((lcp (text (.fork s bs)) x).length + 1)) v) hok.wf (wf_leaf _ _) hl so fun y => by rw [al, get_leaf]; rfl
      have qq := q _ pk.1 pk.2
      have ne : (behindT (.fork s bs) (lcp (text (.fork s bs)) x).length).1 ≠ (x.drop (lcp (text (.fork s bs)) x).length).take 1 := fun z => by
        have := brOf_none al (behindT (.fork s bs) (lcp (text (.fork s bs)) x).length) (by rw [eb]; exact List.mem_singleton.mpr rfl)
        exact this z
      rw [eb, withB_pair _ _ _ ne, encT_fork] at qq
      walk_at "r"
      refine wp_call hW ?_
      walk_at "r"
      refine ⟨rfl, .fork s bs, _, rfl, by omega, ?_⟩
      walk_at "r"
      refine wp_call hW ?_
      walk_at "r"
      refine ⟨rfl, .leaf x v, _, by rw [encT_leaf]; rfl, hx, ?_⟩
      rw [behind_leaf]
      walk_at "r"
      refine wr_ixT (d := .str (behindT (.fork s bs) (lcp (text (.fork s bs)) x).length).1) rfl ?_
      walk_at "r"
      refine wr_ixT (d := .str ((x.drop (lcp (text (.fork s bs)) x).length).take 1)) rfl ?_
      walk_at "r"
      refine iteD (fun c => ?_) (fun c => ?_)
      · rw [if_pos c] at qq
        walk_at "r"
        exact qq
      · rw [if_neg c] at qq
        walk_at "r"
        exact qq
    · refine wp_next ?_
      have es : (lcp (text (.fork s bs)) x).length = s.length := by have : (text (.fork s bs)).length = s.length := rfl; omega
      have eb : bb (.fork s bs) s.length = bs := if_pos rfl
      have pf := pf_of hok.wf
      have hds := depthO_sub (s := s) (bs := bs) ((x.drop s.length).take 1)
      rw [es]
      walk_at "r"
      rw [cutL_at]
      walk_at "r"
      refine wp_call hW ?_
      walk_at "r"
      refine wp_call hW ?_
      walk_at "r"
      refine wr_third ?_
      walk_at "r"
      refine ⟨rfl, bs, _, rfl, ?_⟩
      walk_at "r"
      rw [cutL_after]
      walk_at "r"
      refine ⟨rfl, brOf bs ((x.drop s.length).take 1), _, v, rfl, okO_br hok _, by rw [List.length_drop]; omega, by omega, fun g hg eg => ?_⟩
      have so : SignOk ((x.drop s.length).take 1, g) := put_sign (z := x.drop s.length) (o := brOf bs ((x.drop s.length).take 1)) hg rfl (fun u hu => (pf.2.1 _ (brOf_mem hu)).1) fun y => by rw [List.drop_drop]; exact eg y
      have pk := put_ok (x := x) (v := v) (g := g) hok.wf hg hl (by rw [es]; exact so) fun y => by
        rw [es, eb, eg]
        cases brOf bs ((x.drop s.length).take 1) <;> rfl
      rw [es, eb] at pk
      have qq := q _ pk.1 pk.2
      rw [encT_fork] at qq
      walk_at "r"
      refine wp_call hW ?_
      walk_at "r"
      refine wr_third ?_
      walk_at "r"
      refine ⟨rfl, bs, _, some g, rfl, by omega, ?_⟩
      walk_at "r"
      exact qq
end
theorem namesO_len {o : Option Tr} (h : OkO LL MM o) : (namesO o).length ≤ 20000 := by
  cases o with
  | none => simp [namesO]
  | some t => exact Ok.nm (t := t) h
theorem namesO_row {o : Option Tr} (h : OkO LL MM o) {r : Rw} (hr : r ∈ namesO o) : r.1.length ≤ 300 := by
  cases o with
  | none => cases hr
  | some t =>
    have h' : Ok LL MM t := h
    exact Nat.le_trans (h'.ln r.1 (by rw [(mem_names t h'.wf r.1 r.2).mp hr]; exact fun z => by cases z)) (by decide)
section
variable {P : Program} {w : World} {K : PySem.W.Frag} {mg : Str → Option Value} {base : Heap} {k : Nat}
theorem scN_under : FnScope ["tree", "beginning", "pair"] ["tree", "beginning"] (defScope s_under) := ⟨rfl, rfl, rfl, by decide +kernel, rfl, by decide +kernel, by decide +kernel⟩
theorem ok_under {f : Addr} {fd : FuncData} (F : Fun K "under" "under" s_under f fd) (D_names : Df P w K mg base k "names" ["tree"] (S_names 84)) (D_cut : Df P w K mg base k "cut" ["tree", "beginning"] (S_cut 84)) : FnD P w K mg base (k + 1) f fd ["tree", "beginning"] (spOf K mg 2 S_under) := by
  refine okD F scN_under (fun cdv A outer s H E hr => ⟨_, (pss_one (ps_ret (pe_lc (own := [("pair", 2)]) (g := gName 2) rfl scN_under.nd (pi_seqK (K := K) rfl (pe_dfK D_names ⟨rfl, rfl, rfl, rfl, rfl⟩ hr (takes_of rfl rfl rfl rfl) rfl (pa_cons (pe_ix (ix_K (K := K) rfl) (pe_dfK D_cut ⟨rfl, rfl, rfl, rfl, rfl⟩ hr (takes_of rfl rfl rfl rfl) rfl (pa_cons (pv 0) (pa_cons (pv 1) pa_nil))) pe_int (fun _ _ => rfl)) pa_nil))) (blkOk_by (own := [("pair", 2)]) (N := ["tree", "beginning", "pair"]) (sc := defScope s_under) (by decide +kernel)) (fun _ _ _ _ _ => pg_name (i := 2) scN_under.nd rfl (Or.inl rfl)) (fun _ _ _ _ _ => pts_nil) (fun _ _ _ _ _ => (pe_tup (pa_cons (pe_op (op_addK (K := K) rfl) (pv 1) (pe_ix (ix_K (K := K) rfl) (pv 2) pe_int (fun _ _ => rfl))) (pa_cons (pe_ix (ix_K (K := K) rfl) (pv 2) pe_int (fun _ _ => rfl)) pa_nil))))))), ?_⟩)
  try dsimp only [cxOf]
  intro H0 ds μ kk ex hW h
  obtain ⟨o, x, rfl, hO, hx, q⟩ := h
  walk_at "env"
  refine wp_ret (wp_lcC (wi_seq (wp_cool (wp_call hW ?_))))
  walk_at "r"
  refine wp_call hW ?_
  walk_at "r"
  refine ⟨rfl, o, x, rfl, hO, hx, depthO_le hO, fun a b C => ?_⟩
  walk_at "r"
  refine wr_ixT (d := encO b) rfl ?_
  walk_at "r"
  have okb := C.okb hO
  have hlb := namesO_len okb
  refine ⟨rfl, b, rfl, okb, depthO_le okb, fun pb => ⟨_, _, _, rfl, rfl, ?_⟩⟩
  refine ⟨_, .inl rfl, (namesO b).map (fun r => encR (x ++ r.1, r.2)), lc_all (g := fun r : Rw => encR (x ++ r.1, r.2)) (sz_le (by omega)) (fun r hr μ' => ?_), fun p => ?_⟩
  · have hrl := namesO_row okb hr
    walk_at "set"
    unfold encR
    walk_at "r"
    refine wr_ixT (d := .str r.1) rfl ?_
    walk_at "r"
    refine wr_ixT (d := .int r.2) rfl ?_
    walk_at "r"
    exact ⟨rfl, rfl⟩
  · have := q p
    rw [← under_eq hO.wf C.wb C.vb, List.map_map] at this
    exact this
end
section
variable {P : Program} {w : World} {K : PySem.W.Frag} {mg : Str → Option Value} {base : Heap} {k : Nat}
theorem scN_many : FnScope ["tree", "beginning"] ["tree", "beginning"] (defScope s_many) := ⟨rfl, rfl, rfl, by decide +kernel, rfl, by decide +kernel, by decide +kernel⟩
theorem ok_many {f : Addr} {fd : FuncData} (F : Fun K "many" "many" s_many f fd) (M_len : mg "len" = none) (D_under : Df P w K mg base k "under" ["tree", "beginning"] S_under) : FnD P w K mg base (k + 1) f fd ["tree", "beginning"] (spOf K mg 2 S_many) := by
  refine okD F scN_many (fun cdv A outer s H E hr => ⟨_, (pss_one (ps_ret (pe_callB (call_lenK (K := K) rfl) (by rfl) M_len PySem.boot_len (pa_cons (pe_dfK D_under ⟨rfl, rfl, rfl, rfl, rfl⟩ hr (takes_of rfl rfl rfl rfl) rfl (pa_cons (pv 0) (pa_cons (pv 1) pa_nil))) pa_nil)))), ?_⟩)
  try dsimp only [cxOf]
  intro H0 ds μ kk ex hW h
  obtain ⟨o, x, rfl, hO, hx, q⟩ := h
  walk_at "env"
  refine wp_ret (wp_cb (wp_cons (wp_cool (wp_call hW ?_))))
  walk_at "r"
  refine ⟨rfl, o, x, rfl, hO, hx, fun p => ⟨_, _, _, rfl, rfl, ?_⟩⟩
  walk_at "r"
  rw [List.length_map]
  exact q
end
/-! ### names -/
def okc (c : Nat) : Bool := decide (32 ≤ c) && (decide (c ≤ 126) && !decide (c = 37))
def nameB (x : Tx) : Bool := decide (x.length ≤ 40) && x.all okc
theorem nameB_len {x : Tx} (h : nameB x = true) : x.length ≤ 40 := by
  unfold nameB at h
  rw [Bool.and_eq_true, decide_eq_true_eq] at h
  exact h.1
def S_is_sign : Spc := fun ds μ k ex => ∃ c : Nat, ds = [.str [c]] ∧ k (.bl (okc c)) μ
def S_is_name : Spc := fun ds μ k ex => (∃ x : Tx, ds = [.str x] ∧ x.length ≤ 100000 ∧ k (.bl (nameB x)) μ) ∨ (∃ d, ds = [d] ∧ IsiC μ d "str" false ∧ k (.bl false) μ)
theorem all_take {x : Tx} {i c : Nat} (h : (x.take i).all okc = true) (e : x[i]? = some c) (hc : okc c = true) : (x.take (i + 1)).all okc = true := by
  rw [List.take_succ, e]
  simp [List.all_append, h, hc]
theorem all_not {x : Tx} {i c : Nat} (e : x[i]? = some c) (hc : okc c = false) : x.all okc = false := by
  rw [List.all_eq_false]
  exact ⟨c, List.mem_of_getElem? e, by rw [hc]; simp⟩
section
variable {P : Program} {w : World} {K : PySem.W.Frag} {mg : Str → Option Value} {base : Heap} {k : Nat}
theorem scN_is_sign : FnScope ["sign", "code"] ["sign"] (defScope s_is_sign) := ⟨rfl, rfl, rfl, by decide +kernel, rfl, by decide +kernel, by decide +kernel⟩
theorem ok_is_sign {f : Addr} {fd : FuncData} (F : Fun K "is_sign" "is_sign" s_is_sign f fd) (M_ord : mg "ord" = none) : FnD P w K mg base (k + 1) f fd ["sign"] (spOf K mg 1 S_is_sign) := by
  refine okD F scN_is_sign (fun cdv A outer s H E hr => ⟨_, (pss_cons (ps_set (i := 1) scN_is_sign.nd rfl (Or.inl rfl) (pe_callB call_ordU (by rfl) M_ord (by decide +kernel) (pa_cons (pv 0) pa_nil)))
      (pss_one (ps_ret (pe_and (pe_cmpR op_leU pe_int (pv 1) (nomark _)) (pe_and (pe_cmpR op_leU (pv 1) pe_int (nomark _)) (pe_one (pe_cmpR (op_neK (K := K) rfl hr.units) (pv 1) pe_int (nomark _)))))))), ?_⟩)
  try dsimp only [cxOf]
  intro H0 ds μ kk ex hW h
  obtain ⟨c, rfl, q⟩ := h
  walk_at "r0"
  unfold okc at q
  refine iteD (fun c1 => ?_) (fun c1 => ?_)
  · rw [decide_eq_true (by omega : 32 ≤ c), Bool.true_and] at q
    walk_at "r"
    refine iteD (fun c2 => ?_) (fun c2 => ?_)
    · rw [decide_eq_true (by omega : c ≤ 126), Bool.true_and] at q
      walk_at "r"
      have e : decide ((c : Int) = 37) = decide (c = 37) := by
        by_cases h : c = 37
        · simp [h]
        · have : ¬ ((c : Int) = 37) := by omega
          simp [h, this]
      rw [e]
      exact q
    · rw [decide_eq_false (by omega : ¬ c ≤ 126), Bool.false_and] at q
      exact q
  · rw [decide_eq_false (by omega : ¬ 32 ≤ c), Bool.false_and] at q
    exact q
theorem scN_is_name : FnScope ["thing", "sign"] ["thing"] (defScope s_is_name) := ⟨rfl, rfl, rfl, by decide +kernel, rfl, by decide +kernel, by decide +kernel⟩
theorem ok_is_name {f : Addr} {fd : FuncData} (F : Fun K "is_name" "is_name" s_is_name f fd) (D_is_sign : Df P w K mg base k "is_sign" ["sign"] S_is_sign) (M_len : mg "len" = none) {t_MOST_SIGNS : Tok} (G_MOST_SIGNS : True ∧ mg "MOST_SIGNS" = some (Value.int 40 t_MOST_SIGNS)) (M_isinstance : mg "isinstance" = none) (M_str : mg "str" = none) : FnD P w K mg base (k + 1) f fd ["thing"] (spOf K mg 1 S_is_name) := by
  refine okD F scN_is_name (fun cdv A outer s H E hr => ⟨_, (pss_cons (ps_if (PW.pt (pw_or (pt_not (pt_val (pe_callB (call_isiK' (K := K) rfl) (by rfl) M_isinstance (by decide +kernel) (pa_cons (pv 0) (pa_cons (pe_bltn (v := .ty "str") (by rfl) M_str (by decide +kernel) rfl) pa_nil))))) (pw_or1 (pt_cmpR op_gtU (pe_callB (call_lenK (K := K) rfl) (by rfl) M_len PySem.boot_len (pa_cons (pv 0) pa_nil)) (pe_glob (v := .int 40) (by rfl) G_MOST_SIGNS.2 ⟨_, rfl⟩) (nomark _))))) (pss_one (ps_ret pe_bl)) pss_nil)
      (pss_cons (ps_for (passes_of rfl) rfl (pi_str (pv 0)) (pg_name (i := 1) scN_is_name.nd rfl (Or.inl rfl)) (pss_one (ps_if (pt_not (pt_val (pe_dfK D_is_sign ⟨rfl, rfl, rfl, rfl, rfl⟩ hr (takes_of rfl rfl rfl rfl) rfl (pa_cons (pv 1) pa_nil)))) (pss_one (ps_ret pe_bl)) pss_nil)))
      (pss_one (ps_ret pe_bl)))), ?_⟩)
  try dsimp only [cxOf]
  intro H0 ds μ kk ex hW h
  rcases h with ⟨x, rfl, hx, q⟩ | ⟨d, rfl, hd, q⟩
  · walk_at "env"
    refine wp_seq (wp_if (wp_or (wp_not (wp_test (wp_isiC (by decide) ?_)))))
    walk_at "r"
    refine ⟨true, .inl (.inl rfl), _, rfl, iteF ?_⟩
    walk_at "r"
    refine iteD (fun c => ?_) (fun c => ?_)
    · walk_at "r"
      have e : nameB x = false := by
        unfold nameB
        rw [decide_eq_false (by omega : ¬ x.length ≤ 40), Bool.false_and]
      rw [e] at q
      exact q
    · refine wp_next ?_
      refine wp_seq (wp_for (wi_str ?_))
      walk_at "r"
      refine ⟨x, rfl, fun i ρ' μ' => μ' = μ ∧ (∃ z : Option Dv, ρ' = [some (.str x), z]) ∧ (x.take i).all okc = true, ⟨rfl, ⟨_, rfl⟩, by simp⟩, ?_, ?_⟩
      · rintro i d ρ' μ' hd ⟨rfl, ⟨z, rfl⟩, ha⟩
        rw [List.getElem?_map] at hd
        cases e : x[i]? with
        | none => rw [e] at hd; cases hd
        | some ch =>
          rw [e] at hd
          cases hd
          walk_at "set"
          refine wp_if (wp_not (wp_test (wp_call hW ?_)))
          walk_at "r"
          refine ⟨rfl, ch, rfl, _, rfl, ?_⟩
          cases hc : okc ch with
          | true =>
            refine iteF ?_
            refine wp_next ?_
            exact ⟨rfl, ⟨_, rfl⟩, all_take ha e hc⟩
          | false =>
            refine iteT ?_
            walk_at "r"
            have e2 : nameB x = false := by
              unfold nameB
              rw [all_not e hc, Bool.and_false]
            rw [e2] at q
            exact q
      · rintro ρ' μ' ⟨rfl, ⟨z, rfl⟩, ha⟩
        rw [List.length_map, List.take_length] at ha
        walk_at "r"
        have e : nameB x = true := by
          unfold nameB
          rw [ha, decide_eq_true (by omega : x.length ≤ 40)]
          rfl
        rw [e] at q
        exact q
  · walk_at "env"
    refine wp_seq (wp_if (wp_or (wp_not (wp_test (wp_isiC (by decide) ?_)))))
    walk_at "r"
    refine ⟨false, hd, _, rfl, iteT ?_⟩
    refine iteT ?_
    walk_at "r"
    exact q
end
/-! ### the trail -/
def tfs (g p : Dv) : List (Str × Dv) := [(("grown" : Str), g), (("past" : Str), p)]
theorem put_g (d : Dv) : putD "grown" d [] = ([(("grown" : Str), d)] : List (Str × Dv)) := rfl
theorem put_p (g p : Dv) : putD "past" p ([(("grown" : Str), g)] : List (Str × Dv)) = tfs g p := by
  show (if ("grown" : Str) = "past" then _ else (("grown" : Str), g) :: putD "past" p []) = _
  rw [if_neg (by decide +kernel)]
  rfl
theorem lk_g (g p : Dv) : (tfs g p).lookup ("grown" : Str) = some g := by
  unfold tfs
  rw [List.lookup_cons, show (("grown" : Str) == "grown") = true by decide +kernel]
theorem lk_p (g p : Dv) : (tfs g p).lookup ("past" : Str) = some p := by
  unfold tfs
  rw [List.lookup_cons, show (("past" : Str) == "grown") = false by decide +kernel, List.lookup_cons, show (("past" : Str) == "past") = true by decide +kernel]
theorem lk_no {m : Str} (g p : Dv) (h1 : (m == "grown") = false) (h2 : (m == "past") = false) : (tfs g p).lookup m = none := by
  unfold tfs
  rw [List.lookup_cons, h1, List.lookup_cons, h2]
  rfl
/-- a name, or a thing that is none -/
def Thg (μ : DMem) (d : Dv) (yes no : Prop) : Prop := (∃ x : Tx, d = .str x ∧ x.length ≤ 100000 ∧ (nameB x = true → yes) ∧ (nameB x = false → no)) ∨ (IsiC μ d "str" false ∧ no)
theorem IsiC.more {μ : DMem} {d : Dv} {T : String} {r : Bool} {c : Addr × DCell} (h : IsiC μ d T r) : IsiC (c :: μ) d T r := by
  rcases h with (h | ⟨ds, h | ⟨p, h, hm⟩, e⟩) | ⟨p, kvs, h, hm, e⟩
  · exact .inl (.inl h)
  · exact .inl (.inr ⟨ds, .inl h, e⟩)
  · exact .inl (.inr ⟨ds, .inr ⟨p, h, List.mem_cons_of_mem _ hm⟩, e⟩)
  · exact .inr ⟨p, kvs, h, List.mem_cons_of_mem _ hm, e⟩
def S_need_name : Spc := fun ds μ k ex => ∃ d, ds = [d] ∧ Thg μ d (k .non μ) (ex "NoName" μ)
def S_Trail___init__ (C : Addr) : Spc := fun ds μ k ex => ∃ (a dx : Addr) (μ0 : DMem), ds = [.ref a] ∧ μ = (a, .ins C dx []) :: (dx, .own a) :: μ0 ∧ ∀ p, k .non ((p, .lst []) :: (a, .ins C dx (tfs .non (.ref p))) :: (dx, .own a) :: μ0)
section
variable {P : Program} {w : World} {K : PySem.W.Frag} {mg : Str → Option Value} {base : Heap} {k : Nat}
theorem scN_need_name : FnScope ["thing"] ["thing"] (defScope s_need_name) := ⟨rfl, rfl, rfl, by decide +kernel, rfl, by decide +kernel, by decide +kernel⟩
theorem ok_need_name {f : Addr} {fd : FuncData} (F : Fun K "need_name" "need_name" s_need_name f fd) (D_is_name : Df P w K mg base k "is_name" ["thing"] S_is_name) {C_NoName : Addr} (R_NoName : RaiseOk K mg "NoName" C_NoName) : FnD P w K mg base (k + 1) f fd ["thing"] (spOf K mg 1 S_need_name) := by
  refine okD F scN_need_name (fun cdv A outer s H E hr => ⟨_, (pss_one (ps_if (pt_not (pt_val (pe_dfK D_is_name ⟨rfl, rfl, rfl, rfl, rfl⟩ hr (takes_of rfl rfl rfl rfl) rfl (pa_cons (pv 0) pa_nil)))) (pss_one (ps_raise rfl (takes_of rfl rfl rfl rfl) (pmk_own PySem.F.excBase_ValueError R_NoName.1 R_NoName.2.1 R_NoName.2.2.1 (raises_own R_NoName.2.2.2.1 R_NoName.2.2.2.2) rfl))) pss_nil)), ?_⟩)
  try dsimp only [cxOf]
  intro H0 ds μ kk ex hW h
  obtain ⟨d, rfl, h⟩ := h
  walk_at "env"
  refine wp_if (wp_not (wp_test (wp_call hW ?_)))
  walk_at "r"
  rcases h with ⟨x, rfl, hx, q1, q2⟩ | ⟨hd, q⟩
  · refine ⟨rfl, .inl ⟨x, rfl, hx, _, rfl, ?_⟩⟩
    cases e : nameB x with
    | true =>
      refine iteF ?_
      refine wp_next ?_
      exact q1 e
    | false =>
      refine iteT ?_
      exact wp_raise hW R_NoName.2.1 (q2 e)
  · refine ⟨rfl, .inr ⟨d, rfl, hd, _, rfl, iteT ?_⟩⟩
    exact wp_raise hW R_NoName.2.1 q
theorem scN_Trail___init__ : FnScope ["self"] ["self"] (defScope s_Trail___init__) := ⟨rfl, rfl, rfl, by decide +kernel, rfl, by decide +kernel, by decide +kernel⟩
theorem ok_Trail___init__ {f : Addr} {fd : FuncData} (F : Fun K "__init__" "Trail.__init__" s_Trail___init__ f fd) {C_Trail : Addr} (O_Trail : OCls K mg "Trail" C_Trail) (A_past : NoAttr K C_Trail "past") (A_grown : NoAttr K C_Trail "grown") : FnD P w K mg base (k + 1) f fd ["self"] (spOf K mg 1 (S_Trail___init__ C_Trail)) := by
  refine okD F scN_Trail___init__ (fun cdv A outer s H E hr => ⟨_, (pss_cons (ps_fldK (K := K) rfl (pv 0) pe_non rfl)
      (pss_one (ps_fldK (K := K) rfl (pv 0) (pe_lst pa_nil) rfl))), ?_⟩)
  try dsimp only [cxOf]
  intro H0 ds μ kk ex hW h
  obtain ⟨a, dx, μ0, rfl, rfl, q⟩ := h
  walk_at "env"
  refine wp_seq (wp_sfld (wp_non (wp_var rfl ⟨a, [], C_Trail, dx, [], _, rfl, rfl, O_Trail.cl, A_grown, by decide, ?_⟩)))
  rw [put_g]
  refine wp_sfld (wp_lstC (wp_nil ⟨sz_le (by decide), fun p => wp_var rfl ⟨a, [(p, .lst [])], C_Trail, dx, _, _, rfl, rfl, O_Trail.cl, A_past, by decide, ?_⟩⟩))
  rw [put_p]
  exact q p
end
/-! ### a trail's state and its deeds -/
structure TrOk (o : Option Tr) : Prop where
  ok : OkO 40 MM o
  n : (namesO o).length ≤ 100
  sg : ∀ y, getO o y ≠ none → y.all okc = true
theorem TrOk.big {o : Option Tr} (h : TrOk o) : OkO LL MM o := okO_up h.ok (by decide)
theorem trOk_none : TrOk none := ⟨trivial, Nat.zero_le _, fun y h => absurd rfl h⟩
/-- the trail at a: its tree, and the trees ahead of each deed -/
structure TrA (C a dx p : Addr) (o : Option Tr) (past : List (Option Tr)) (μ : DMem) : Prop where
  ins : (a, DCell.ins C dx (tfs (encO o) (.ref p))) ∈ μ
  lst : (p, DCell.lst (past.map encO)) ∈ μ
theorem TrA.more {C a dx p : Addr} {o : Option Tr} {past : List (Option Tr)} {μ : DMem} {e : Addr × DCell} (h : TrA C a dx p o past μ) : TrA C a dx p o past (e :: μ) := ⟨List.mem_cons_of_mem _ h.ins, List.mem_cons_of_mem _ h.lst⟩
/-- what is no cell of this trail stays -/
def Rs (C a dx p : Addr) (o : Option Tr) (past : List (Option Tr)) (μ μ' : DMem) : Prop := ∀ x ∈ μ, x ≠ (a, DCell.ins C dx (tfs (encO o) (.ref p))) → x ≠ (p, DCell.lst (past.map encO)) → x ∈ μ'
/-- the names' texts -/
theorem keys_le {A B : Option Tr} {z : List Tx} (hA : WfO A) (hB : WfO B) (h : ∀ y, getO A y ≠ none → getO B y ≠ none ∨ y ∈ z) : (namesO A).length ≤ (namesO B).length + z.length := by
  have nd : ((namesO A).map (·.1)).Nodup := List.pairwise_map.mpr ((sr_namesO hA).imp fun h => tx_ne h)
  have key : ∀ x ∈ (namesO A).map (·.1), x ∈ (namesO B).map (·.1) ++ z := fun x hx => by
    obtain ⟨r, hr, rfl⟩ := List.mem_map.mp hx
    have h1 : getO A r.1 ≠ none := by rw [← lk_names hA, mem_lk (sr_namesO hA) (show (r.1, r.2) ∈ namesO A from hr)]; exact fun z => by cases z
    rcases h _ h1 with h2 | h2
    · rw [← lk_names hB] at h2
      cases e : lk (namesO B) r.1 with
      | none => exact absurd e h2
      | some v => exact List.mem_append_left _ (List.mem_map.mpr ⟨_, lk_mem e, rfl⟩)
    · exact List.mem_append_right _ h2
  have go : ∀ {X Y : List Tx}, X.Nodup → (∀ x ∈ X, x ∈ Y) → X.length ≤ Y.length := by
    intro X
    induction X with
    | nil => intros; exact Nat.zero_le _
    | cons a X ih =>
      intro Y hn hs
      obtain ⟨h1, h2⟩ := List.nodup_cons.mp hn
      have ha := hs a List.mem_cons_self
      have := ih (Y := Y.erase a) h2 fun x hx => (List.mem_erase_of_ne (fun e => h1 (by rw [← e]; exact hx))).mpr (hs x (List.mem_cons_of_mem _ hx))
      rw [List.length_erase_of_mem ha] at this
      have := List.length_pos_of_mem ha
      rw [List.length_cons]
      omega
  have := go nd key
  rw [List.length_append, List.length_map, List.length_map] at this
  exact this
/-- a tree whose names are of two others -/
theorem okO_of {o : Option Tr} {n : Nat} (hw : WfO o) (hl : ∀ y, getO o y ≠ none → y.length ≤ 40) (hn : (namesO o).length ≤ n) (h : n ≤ 100) (hs : ∀ y, getO o y ≠ none → y.all okc = true) : TrOk o := by
  refine ⟨?_, by omega, hs⟩
  cases o with
  | none => trivial
  | some t => exact ⟨hw, fun y hy => hl y hy, by have : (TM.names t).length ≤ n := hn; show (TM.names t).length ≤ MM; have : MM = 20000 := rfl; omega⟩
theorem TrOk.len {o : Option Tr} (h : TrOk o) {y : Tx} (hy : getO o y ≠ none) : y.length ≤ 40 := okO_len h.ok hy
def PutD (C a dx p : Addr) (o : Option Tr) (past : List (Option Tr)) (μ : DMem) (o' : Option Tr) (q : DMem → Prop) : Prop := ∀ μ', TrA C a dx p o' (past ++ [o]) μ' → Rs C a dx p o past μ μ' → q μ'
def S_Trail_do (C : Addr) : Spc := fun ds μ k ex => ∃ (a dx p : Addr) (o o' : Option Tr) (past : List (Option Tr)), ds = [.ref a, encO o'] ∧ TrA C a dx p o past μ ∧ past.length ≤ 1000000 ∧ PutD C a dx p o past μ o' (k .non)
def S_Trail_tree (C : Addr) : Spc := fun ds μ k ex => ∃ (a dx p : Addr) (o : Option Tr) (past : List (Option Tr)), ds = [.ref a] ∧ TrA C a dx p o past μ ∧ k (encO o) μ
def S_Trail_size (C : Addr) : Spc := fun ds μ k ex => ∃ (a dx p : Addr) (o : Option Tr) (past : List (Option Tr)), ds = [.ref a] ∧ TrA C a dx p o past μ ∧ TrOk o ∧ k (.int (namesO o).length) μ
def S_Trail_told (C : Addr) : Spc := fun ds μ k ex => ∃ (a dx p : Addr) (o : Option Tr) (past : List (Option Tr)) (d : Dv), ds = [.ref a, d] ∧ TrA C a dx p o past μ ∧ TrOk o ∧
  Thg μ d (∀ x, d = .str x → ∀ q, k (.ref q) ((q, DCell.lst (((namesO o).filter (fun r => decide (x <+: r.1))).map encR)) :: μ)) (ex "NoName" μ)
def S_Trail_back (C : Addr) : Spc := fun ds μ k ex => ∃ (a dx p : Addr) (o : Option Tr) (past : List (Option Tr)), ds = [.ref a] ∧ TrA C a dx p o past μ ∧ (past = [] → ex "NothingDone" μ) ∧
  (∀ ps o', past = ps ++ [o'] → ∀ μ', TrA C a dx p o' ps μ' → Rs C a dx p o past μ μ' → k .non μ')
def S_Trail_keep (C : Addr) : Spc := fun ds μ k ex => ∃ (a dx p : Addr) (o : Option Tr) (past : List (Option Tr)) (d : Dv) (v : Int), ds = [.ref a, d, .int v] ∧ TrA C a dx p o past μ ∧ TrOk o ∧ past.length ≤ 1000000 ∧
  Thg μ d (∀ x, d = .str x → (getO o x = none → (namesO o).length = 100 → ex "TooMany" μ) ∧ ((getO o x = none → (namesO o).length ≠ 100) → ∀ o', TrOk o' → (∀ y, getO o' y = if y = x then some v else getO o y) → PutD C a dx p o past μ o' (k (encI (getO o x))))) (ex "NoName" μ)
def S_Trail_drop (C : Addr) : Spc := fun ds μ k ex => ∃ (a dx p : Addr) (o : Option Tr) (past : List (Option Tr)) (d : Dv), ds = [.ref a, d] ∧ TrA C a dx p o past μ ∧ TrOk o ∧ past.length ≤ 1000000 ∧
  Thg μ d (∀ x, d = .str x → (getO o x = none → ex "NotThere" μ) ∧ (getO o x ≠ none → ∀ o', TrOk o' → (∀ y, getO o' y = if y = x then none else getO o y) → PutD C a dx p o past μ o' (k (encI (getO o x))))) (ex "NoName" μ)
def S_Trail_prune (C : Addr) : Spc := fun ds μ k ex => ∃ (a dx p : Addr) (o : Option Tr) (past : List (Option Tr)) (d : Dv), ds = [.ref a, d] ∧ TrA C a dx p o past μ ∧ TrOk o ∧ past.length ≤ 1000000 ∧
  Thg μ d (∀ x, d = .str x → ∀ a' b, CutOk o x a' b → (b = none → ex "NotThere" μ) ∧ (∀ u, b = some u → TrOk a' → PutD C a dx p o past μ a' (k (.int (namesO b).length)))) (ex "NoName" μ)
/-- the branch that is moved or copied -/
def Brn (o : Option Tr) (μ : DMem) (d e : Dv) (ex : Str → DMem → Prop) (q : Tx → Tx → Option Tr → Tr → Prop) : Prop :=
  Thg μ d (∀ x, d = .str x → Thg μ e (∀ y, e = .str y → ∀ a' b, CutOk o x a' b → (b = none → ex "NotThere" μ) ∧ (∀ u, b = some u → ((∃ r ∈ TM.names u, 40 < y.length + r.1.length) → ex "TooLong" μ) ∧ ((∀ r ∈ TM.names u, y.length + r.1.length ≤ 40) → q x y a' u))) (ex "NoName" μ)) (ex "NoName" μ)
def S_need_branch : Spc := fun ds μ k ex => ∃ (o : Option Tr) (d e : Dv), ds = [encO o, d, e] ∧ TrOk o ∧ Brn o μ d e ex fun x y a' u => k (encT u) μ
def S_Trail_move (C : Addr) : Spc := fun ds μ k ex => ∃ (a dx p : Addr) (o : Option Tr) (past : List (Option Tr)) (d e : Dv), ds = [.ref a, d, e] ∧ TrA C a dx p o past μ ∧ TrOk o ∧ past.length ≤ 1000000 ∧
  Brn o μ d e ex fun x y a' u => ((∃ z, getO a' z ≠ none ∧ getO (some (ahead y u)) z ≠ none) → ex "Taken" μ) ∧ ((∀ z, getO a' z = none ∨ getO (some (ahead y u)) z = none) → ∀ o', TrOk o' → (∀ z, getO o' z = (getO a' z).or (getO (some (ahead y u)) z)) → PutD C a dx p o past μ o' (k (.int (TM.names u).length)))
def S_Trail_graft (C : Addr) : Spc := fun ds μ k ex => ∃ (a dx p : Addr) (o : Option Tr) (past : List (Option Tr)) (d e : Dv), ds = [.ref a, d, e] ∧ TrA C a dx p o past μ ∧ TrOk o ∧ past.length ≤ 1000000 ∧
  Brn o μ d e ex fun x y a' u => ((∃ z, getO o z ≠ none ∧ getO (some (ahead y u)) z ≠ none) → ex "Taken" μ) ∧ ((∀ z, getO o z = none ∨ getO (some (ahead y u)) z = none) →
    (100 < (namesO o).length + (TM.names u).length → ex "TooMany" μ) ∧ ((namesO o).length + (TM.names u).length ≤ 100 → ∀ o', TrOk o' → (∀ z, getO o' z = (getO o z).or (getO (some (ahead y u)) z)) → PutD C a dx p o past μ o' (k (.int (TM.names u).length))))
section
variable {P : Program} {w : World} {K : PySem.W.Frag} {mg : Str → Option Value} {base : Heap} {k : Nat}
theorem scN_Trail_do : FnScope ["self", "tree"] ["self", "tree"] (defScope s_Trail_do) := ⟨rfl, rfl, rfl, by decide +kernel, rfl, by decide +kernel, by decide +kernel⟩
theorem ok_Trail_do {f : Addr} {fd : FuncData} (F : Fun K "do" "Trail.do" s_Trail_do f fd) {C_Trail : Addr} (O_Trail : OCls K mg "Trail" C_Trail) (A_grown : NoAttr K C_Trail "grown") (A_past : NoAttr K C_Trail "past") : FnD P w K mg base (k + 1) f fd ["self", "tree"] (spOf K mg 2 (S_Trail_do C_Trail)) := by
  refine okD F scN_Trail_do (fun cdv A outer s H E hr => ⟨_, (pss_cons (ps_expr (pe_bm PySem.F.plainAttrs_list PySem.F.slot_list_append PySem.F.type_list_append mt_append (pe_fldK (K := K) rfl (pv 0) rfl) (pa_cons (pe_fldK (K := K) rfl (pv 0) rfl) pa_nil)))
      (pss_one (ps_fldK (K := K) rfl (pv 0) (pv 1) rfl))), ?_⟩)
  try dsimp only [cxOf]
  intro H0 ds μ kk ex hW h
  obtain ⟨a, dx, p, o, o', past, rfl, hA, hn, q⟩ := h
  walk_at "env"
  refine wp_seq (wp_drop (wp_appM (wp_fld (wp_var rfl ⟨a, C_Trail, dx, _, .ref p, rfl, hA.ins, O_Trail.cl, A_past, lk_p _ _, ?_⟩))))
  refine ⟨p, _, rfl, hA.lst, wp_fld (wp_var rfl ⟨a, C_Trail, dx, _, encO o, rfl, hA.ins, O_Trail.cl, A_grown, lk_g _ _, past.map encO, hA.lst, sz_lt (by rw [List.length_map]; omega), fun μ3 m1 o1 => ?_⟩)⟩
  have hi := o1 _ hA.ins (fun z => by cases z)
  refine wp_sfldM (wp_var rfl (wp_var rfl ⟨a, C_Trail, dx, _, rfl, hi, O_Trail.cl, A_grown, by (show 2 < 1000; decide), fun μ4 m2 o2 => ?_⟩))
  refine q μ4 ⟨?_, o2 _ ?_ (fun z => by cases z)⟩ fun x hx n1 n2 => o2 x (o1 x hx n2) n1
  · have e : putD "grown" (encO o') (tfs (encO o) (.ref p)) = tfs (encO o') (.ref p) := rfl
    rw [← e]
    exact m2
  · rw [List.map_append]
    exact m1
theorem scN_Trail_tree : FnScope ["self"] ["self"] (defScope s_Trail_tree) := ⟨rfl, rfl, rfl, by decide +kernel, rfl, by decide +kernel, by decide +kernel⟩
theorem ok_Trail_tree {f : Addr} {fd : FuncData} (F : Fun K "tree" "Trail.tree" s_Trail_tree f fd) {C_Trail : Addr} (O_Trail : OCls K mg "Trail" C_Trail) (A_grown : NoAttr K C_Trail "grown") : FnD P w K mg base (k + 1) f fd ["self"] (spOf K mg 1 (S_Trail_tree C_Trail)) := by
  refine okD F scN_Trail_tree (fun cdv A outer s H E hr => ⟨_, (pss_one (ps_ret (pe_fldK (K := K) rfl (pv 0) rfl))), ?_⟩)
  try dsimp only [cxOf]
  intro H0 ds μ kk ex hW h
  obtain ⟨a, dx, p, o, past, rfl, hA, q⟩ := h
  walk_at "env"
  exact wp_ret (wp_fld (wp_var rfl ⟨a, C_Trail, dx, _, encO o, rfl, hA.ins, O_Trail.cl, A_grown, lk_g _ _, q⟩))
theorem scN_Trail_size : FnScope ["self"] ["self"] (defScope s_Trail_size) := ⟨rfl, rfl, rfl, by decide +kernel, rfl, by decide +kernel, by decide +kernel⟩
theorem ok_Trail_size {f : Addr} {fd : FuncData} (F : Fun K "size" "Trail.size" s_Trail_size f fd) {C_Trail : Addr} (O_Trail : OCls K mg "Trail" C_Trail) (D_many : Df P w K mg base k "many" ["tree", "beginning"] S_many) (A_grown : NoAttr K C_Trail "grown") : FnD P w K mg base (k + 1) f fd ["self"] (spOf K mg 1 (S_Trail_size C_Trail)) := by
  refine okD F scN_Trail_size (fun cdv A outer s H E hr => ⟨_, (pss_one (ps_ret (pe_dfK D_many ⟨rfl, rfl, rfl, rfl, rfl⟩ hr (takes_of rfl rfl rfl rfl) rfl (pa_cons (pe_fldK (K := K) rfl (pv 0) rfl) (pa_cons pe_str pa_nil))))), ?_⟩)
  try dsimp only [cxOf]
  intro H0 ds μ kk ex hW h
  obtain ⟨a, dx, p, o, past, rfl, hA, hO, q⟩ := h
  walk_at "env"
  refine wp_ret (wp_call hW (wp_cons (wp_fld (wp_var rfl ⟨a, C_Trail, dx, _, encO o, rfl, hA.ins, O_Trail.cl, A_grown, lk_g _ _, ?_⟩))))
  walk_at "r"
  refine ⟨rfl, o, [], rfl, hO.big, by simp, ?_⟩
  have e : (namesO o).filter (fun r => decide (([] : Tx) <+: r.1)) = namesO o := List.filter_eq_self.mpr fun r _ => decide_eq_true List.nil_prefix
  rw [e]
  exact q
theorem scN_Trail_told : FnScope ["self", "beginning"] ["self", "beginning"] (defScope s_Trail_told) := ⟨rfl, rfl, rfl, by decide +kernel, rfl, by decide +kernel, by decide +kernel⟩
theorem ok_Trail_told {f : Addr} {fd : FuncData} (F : Fun K "told" "Trail.told" s_Trail_told f fd) {C_Trail : Addr} (O_Trail : OCls K mg "Trail" C_Trail) (D_under : Df P w K mg base k "under" ["tree", "beginning"] S_under) (A_grown : NoAttr K C_Trail "grown") (D_need_name : Df P w K mg base k "need_name" ["thing"] S_need_name) : FnD P w K mg base (k + 1) f fd ["self", "beginning"] (spOf K mg 2 (S_Trail_told C_Trail)) := by
  refine okD F scN_Trail_told (fun cdv A outer s H E hr => ⟨_, (pss_cons (ps_expr (pe_dfK D_need_name ⟨rfl, rfl, rfl, rfl, rfl⟩ hr (takes_of rfl rfl rfl rfl) rfl (pa_cons (pv 1) pa_nil)))
      (pss_one (ps_ret (pe_dfK D_under ⟨rfl, rfl, rfl, rfl, rfl⟩ hr (takes_of rfl rfl rfl rfl) rfl (pa_cons (pe_fldK (K := K) rfl (pv 0) rfl) (pa_cons (pv 1) pa_nil)))))), ?_⟩)
  try dsimp only [cxOf]
  intro H0 ds μ kk ex hW h
  obtain ⟨a, dx, p, o, past, d, rfl, hA, hO, h⟩ := h
  walk_at "env"
  refine wp_seq (wp_drop (wp_call hW ?_))
  walk_at "r"
  refine ⟨rfl, d, rfl, ?_⟩
  rcases h with ⟨x, rfl, hx, q1, q2⟩ | ⟨hd, q⟩
  · refine .inl ⟨x, rfl, hx, fun e => ?_, q2⟩
    refine wp_ret (wp_call hW (wp_cons (wp_fld (wp_var rfl ⟨a, C_Trail, dx, _, encO o, rfl, hA.ins, O_Trail.cl, A_grown, lk_g _ _, ?_⟩))))
    walk_at "r"
    have := nameB_len e
    exact ⟨rfl, o, x, rfl, hO.big, by omega, q1 e x rfl⟩
  · exact .inr ⟨hd, q⟩
theorem scN_Trail_back : FnScope ["self"] ["self"] (defScope s_Trail_back) := ⟨rfl, rfl, rfl, by decide +kernel, rfl, by decide +kernel, by decide +kernel⟩
theorem ok_Trail_back {f : Addr} {fd : FuncData} (F : Fun K "back" "Trail.back" s_Trail_back f fd) {C_Trail : Addr} (O_Trail : OCls K mg "Trail" C_Trail) (A_grown : NoAttr K C_Trail "grown") (A_past : NoAttr K C_Trail "past") {C_NothingDone : Addr} (R_NothingDone : RaiseOk K mg "NothingDone" C_NothingDone) : FnD P w K mg base (k + 1) f fd ["self"] (spOf K mg 1 (S_Trail_back C_Trail)) := by
  refine okD F scN_Trail_back (fun cdv A outer s H E hr => ⟨_, (pss_cons (ps_if (pt_cmpR (op_eqK (K := K) rfl hr.units) (pe_fldK (K := K) rfl (pv 0) rfl) (pe_lst pa_nil) (nomark _)) (pss_one (ps_raise rfl (takes_of rfl rfl rfl rfl) (pmk_own PySem.F.excBase_ValueError R_NothingDone.1 R_NothingDone.2.1 R_NothingDone.2.2.1 (raises_own R_NothingDone.2.2.2.1 R_NothingDone.2.2.2.2) rfl))) pss_nil)
      (pss_one (ps_fldK (K := K) rfl (pv 0) (pe_bm0 PySem.F.plainAttrs_list PySem.F.slot_list_pop PySem.F.type_list_pop mt_pop (pe_fldK (K := K) rfl (pv 0) rfl)) rfl))), ?_⟩)
  try dsimp only [cxOf]
  intro H0 ds μ kk ex hW h
  obtain ⟨a, dx, p, o, past, rfl, hA, q1, q2⟩ := h
  walk_at "env"
  refine wp_seq (wp_if (wp_test (wp_op (wp_fld (wp_var rfl ⟨a, C_Trail, dx, _, .ref p, rfl, hA.ins, O_Trail.cl, A_past, lk_p _ _, ?_⟩)))))
  walk_at "r"
  refine wr_eqN (isL_c hA.lst) isL_d ⟨_, rfl, ?_⟩
  rcases List.eq_nil_or_concat past with e | ⟨ps, o', e⟩
  · subst e
    refine iteT ?_
    exact wp_raise hW R_NothingDone.2.1 (q1 rfl)
  · have e2 : past = ps ++ [o'] := by rw [e, List.concat_eq_append]
    subst e2
    have he : ((ps ++ [o']).map encO).isEmpty = false := by cases ps <;> rfl
    rw [he]
    refine iteF ?_
    refine wp_next ?_
    have hl := hA.lst
    rw [List.map_append] at hl
    refine wp_sfldM (wp_popM (wp_fld (wp_var rfl ⟨a, C_Trail, dx, _, .ref p, rfl, hA.ins, O_Trail.cl, A_past, lk_p _ _, p, ps.map encO, encO o', rfl, hl, fun μ3 m1 o1 => ?_⟩)))
    have hi := o1 _ hA.ins (fun z => by cases z)
    refine wp_var rfl ⟨a, C_Trail, dx, _, rfl, hi, O_Trail.cl, A_grown, by (show 2 < 1000; decide), fun μ4 m2 o2 => ?_⟩
    refine q2 ps o' rfl μ4 ⟨?_, o2 _ m1 (fun z => by cases z)⟩ fun x hx n1 n2 => o2 x (o1 x hx fun z => n2 (by rw [z, List.map_append]; rfl)) n1
    have e : putD "grown" (encO o') (tfs (encO o) (.ref p)) = tfs (encO o') (.ref p) := rfl
    rw [← e]
    exact m2
end
theorem cut_one {o a b a2 b2 : Option Tr} {x : Tx} (C : CutOk o x a b) (D : CutOk o x a2 b2) : a = a2 ∧ b = b2 :=
  ⟨wfO_ext C.wa D.wa fun y => by rw [C.va, D.va], wfO_ext C.wb D.wb fun y => by rw [C.vb, D.vb]⟩
theorem names_get {u : Tr} {r : Rw} (h : Wf u) (hr : r ∈ TM.names u) : get u r.1 ≠ none := by
  rw [(mem_names u h r.1 r.2).mp hr]
  exact fun z => by cases z
theorem get_names {u : Tr} {w : Tx} (h : Wf u) (hw : get u w ≠ none) : ∃ v, (w, v) ∈ TM.names u := by
  cases e : get u w with
  | none => exact absurd e hw
  | some v => exact ⟨v, (mem_names u h w v).mpr e⟩
theorem get_ahead_some {y z : Tx} {u : Tr} (h : getO (some (ahead y u)) z ≠ none) : ∃ w, z = y ++ w ∧ get u w ≠ none := by
  have e : getO (some (ahead y u)) z = if y <+: z then get u (z.drop y.length) else none := get_ahead y u z
  rw [e] at h
  split at h
  case isTrue c => exact ⟨_, pre_split c, h⟩
  case isFalse => exact absurd rfl h
/-- both parts together are no more -/
theorem cut_count {o a b : Option Tr} {x : Tx} (hw : WfO o) (C : CutOk o x a b) : (namesO a).length + (namesO b).length ≤ (namesO o).length := by
  have h1 := under_eq hw C.wb C.vb
  have h2 : (namesO a).length ≤ ((namesO o).filter fun r => !decide (x <+: r.1)).length := by
    have e : namesO a = (namesO o).filter fun r => !decide (x <+: r.1) := by
      refine sr_ext (sr_namesO C.wa) (sr_filter (sr_namesO hw) _) fun r => ?_
      have m1 : ∀ {t : Option Tr}, WfO t → (r ∈ namesO t ↔ getO t r.1 = some r.2) := fun {t} ht => by
        rw [← lk_names ht]
        exact ⟨fun h => mem_lk (sr_namesO ht) (show (r.1, r.2) ∈ namesO t from h), fun h => lk_mem h⟩
      rw [m1 C.wa, C.va, List.mem_filter, m1 hw]
      by_cases c : x <+: r.1
      · simp [c]
      · simp [c]
    rw [e]
    exact Nat.le_refl _
  have h3 := congrArg List.length h1
  rw [List.length_map] at h3
  have h4 : ∀ L : List Rw, (L.filter fun r => decide (x <+: r.1)).length + (L.filter fun r => !decide (x <+: r.1)).length = L.length := fun L => by
    induction L with
    | nil => rfl
    | cons r L ih =>
      by_cases c : x <+: r.1
      · simp [c]; omega
      · simp [c]; omega
  have := h4 (namesO o)
  omega
/-- the joined tree is one of a trail -/
theorem trOk_join {o o' : Option Tr} {y : Tx} {u : Tr} (hw : WfO o') (ho : WfO o) (hl : ∀ z, getO o z ≠ none → z.length ≤ 40) (hu : Wf u) (hs : ∀ z, getO o z ≠ none → z.all okc = true) (hy : y.all okc = true) (hus : ∀ w, get u w ≠ none → w.all okc = true) (hf : ∀ r ∈ TM.names u, y.length + r.1.length ≤ 40) (hn : (namesO o).length + (TM.names u).length ≤ 100)
    (hg : ∀ z, getO o' z = (getO o z).or (getO (some (ahead y u)) z)) : TrOk o' := by
  refine okO_of (n := 100) hw (fun z hz => ?_) ?_ (Nat.le_refl _) fun z hz => ?_
  · rw [hg] at hz
    cases e : getO o z with
    | some v => exact hl z (by rw [e]; exact fun q => by cases q)
    | none =>
      rw [e, Option.none_or] at hz
      obtain ⟨w, rfl, hw'⟩ := get_ahead_some hz
      obtain ⟨v, hv⟩ := get_names hu hw'
      have := hf _ hv
      rw [List.length_append]
      exact this
  · have := keys_le (z := (TM.names u).map fun r => y ++ r.1) hw ho fun z hz => by
      rw [hg] at hz
      cases e : getO o z with
      | some v => exact .inl fun q => by cases q
      | none =>
        rw [e, Option.none_or] at hz
        obtain ⟨w, rfl, hw'⟩ := get_ahead_some hz
        obtain ⟨v, hv⟩ := get_names hu hw'
        exact .inr (List.mem_map.mpr ⟨_, hv, rfl⟩)
    rw [List.length_map] at this
    omega
  · rw [hg] at hz
    cases e : getO o z with
    | some v => exact hs z (by rw [e]; exact fun q => by cases q)
    | none =>
      rw [e, Option.none_or] at hz
      obtain ⟨w, rfl, hw'⟩ := get_ahead_some hz
      rw [List.all_append, hy, hus w hw']
      rfl
theorem nameB_okc {x : Tx} (h : nameB x = true) : x.all okc = true := by
  unfold nameB at h
  rw [Bool.and_eq_true] at h
  exact h.2
theorem cut_okc {o a : Option Tr} {u : Tr} {x : Tx} (hO : TrOk o) (C : CutOk o x a (some u)) : ∀ w, get u w ≠ none → w.all okc = true := fun w hw => by
  have h : getO o (x ++ w) ≠ none := fun z => hw ((C.vb w).trans z)
  have := hO.sg _ h
  rw [List.all_append, Bool.and_eq_true] at this
  exact this.2
section
variable {P : Program} {w : World} {K : PySem.W.Frag} {mg : Str → Option Value} {base : Heap} {k : Nat}
theorem scN_Trail_keep : FnScope ["self", "name", "number", "had"] ["self", "name", "number"] (defScope s_Trail_keep) := ⟨rfl, rfl, rfl, by decide +kernel, rfl, by decide +kernel, by decide +kernel⟩
theorem ok_Trail_keep {f : Addr} {fd : FuncData} (F : Fun K "keep" "Trail.keep" s_Trail_keep f fd) {C_Trail : Addr} (O_Trail : OCls K mg "Trail" C_Trail) (D_Trail_do : DfM P w K mg base k C_Trail "do" ["self", "tree"] (S_Trail_do C_Trail)) (D_put : Df P w K mg base k "put" ["tree", "name", "number"] (S_put 84)) (A_grown : NoAttr K C_Trail "grown") (D_Trail_size : DfM P w K mg base k C_Trail "size" ["self"] (S_Trail_size C_Trail)) {t_MOST_NAMES : Tok} (G_MOST_NAMES : True ∧ mg "MOST_NAMES" = some (Value.int 100 t_MOST_NAMES)) {C_TooMany : Addr} (R_TooMany : RaiseOk K mg "TooMany" C_TooMany) (D_found : Df P w K mg base k "found" ["tree", "name"] S_found) (D_need_name : Df P w K mg base k "need_name" ["thing"] S_need_name) : FnD P w K mg base (k + 1) f fd ["self", "name", "number"] (spOf K mg 3 (S_Trail_keep C_Trail)) := by
  refine okD F scN_Trail_keep (fun cdv A outer s H E hr => ⟨_, (pss_cons (ps_expr (pe_dfK D_need_name ⟨rfl, rfl, rfl, rfl, rfl⟩ hr (takes_of rfl rfl rfl rfl) rfl (pa_cons (pv 1) pa_nil)))
      (pss_cons (ps_set (i := 3) scN_Trail_keep.nd rfl (Or.inl rfl) (pe_dfK D_found ⟨rfl, rfl, rfl, rfl, rfl⟩ hr (takes_of rfl rfl rfl rfl) rfl (pa_cons (pe_fldK (K := K) rfl (pv 0) rfl) (pa_cons (pv 1) pa_nil))))
      (pss_cons (ps_if (PW.pt (pw_and (pt_cmpR op_isU (pv 3) pe_non (nomark _)) (pw_and1 (pt_cmpR (op_eqK (K := K) rfl hr.units) (pe_mthD0 O_Trail.cl D_Trail_size ⟨rfl, rfl, rfl, rfl, rfl⟩ hr (takes_of rfl rfl rfl rfl) (pv 0)) (pe_glob (v := .int 100) (by rfl) G_MOST_NAMES.2 ⟨_, rfl⟩) (nomark _))))) (pss_one (ps_raise rfl (takes_of rfl rfl rfl rfl) (pmk_own PySem.F.excBase_ValueError R_TooMany.1 R_TooMany.2.1 R_TooMany.2.2.1 (raises_own R_TooMany.2.2.2.1 R_TooMany.2.2.2.2) rfl))) pss_nil)
      (pss_cons (ps_expr (pe_mthD O_Trail.cl D_Trail_do ⟨rfl, rfl, rfl, rfl, rfl⟩ hr (takes_of rfl rfl rfl rfl) (pv 0) (pa_cons (pe_dfK D_put ⟨rfl, rfl, rfl, rfl, rfl⟩ hr (takes_of rfl rfl rfl rfl) rfl (pa_cons (pe_fldK (K := K) rfl (pv 0) rfl) (pa_cons (pv 1) (pa_cons (pv 2) pa_nil)))) pa_nil)))
      (pss_one (ps_ret (pv 3))))))), ?_⟩)
  try dsimp only [cxOf]
  intro H0 ds μ kk ex hW h
  obtain ⟨a, dx, p, o, past, d, v, rfl, hA, hO, hn, h⟩ := h
  walk_at "env"
  refine wp_seq (wp_drop (wp_call hW ?_))
  walk_at "r"
  refine ⟨rfl, d, rfl, ?_⟩
  rcases h with ⟨x, rfl, hx, q1, q2⟩ | ⟨hd, q⟩
  case inr => exact .inr ⟨hd, q⟩
  refine .inl ⟨x, rfl, hx, fun e => ?_, q2⟩
  obtain ⟨c1, c2⟩ := q1 e x rfl
  have hxl := nameB_len e
  refine wp_seq (wp_set (wp_call hW (wp_cons (wp_fld (wp_var rfl ⟨a, C_Trail, dx, _, encO o, rfl, hA.ins, O_Trail.cl, A_grown, lk_g _ _, ?_⟩)))))
  walk_at "r"
  refine ⟨rfl, o, x, rfl, hO.big, by omega, ?_⟩
  walk_at "set"
  refine wp_mid (fun ρ' μ' => μ' = μ ∧ ρ' = [some (.ref a), some (.str x), some (.int v), some (encI (getO o x))] ∧ (getO o x = none → (namesO o).length ≠ 100)) ?_ ?_
  · walk_at "r"
    rw [isNon_encI]
    cases eg : getO o x with
    | some w =>
      refine iteF ?_
      refine wp_next ?_
      exact ⟨rfl, rfl, fun z => by cases z⟩
    | none =>
      refine iteT ?_
      refine wp_test (wp_op (wp_mth hW (wp_var rfl ⟨a, dx, _, rfl, hA.ins, lk_no _ _ (by decide +kernel) (by decide +kernel), wp_nil ⟨rfl, a, dx, p, o, past, rfl, hA, hO, ?_⟩⟩)))
      walk_at "r"
      refine iteD (fun c => ?_) (fun c => ?_)
      · exact wp_raise hW R_TooMany.2.1 (c1 eg (by omega))
      · refine wp_next ?_
        exact ⟨rfl, rfl, fun _ z => c (by omega)⟩
  rintro ρ' μ' ⟨rfl, rfl, h100⟩
  refine wp_seq (wp_drop (wp_mth hW (wp_var rfl ⟨a, dx, _, rfl, hA.ins, lk_no _ _ (by decide +kernel) (by decide +kernel), wp_cons (wp_call hW (wp_cons (wp_fld (wp_var rfl ⟨a, C_Trail, dx, _, encO o, rfl, hA.ins, O_Trail.cl, A_grown, lk_g _ _, ?_⟩))))⟩)))
  walk_at "r"
  refine ⟨rfl, o, x, v, rfl, hO.big, by omega, depthO_le hO.big, fun t' ht' hg' => ?_⟩
  have tok : TrOk (some t') := by
    refine okO_of (n := 100) (o := some t') ht' (fun y hy => ?_) ?_ (Nat.le_refl _) fun y hy => ?_
    · have hy' : get t' y ≠ none := hy
      rw [hg'] at hy'
      split at hy'
      case isTrue c => rw [c]; exact hxl
      case isFalse => exact hO.len hy'
    · by_cases eg : getO o x = none
      · have := keys_le (A := some t') (B := o) (z := [x]) ht' hO.ok.wf fun y hy => by
          have hy' : get t' y ≠ none := hy
          rw [hg'] at hy'
          split at hy'
          case isTrue c => exact .inr (by rw [c]; exact List.mem_singleton.mpr rfl)
          case isFalse => exact .inl hy'
        have h1 := h100 eg
        have h2 := hO.n
        simp only [List.length_cons, List.length_nil] at this
        omega
      · have := keys_le (A := some t') (B := o) (z := []) ht' hO.ok.wf fun y hy => by
          have hy' : get t' y ≠ none := hy
          rw [hg'] at hy'
          split at hy'
          case isTrue c => exact .inl (by rw [c]; exact eg)
          case isFalse => exact .inl hy'
        have h2 := hO.n
        simp only [List.length_nil] at this
        omega
    · have hy' : get t' y ≠ none := hy
      rw [hg'] at hy'
      split at hy'
      case isTrue c => rw [c]; exact nameB_okc e
      case isFalse => exact hO.sg y hy'
  walk_at "r"
  refine ⟨rfl, a, dx, p, o, some t', past, rfl, hA, hn, fun μ2 hA2 hR2 => ?_⟩
  walk_at "r"
  exact c2 h100 (some t') tok hg' μ2 hA2 hR2
theorem scN_Trail_drop : FnScope ["self", "name", "had"] ["self", "name"] (defScope s_Trail_drop) := ⟨rfl, rfl, rfl, by decide +kernel, rfl, by decide +kernel, by decide +kernel⟩
theorem ok_Trail_drop {f : Addr} {fd : FuncData} (F : Fun K "drop" "Trail.drop" s_Trail_drop f fd) {C_Trail : Addr} (O_Trail : OCls K mg "Trail" C_Trail) (D_Trail_do : DfM P w K mg base k C_Trail "do" ["self", "tree"] (S_Trail_do C_Trail)) (D_without : Df P w K mg base k "without" ["tree", "name"] S_without) (A_grown : NoAttr K C_Trail "grown") (D_found : Df P w K mg base k "found" ["tree", "name"] S_found) (D_need_name : Df P w K mg base k "need_name" ["thing"] S_need_name) : FnD P w K mg base (k + 1) f fd ["self", "name"] (spOf K mg 2 (S_Trail_drop C_Trail)) := by
  refine okD F scN_Trail_drop (fun cdv A outer s H E hr => ⟨_, (pss_cons (ps_expr (pe_dfK D_need_name ⟨rfl, rfl, rfl, rfl, rfl⟩ hr (takes_of rfl rfl rfl rfl) rfl (pa_cons (pv 1) pa_nil)))
      (pss_cons (ps_set (i := 2) scN_Trail_drop.nd rfl (Or.inl rfl) (pe_dfK D_found ⟨rfl, rfl, rfl, rfl, rfl⟩ hr (takes_of rfl rfl rfl rfl) rfl (pa_cons (pe_fldK (K := K) rfl (pv 0) rfl) (pa_cons (pv 1) pa_nil))))
      (pss_cons (ps_expr (pe_mthD O_Trail.cl D_Trail_do ⟨rfl, rfl, rfl, rfl, rfl⟩ hr (takes_of rfl rfl rfl rfl) (pv 0) (pa_cons (pe_dfK D_without ⟨rfl, rfl, rfl, rfl, rfl⟩ hr (takes_of rfl rfl rfl rfl) rfl (pa_cons (pe_fldK (K := K) rfl (pv 0) rfl) (pa_cons (pv 1) pa_nil))) pa_nil)))
      (pss_one (ps_ret (pv 2)))))), ?_⟩)
  try dsimp only [cxOf]
  intro H0 ds μ kk ex hW h
  obtain ⟨a, dx, p, o, past, d, rfl, hA, hO, hn, h⟩ := h
  walk_at "env"
  refine wp_seq (wp_drop (wp_call hW ?_))
  walk_at "r"
  refine ⟨rfl, d, rfl, ?_⟩
  rcases h with ⟨x, rfl, hx, q1, q2⟩ | ⟨hd, q⟩
  case inr => exact .inr ⟨hd, q⟩
  refine .inl ⟨x, rfl, hx, fun e => ?_, q2⟩
  obtain ⟨c1, c2⟩ := q1 e x rfl
  have hxl := nameB_len e
  refine wp_seq (wp_set (wp_call hW (wp_cons (wp_fld (wp_var rfl ⟨a, C_Trail, dx, _, encO o, rfl, hA.ins, O_Trail.cl, A_grown, lk_g _ _, ?_⟩)))))
  walk_at "r"
  refine ⟨rfl, o, x, rfl, hO.big, by omega, ?_⟩
  walk_at "set"
  refine wp_seq (wp_drop (wp_mth hW (wp_var rfl ⟨a, dx, _, rfl, hA.ins, lk_no _ _ (by decide +kernel) (by decide +kernel), wp_cons (wp_call hW (wp_cons (wp_fld (wp_var rfl ⟨a, C_Trail, dx, _, encO o, rfl, hA.ins, O_Trail.cl, A_grown, lk_g _ _, ?_⟩))))⟩)))
  walk_at "r"
  refine ⟨rfl, o, x, rfl, hO.big, by omega, c1, fun hne o' ho' hg' => ?_⟩
  have tok : TrOk o' := by
    refine okO_of (n := 100) ho' (fun y hy => ?_) ?_ (Nat.le_refl _) fun y hy => ?_
    · rw [hg'] at hy
      split at hy
      case isTrue => exact absurd rfl hy
      case isFalse => exact hO.len hy
    · have := keys_le (z := []) ho' hO.ok.wf fun y hy => by
        rw [hg'] at hy
        split at hy
        case isTrue => exact absurd rfl hy
        case isFalse => exact .inl hy
      have h2 := hO.n
      simp only [List.length_nil] at this
      omega
    · rw [hg'] at hy
      split at hy
      case isTrue => exact absurd rfl hy
      case isFalse => exact hO.sg y hy
  walk_at "r"
  refine ⟨rfl, a, dx, p, o, o', past, rfl, hA, hn, fun μ2 hA2 hR2 => ?_⟩
  walk_at "r"
  exact c2 hne o' tok hg' μ2 hA2 hR2
theorem scN_Trail_prune : FnScope ["self", "beginning", "pair"] ["self", "beginning"] (defScope s_Trail_prune) := ⟨rfl, rfl, rfl, by decide +kernel, rfl, by decide +kernel, by decide +kernel⟩
theorem ok_Trail_prune {f : Addr} {fd : FuncData} (F : Fun K "prune" "Trail.prune" s_Trail_prune f fd) {C_Trail : Addr} (O_Trail : OCls K mg "Trail" C_Trail) (M_len : mg "len" = none) (D_names : Df P w K mg base k "names" ["tree"] (S_names 84)) (D_Trail_do : DfM P w K mg base k C_Trail "do" ["self", "tree"] (S_Trail_do C_Trail)) {C_NotThere : Addr} (R_NotThere : RaiseOk K mg "NotThere" C_NotThere) (D_cut : Df P w K mg base k "cut" ["tree", "beginning"] (S_cut 84)) (A_grown : NoAttr K C_Trail "grown") (D_need_name : Df P w K mg base k "need_name" ["thing"] S_need_name) : FnD P w K mg base (k + 1) f fd ["self", "beginning"] (spOf K mg 2 (S_Trail_prune C_Trail)) := by
  refine okD F scN_Trail_prune (fun cdv A outer s H E hr => ⟨_, (pss_cons (ps_expr (pe_dfK D_need_name ⟨rfl, rfl, rfl, rfl, rfl⟩ hr (takes_of rfl rfl rfl rfl) rfl (pa_cons (pv 1) pa_nil)))
      (pss_cons (ps_set (i := 2) scN_Trail_prune.nd rfl (Or.inl rfl) (pe_dfK D_cut ⟨rfl, rfl, rfl, rfl, rfl⟩ hr (takes_of rfl rfl rfl rfl) rfl (pa_cons (pe_fldK (K := K) rfl (pv 0) rfl) (pa_cons (pv 1) pa_nil))))
      (pss_cons (ps_if (pt_cmpR op_isU (pe_ix (ix_K (K := K) rfl) (pv 2) pe_int (fun _ _ => rfl)) pe_non (nomark _)) (pss_one (ps_raise rfl (takes_of rfl rfl rfl rfl) (pmk_own PySem.F.excBase_ValueError R_NotThere.1 R_NotThere.2.1 R_NotThere.2.2.1 (raises_own R_NotThere.2.2.2.1 R_NotThere.2.2.2.2) rfl))) pss_nil)
      (pss_cons (ps_expr (pe_mthD O_Trail.cl D_Trail_do ⟨rfl, rfl, rfl, rfl, rfl⟩ hr (takes_of rfl rfl rfl rfl) (pv 0) (pa_cons (pe_ix (ix_K (K := K) rfl) (pv 2) pe_int (fun _ _ => rfl)) pa_nil)))
      (pss_one (ps_ret (pe_callB (call_lenK (K := K) rfl) (by rfl) M_len PySem.boot_len (pa_cons (pe_dfK D_names ⟨rfl, rfl, rfl, rfl, rfl⟩ hr (takes_of rfl rfl rfl rfl) rfl (pa_cons (pe_ix (ix_K (K := K) rfl) (pv 2) pe_int (fun _ _ => rfl)) pa_nil)) pa_nil)))))))), ?_⟩)
  try dsimp only [cxOf]
  intro H0 ds μ kk ex hW h
  obtain ⟨a, dx, p, o, past, d, rfl, hA, hO, hn, h⟩ := h
  walk_at "env"
  refine wp_seq (wp_drop (wp_call hW ?_))
  walk_at "r"
  refine ⟨rfl, d, rfl, ?_⟩
  rcases h with ⟨x, rfl, hx, q1, q2⟩ | ⟨hd, q⟩
  case inr => exact .inr ⟨hd, q⟩
  refine .inl ⟨x, rfl, hx, fun e => ?_, q2⟩
  have hxl := nameB_len e
  refine wp_seq (wp_set (wp_call hW (wp_cons (wp_fld (wp_var rfl ⟨a, C_Trail, dx, _, encO o, rfl, hA.ins, O_Trail.cl, A_grown, lk_g _ _, ?_⟩)))))
  walk_at "r"
  refine ⟨rfl, o, x, rfl, hO.big, by omega, depthO_le hO.big, fun a' b C => ?_⟩
  obtain ⟨c1, c2⟩ := q1 e x rfl a' b C
  walk_at "r"
  refine wr_ixT (d := encO b) rfl ?_
  walk_at "r"
  rw [isNon_encO]
  cases b with
  | none =>
    refine iteT ?_
    exact wp_raise hW R_NotThere.2.1 (c1 rfl)
  | some u =>
    refine iteF ?_
    refine wp_next ?_
    have okb := C.okb hO.big
    have tok : TrOk a' := by
      have h1 := cut_count hO.ok.wf C
      have h2 := hO.n
      refine okO_of (n := 100) C.wa (fun y hy => ?_) (by omega) (Nat.le_refl _) fun y hy => ?_
      · rw [C.va] at hy
        split at hy
        case isTrue => exact absurd rfl hy
        case isFalse => exact hO.len hy
      · rw [C.va] at hy
        split at hy
        case isTrue => exact absurd rfl hy
        case isFalse => exact hO.sg y hy
    refine wp_seq (wp_drop (wp_mth hW (wp_var rfl ⟨a, dx, _, rfl, hA.ins, lk_no _ _ (by decide +kernel) (by decide +kernel), ?_⟩)))
    walk_at "r"
    refine wr_ixT (d := encO a') rfl ?_
    walk_at "r"
    refine ⟨rfl, a, dx, p, o, a', past, rfl, hA, hn, fun μ2 hA2 hR2 => ?_⟩
    refine wp_ret (wp_cb (wp_cons (wp_cool (wp_call hW ?_))))
    walk_at "r"
    refine wr_ixT (d := encO (some u)) rfl ?_
    walk_at "r"
    refine ⟨rfl, some u, rfl, okb, depthO_le okb, fun pb => ⟨_, _, _, rfl, rfl, ?_⟩⟩
    walk_at "r"
    rw [List.length_map]
    exact c2 u rfl tok μ2 hA2 hR2
theorem scN_need_branch : FnScope ["tree", "beginning", "other", "branch", "pair"] ["tree", "beginning", "other"] (defScope s_need_branch) := ⟨rfl, rfl, rfl, by decide +kernel, rfl, by decide +kernel, by decide +kernel⟩
theorem ok_need_branch {f : Addr} {fd : FuncData} (F : Fun K "need_branch" "need_branch" s_need_branch f fd) (D_names : Df P w K mg base k "names" ["tree"] (S_names 84)) (M_len : mg "len" = none) {t_MOST_SIGNS : Tok} (G_MOST_SIGNS : True ∧ mg "MOST_SIGNS" = some (Value.int 40 t_MOST_SIGNS)) {C_TooLong : Addr} (R_TooLong : RaiseOk K mg "TooLong" C_TooLong) {C_NotThere : Addr} (R_NotThere : RaiseOk K mg "NotThere" C_NotThere) (D_cut : Df P w K mg base k "cut" ["tree", "beginning"] (S_cut 84)) (D_need_name : Df P w K mg base k "need_name" ["thing"] S_need_name) : FnD P w K mg base (k + 1) f fd ["tree", "beginning", "other"] (spOf K mg 3 S_need_branch) := by
  refine okD F scN_need_branch (fun cdv A outer s H E hr => ⟨_, (pss_cons (ps_expr (pe_dfK D_need_name ⟨rfl, rfl, rfl, rfl, rfl⟩ hr (takes_of rfl rfl rfl rfl) rfl (pa_cons (pv 1) pa_nil)))
      (pss_cons (ps_expr (pe_dfK D_need_name ⟨rfl, rfl, rfl, rfl, rfl⟩ hr (takes_of rfl rfl rfl rfl) rfl (pa_cons (pv 2) pa_nil)))
      (pss_cons (ps_set (i := 3) scN_need_branch.nd rfl (Or.inl rfl) (pe_ix (ix_K (K := K) rfl) (pe_dfK D_cut ⟨rfl, rfl, rfl, rfl, rfl⟩ hr (takes_of rfl rfl rfl rfl) rfl (pa_cons (pv 0) (pa_cons (pv 1) pa_nil))) pe_int (fun _ _ => rfl)))
      (pss_cons (ps_if (pt_cmpR op_isU (pv 3) pe_non (nomark _)) (pss_one (ps_raise rfl (takes_of rfl rfl rfl rfl) (pmk_own PySem.F.excBase_ValueError R_NotThere.1 R_NotThere.2.1 R_NotThere.2.2.1 (raises_own R_NotThere.2.2.2.1 R_NotThere.2.2.2.2) rfl))) pss_nil)
      (pss_cons (ps_for (passes_of rfl) rfl (pi_seqK (K := K) rfl (pe_dfK D_names ⟨rfl, rfl, rfl, rfl, rfl⟩ hr (takes_of rfl rfl rfl rfl) rfl (pa_cons (pv 3) pa_nil))) (pg_name (i := 4) scN_need_branch.nd rfl (Or.inl rfl)) (pss_one (ps_if (pt_cmpR op_gtU (pe_op (op_addK (K := K) rfl) (pe_callB (call_lenK (K := K) rfl) (by rfl) M_len PySem.boot_len (pa_cons (pv 2) pa_nil)) (pe_callB (call_lenK (K := K) rfl) (by rfl) M_len PySem.boot_len (pa_cons (pe_ix (ix_K (K := K) rfl) (pv 4) pe_int (fun _ _ => rfl)) pa_nil))) (pe_glob (v := .int 40) (by rfl) G_MOST_SIGNS.2 ⟨_, rfl⟩) (nomark _)) (pss_one (ps_raise rfl (takes_of rfl rfl rfl rfl) (pmk_own PySem.F.excBase_ValueError R_TooLong.1 R_TooLong.2.1 R_TooLong.2.2.1 (raises_own R_TooLong.2.2.2.1 R_TooLong.2.2.2.2) rfl))) pss_nil)))
      (pss_one (ps_ret (pv 3)))))))), ?_⟩)
  try dsimp only [cxOf]
  intro H0 ds μ kk ex hW h
  obtain ⟨o, d, e, rfl, hO, h⟩ := h
  walk_at "env"
  refine wp_seq (wp_drop (wp_call hW ?_))
  walk_at "r"
  refine ⟨rfl, d, rfl, ?_⟩
  rcases h with ⟨x, rfl, hx, q1, q2⟩ | ⟨hd, q⟩
  case inr => exact .inr ⟨hd, q⟩
  refine .inl ⟨x, rfl, hx, fun ex1 => ?_, q2⟩
  have hxl := nameB_len ex1
  replace q1 := q1 ex1 x rfl
  refine wp_seq (wp_drop (wp_call hW ?_))
  walk_at "r"
  refine ⟨rfl, e, rfl, ?_⟩
  rcases q1 with ⟨y, rfl, hy, q3, q4⟩ | ⟨hd, q⟩
  case inr => exact .inr ⟨hd, q⟩
  refine .inl ⟨y, rfl, hy, fun ey1 => ?_, q4⟩
  have hyl := nameB_len ey1
  replace q3 := q3 ey1 y rfl
  refine wp_seq (wp_set (wp_op (wp_call hW ?_)))
  walk_at "r"
  refine ⟨rfl, o, x, rfl, hO.big, by omega, depthO_le hO.big, fun a' b C => ?_⟩
  obtain ⟨c1, c2⟩ := q3 a' b C
  walk_at "r"
  refine wr_ixT (d := encO b) rfl ?_
  walk_at "r"
  rw [isNon_encO]
  cases b with
  | none =>
    refine iteT ?_
    exact wp_raise hW R_NotThere.2.1 (c1 rfl)
  | some u =>
    refine iteF ?_
    refine wp_next ?_
    obtain ⟨c3, c4⟩ := c2 u rfl
    have okb := C.okb hO.big
    refine wp_seq (wp_for (wi_seq (wp_cool (wp_call hW ?_))))
    walk_at "r"
    refine ⟨rfl, some u, rfl, okb, depthO_le okb, fun pb => ⟨_, _, _, rfl, rfl, ?_⟩⟩
    refine ⟨_, .inl rfl, fun i ρ' μ' => μ' = μ ∧ (∃ z : Option Dv, ρ' = [some (encO o), some (.str x), some (.str y), some (encT u), z]) ∧ ∀ r ∈ (TM.names u).take i, y.length + r.1.length ≤ 40, ⟨rfl, ⟨_, rfl⟩, fun r hr => by simp at hr⟩, ?_, ?_⟩
    · rintro i dd ρ' μ' hdd ⟨rfl, ⟨z, rfl⟩, hall⟩
      have hdd' : ((TM.names u)[i]?).map encR = some dd := by rw [← List.getElem?_map]; exact hdd
      cases er : (TM.names u)[i]? with
      | none => rw [er] at hdd'; cases hdd'
      | some r =>
        rw [er] at hdd'
        cases hdd'
        have hrm : r ∈ TM.names u := List.mem_of_getElem? er
        have hrl := namesO_row okb (show r ∈ namesO (some u) from hrm)
        walk_at "set"
        unfold encR
        walk_at "r"
        refine wr_ixT (d := .str r.1) rfl ?_
        walk_at "r"
        refine iteD (fun c => ?_) (fun c => ?_)
        · exact wp_raise hW R_TooLong.2.1 (c3 ⟨r, hrm, by omega⟩)
        · refine wp_next ?_
          refine ⟨rfl, ⟨_, rfl⟩, fun q hq => ?_⟩
          rw [List.take_succ, er] at hq
          rcases List.mem_append.mp hq with hq | hq
          · exact hall q hq
          · have : q = r := by simpa using hq
            rw [this]
            omega
    · rintro ρ' μ' ⟨rfl, ⟨z, rfl⟩, hall⟩
      have el : ((namesO (some u)).map encR).length = (TM.names u).length := by rw [List.length_map]; rfl
      rw [el, List.take_length] at hall
      walk_at "r"
      exact c4 hall
theorem scN_Trail_move : FnScope ["self", "beginning", "other", "branch"] ["self", "beginning", "other"] (defScope s_Trail_move) := ⟨rfl, rfl, rfl, by decide +kernel, rfl, by decide +kernel, by decide +kernel⟩
theorem ok_Trail_move {f : Addr} {fd : FuncData} (F : Fun K "move" "Trail.move" s_Trail_move f fd) {C_Trail : Addr} (O_Trail : OCls K mg "Trail" C_Trail) (M_len : mg "len" = none) (D_names : Df P w K mg base k "names" ["tree"] (S_names 84)) (D_Trail_do : DfM P w K mg base k C_Trail "do" ["self", "tree"] (S_Trail_do C_Trail)) (D_moved : Df P w K mg base k "moved" ["tree", "beginning", "other"] S_moved) (A_grown : NoAttr K C_Trail "grown") (D_need_branch : Df P w K mg base k "need_branch" ["tree", "beginning", "other"] S_need_branch) : FnD P w K mg base (k + 1) f fd ["self", "beginning", "other"] (spOf K mg 3 (S_Trail_move C_Trail)) := by
  refine okD F scN_Trail_move (fun cdv A outer s H E hr => ⟨_, (pss_cons (ps_set (i := 3) scN_Trail_move.nd rfl (Or.inl rfl) (pe_dfK D_need_branch ⟨rfl, rfl, rfl, rfl, rfl⟩ hr (takes_of rfl rfl rfl rfl) rfl (pa_cons (pe_fldK (K := K) rfl (pv 0) rfl) (pa_cons (pv 1) (pa_cons (pv 2) pa_nil)))))
      (pss_cons (ps_expr (pe_mthD O_Trail.cl D_Trail_do ⟨rfl, rfl, rfl, rfl, rfl⟩ hr (takes_of rfl rfl rfl rfl) (pv 0) (pa_cons (pe_dfK D_moved ⟨rfl, rfl, rfl, rfl, rfl⟩ hr (takes_of rfl rfl rfl rfl) rfl (pa_cons (pe_fldK (K := K) rfl (pv 0) rfl) (pa_cons (pv 1) (pa_cons (pv 2) pa_nil)))) pa_nil)))
      (pss_one (ps_ret (pe_callB (call_lenK (K := K) rfl) (by rfl) M_len PySem.boot_len (pa_cons (pe_dfK D_names ⟨rfl, rfl, rfl, rfl, rfl⟩ hr (takes_of rfl rfl rfl rfl) rfl (pa_cons (pv 3) pa_nil)) pa_nil)))))), ?_⟩)
  try dsimp only [cxOf]
  intro H0 ds μ kk ex hW h
  obtain ⟨a, dx, p, o, past, d, e, rfl, hA, hO, hn, h⟩ := h
  walk_at "env"
  refine wp_seq (wp_set (wp_call hW (wp_cons (wp_fld (wp_var rfl ⟨a, C_Trail, dx, _, encO o, rfl, hA.ins, O_Trail.cl, A_grown, lk_g _ _, ?_⟩)))))
  walk_at "r"
  refine ⟨rfl, o, d, e, rfl, hO, ?_⟩
  rcases h with ⟨x, rfl, hx, q1, q2⟩ | ⟨hd, q⟩
  case inr => exact .inr ⟨hd, q⟩
  refine .inl ⟨x, rfl, hx, fun ex1 x' exx => ?_, q2⟩
  cases exx
  have hxl := nameB_len ex1
  replace q1 := q1 ex1 x rfl
  rcases q1 with ⟨y, rfl, hy, q3, q4⟩ | ⟨hd, q⟩
  case inr => exact .inr ⟨hd, q⟩
  refine .inl ⟨y, rfl, hy, fun ey1 y' eyy a' b C => ?_, q4⟩
  cases eyy
  have hyl := nameB_len ey1
  obtain ⟨c1, c2⟩ := q3 ey1 y rfl a' b C
  refine ⟨c1, fun u eu => ⟨(c2 u eu).1, fun hall => ?_⟩⟩
  subst eu
  obtain ⟨j1, j2⟩ := (c2 u rfl).2 hall
  have okb := C.okb hO.big
  walk_at "set"
  refine wp_seq (wp_drop (wp_mth hW (wp_var rfl ⟨a, dx, _, rfl, hA.ins, lk_no _ _ (by decide +kernel) (by decide +kernel), wp_cons (wp_call hW (wp_cons (wp_fld (wp_var rfl ⟨a, C_Trail, dx, _, encO o, rfl, hA.ins, O_Trail.cl, A_grown, lk_g _ _, ?_⟩))))⟩)))
  walk_at "r"
  refine ⟨rfl, o, x, y, rfl, hO.ok, by omega, hyl, fun a2 b2 C2 => ?_⟩
  obtain ⟨ea, eb⟩ := cut_one C C2
  subst ea
  subst eb
  refine ⟨fun z => by (cases z), fun u2 e2 => ?_⟩
  cases e2
  refine ⟨fun hdis o' ho' hg' => ?_, j1⟩
  have hwu : Wf u := C.wb
  have tok : TrOk o' := trOk_join ho' C.wa (fun z hz => by
    rw [C.va] at hz
    split at hz
    case isTrue => exact absurd rfl hz
    case isFalse => exact hO.len hz) hwu (fun z hz => by
    rw [C.va] at hz
    split at hz
    case isTrue => exact absurd rfl hz
    case isFalse => exact hO.sg z hz) (nameB_okc ey1) (cut_okc hO C) hall (by have h1 := cut_count hO.ok.wf C; have h2 := hO.n; have h3 : (namesO (some u)).length = (TM.names u).length := rfl; omega) hg'
  walk_at "r"
  refine ⟨rfl, a, dx, p, o, o', past, rfl, hA, hn, fun μ2 hA2 hR2 => ?_⟩
  refine wp_ret (wp_cb (wp_cons (wp_cool (wp_call hW ?_))))
  walk_at "r"
  refine ⟨rfl, some u, rfl, okb, depthO_le okb, fun pb => ⟨_, _, _, rfl, rfl, ?_⟩⟩
  walk_at "r"
  rw [List.length_map]
  exact j2 hdis o' tok hg' μ2 hA2 hR2
theorem scN_Trail_graft : FnScope ["self", "beginning", "other", "branch", "grown", "count"] ["self", "beginning", "other"] (defScope s_Trail_graft) := ⟨rfl, rfl, rfl, by decide +kernel, rfl, by decide +kernel, by decide +kernel⟩
theorem ok_Trail_graft {f : Addr} {fd : FuncData} (F : Fun K "graft" "Trail.graft" s_Trail_graft f fd) {C_Trail : Addr} (O_Trail : OCls K mg "Trail" C_Trail) (D_Trail_do : DfM P w K mg base k C_Trail "do" ["self", "tree"] (S_Trail_do C_Trail)) (D_Trail_size : DfM P w K mg base k C_Trail "size" ["self"] (S_Trail_size C_Trail)) {t_MOST_NAMES : Tok} (G_MOST_NAMES : True ∧ mg "MOST_NAMES" = some (Value.int 100 t_MOST_NAMES)) {C_TooMany : Addr} (R_TooMany : RaiseOk K mg "TooMany" C_TooMany) (M_len : mg "len" = none) (D_names : Df P w K mg base k "names" ["tree"] (S_names 84)) (D_copied : Df P w K mg base k "copied" ["tree", "beginning", "other"] S_copied) (A_grown : NoAttr K C_Trail "grown") (D_need_branch : Df P w K mg base k "need_branch" ["tree", "beginning", "other"] S_need_branch) : FnD P w K mg base (k + 1) f fd ["self", "beginning", "other"] (spOf K mg 3 (S_Trail_graft C_Trail)) := by
  refine okD F scN_Trail_graft (fun cdv A outer s H E hr => ⟨_, (pss_cons (ps_set (i := 3) scN_Trail_graft.nd rfl (Or.inl rfl) (pe_dfK D_need_branch ⟨rfl, rfl, rfl, rfl, rfl⟩ hr (takes_of rfl rfl rfl rfl) rfl (pa_cons (pe_fldK (K := K) rfl (pv 0) rfl) (pa_cons (pv 1) (pa_cons (pv 2) pa_nil)))))
      (pss_cons (ps_set (i := 4) scN_Trail_graft.nd rfl (Or.inl rfl) (pe_dfK D_copied ⟨rfl, rfl, rfl, rfl, rfl⟩ hr (takes_of rfl rfl rfl rfl) rfl (pa_cons (pe_fldK (K := K) rfl (pv 0) rfl) (pa_cons (pv 1) (pa_cons (pv 2) pa_nil)))))
      (pss_cons (ps_set (i := 5) scN_Trail_graft.nd rfl (Or.inl rfl) (pe_callB (call_lenK (K := K) rfl) (by rfl) M_len PySem.boot_len (pa_cons (pe_dfK D_names ⟨rfl, rfl, rfl, rfl, rfl⟩ hr (takes_of rfl rfl rfl rfl) rfl (pa_cons (pv 3) pa_nil)) pa_nil)))
      (pss_cons (ps_if (pt_cmpR op_gtU (pe_op (op_addK (K := K) rfl) (pe_mthD0 O_Trail.cl D_Trail_size ⟨rfl, rfl, rfl, rfl, rfl⟩ hr (takes_of rfl rfl rfl rfl) (pv 0)) (pv 5)) (pe_glob (v := .int 100) (by rfl) G_MOST_NAMES.2 ⟨_, rfl⟩) (nomark _)) (pss_one (ps_raise rfl (takes_of rfl rfl rfl rfl) (pmk_own PySem.F.excBase_ValueError R_TooMany.1 R_TooMany.2.1 R_TooMany.2.2.1 (raises_own R_TooMany.2.2.2.1 R_TooMany.2.2.2.2) rfl))) pss_nil)
      (pss_cons (ps_expr (pe_mthD O_Trail.cl D_Trail_do ⟨rfl, rfl, rfl, rfl, rfl⟩ hr (takes_of rfl rfl rfl rfl) (pv 0) (pa_cons (pv 4) pa_nil)))
      (pss_one (ps_ret (pv 5)))))))), ?_⟩)
  try dsimp only [cxOf]
  intro H0 ds μ kk ex hW h
  obtain ⟨a, dx, p, o, past, d, e, rfl, hA, hO, hn, h⟩ := h
  walk_at "env"
  refine wp_seq (wp_set (wp_call hW (wp_cons (wp_fld (wp_var rfl ⟨a, C_Trail, dx, _, encO o, rfl, hA.ins, O_Trail.cl, A_grown, lk_g _ _, ?_⟩)))))
  walk_at "r"
  refine ⟨rfl, o, d, e, rfl, hO, ?_⟩
  rcases h with ⟨x, rfl, hx, q1, q2⟩ | ⟨hd, q⟩
  case inr => exact .inr ⟨hd, q⟩
  refine .inl ⟨x, rfl, hx, fun ex1 x' exx => ?_, q2⟩
  cases exx
  have hxl := nameB_len ex1
  replace q1 := q1 ex1 x rfl
  rcases q1 with ⟨y, rfl, hy, q3, q4⟩ | ⟨hd, q⟩
  case inr => exact .inr ⟨hd, q⟩
  refine .inl ⟨y, rfl, hy, fun ey1 y' eyy a' b C => ?_, q4⟩
  cases eyy
  have hyl := nameB_len ey1
  obtain ⟨c1, c2⟩ := q3 ey1 y rfl a' b C
  refine ⟨c1, fun u eu => ⟨(c2 u eu).1, fun hall => ?_⟩⟩
  subst eu
  obtain ⟨j1, j2⟩ := (c2 u rfl).2 hall
  have okb := C.okb hO.big
  walk_at "set"
  refine wp_seq (wp_set (wp_call hW (wp_cons (wp_fld (wp_var rfl ⟨a, C_Trail, dx, _, encO o, rfl, hA.ins, O_Trail.cl, A_grown, lk_g _ _, ?_⟩)))))
  walk_at "r"
  refine ⟨rfl, o, x, y, rfl, hO.ok, by omega, hyl, fun a2 b2 C2 => ?_⟩
  obtain ⟨ea, eb⟩ := cut_one C C2
  subst ea
  subst eb
  refine ⟨fun z => by (cases z), fun u2 e2 => ?_⟩
  cases e2
  refine ⟨fun hdis o' ho' hg' => ?_, j1⟩
  obtain ⟨k1, k2⟩ := j2 hdis
  have hwu : Wf u := C.wb
  walk_at "set"
  refine wp_seq (wp_set (wp_cb (wp_cons (wp_cool (wp_call hW ?_)))))
  walk_at "r"
  refine ⟨rfl, some u, rfl, okb, depthO_le okb, fun pb => ⟨_, _, _, rfl, rfl, ?_⟩⟩
  walk_at "r"
  rw [List.length_map]
  have el : (namesO (some u)).length = (TM.names u).length := rfl
  rw [el]
  walk_at "r"
  refine wp_mth hW (wp_var rfl ⟨a, dx, _, rfl, hA.ins, lk_no _ _ (by decide +kernel) (by decide +kernel), wp_nil ⟨rfl, a, dx, p, o, past, rfl, hA, hO, ?_⟩⟩)
  walk_at "r"
  refine iteD (fun c => ?_) (fun c => ?_)
  · exact wp_raise hW R_TooMany.2.1 (k1 (by omega))
  · have hle : (namesO o).length + (TM.names u).length ≤ 100 := by omega
    have tok : TrOk o' := trOk_join ho' hO.ok.wf (fun z hz => hO.len hz) hwu (fun z hz => hO.sg z hz) (nameB_okc ey1) (cut_okc hO C) hall hle hg'
    refine wp_next ?_
    refine wp_seq (wp_drop (wp_mth hW (wp_var rfl ⟨a, dx, _, rfl, hA.ins, lk_no _ _ (by decide +kernel) (by decide +kernel), ?_⟩)))
    walk_at "r"
    refine ⟨rfl, a, dx, p, o, o', past, rfl, hA, hn, fun μ2 hA2 hR2 => ?_⟩
    walk_at "r"
    exact k2 hle o' tok hg' μ2 hA2 hR2
end
/-! ### the law's own helpers -/
def sgn : Tx := (" !\"#$&'()*+,-./0123456789:;<=>?@ABCDEFGHIJKLMNOPQRSTUVWXYZ[\\]^_`" : Str).cps.toList ++ ("abcdefghijklmnopqrstuvwxyz{|}~" : Str).cps.toList
theorem sgn_len : sgn.length = 94 := by decide +kernel
theorem sgn_nodup : sgn.Nodup := by decide +kernel
theorem sgn_ok : ∀ c ∈ sgn, 32 ≤ c ∧ c ≤ 126 ∧ c ≠ 37 := by decide +kernel
def okS (x : Tx) : Prop := ∀ c ∈ x, c ∈ sgn
theorem okS_nil : okS [] := fun _ h => nomatch h
theorem okS_app {x y : Tx} (h1 : okS x) (h2 : okS y) : okS (x ++ y) := fun c h => (List.mem_append.mp h).elim (h1 c) (h2 c)
theorem okS_take {x : Tx} (h : okS x) (n : Nat) : okS (x.take n) := fun c hc => h c (List.mem_of_mem_take hc)
def sgnAt (c : Int) : Nat := sgn.getD (c % 94).toNat 32
theorem sgnAt_in (c : Int) : sgnAt c ∈ sgn := by
  have h0 : 0 ≤ c % 94 := Int.emod_nonneg _ (by decide)
  have h1 : c % 94 < 94 := Int.emod_lt_of_pos _ (by decide)
  have hl : (c % 94).toNat < sgn.length := by rw [sgn_len]; omega
  unfold sgnAt
  rw [List.getD_eq_getElem?_getD, List.getElem?_eq_getElem hl]
  exact List.getElem_mem hl
def numS (c : Int) : Nat → Int × Int
  | 0 => (c, 0)
  | n + 1 => (((numS c n).1 * 48271 + 11) % 2147483647, (numS c n).2 * 10 + ((numS c n).1 * 48271 + 11) % 2147483647 / 7 % 10)
theorem numS_le (c : Int) : ∀ n : Nat, 0 ≤ (numS c n).2 ∧ (numS c n).2 < 10 ^ n
  | 0 => by simp [numS]
  | n + 1 => by
    have ih := numS_le c n
    have h1 : 0 ≤ ((numS c n).1 * 48271 + 11) % 2147483647 / 7 % 10 := Int.emod_nonneg _ (by decide)
    have h2 : ((numS c n).1 * 48271 + 11) % 2147483647 / 7 % 10 < 10 := Int.emod_lt_of_pos _ (by decide)
    have e : (10 : Int) ^ (n + 1) = 10 ^ n * 10 := Int.pow_succ 10 n
    rw [e]
    show 0 ≤ (numS c n).2 * 10 + _ ∧ (numS c n).2 * 10 + _ < _
    generalize (10 : Int) ^ n = p at ih ⊢
    omega
def numF (c : Int) : Int := if c % 5 > 1 then c / 5 % 39 - 19 else (if c / 5 % 2 = 0 then 1 else -1) * (numS c (if c % 5 = 0 then 60 else 1 + c / 10 % 60).toNat).2
theorem pow_le60 {n : Nat} (h : n ≤ 60) : (10 : Int) ^ n ≤ 10 ^ 60 := by
  have : (10 : Nat) ^ n ≤ 10 ^ 60 := Nat.pow_le_pow_right (by decide) h
  exact_mod_cast this
theorem numF_le (c : Int) : -(10 ^ 60) < numF c ∧ numF c < 10 ^ 60 := by
  unfold numF
  have h0 : 0 ≤ c % 5 := Int.emod_nonneg _ (by decide)
  have h3 : c % 5 < 5 := Int.emod_lt_of_pos _ (by decide)
  have h1 : 0 ≤ c / 5 % 39 := Int.emod_nonneg _ (by decide)
  have h2 : c / 5 % 39 < 39 := Int.emod_lt_of_pos _ (by decide)
  have h4 : 0 ≤ c / 10 % 60 := Int.emod_nonneg _ (by decide)
  have h5 : c / 10 % 60 < 60 := Int.emod_lt_of_pos _ (by decide)
  split
  · omega
  · have hb : (if c % 5 = 0 then 60 else 1 + c / 10 % 60 : Int).toNat ≤ 60 := by split <;> omega
    have h6 := numS_le c (if c % 5 = 0 then 60 else 1 + c / 10 % 60 : Int).toNat
    have h7 := pow_le60 hb
    generalize (10 : Int) ^ 60 = p at h7 ⊢
    generalize (10 : Int) ^ (if c % 5 = 0 then 60 else 1 + c / 10 % 60 : Int).toNat = q at h6 h7
    generalize (numS c (if c % 5 = 0 then 60 else 1 + c / 10 % 60 : Int).toNat).2 = v at h6 ⊢
    split <;> omega
structure RowsOk (R : List Rw) : Prop where
  sr : Sr R
  len : R.length ≤ 150
  row : ∀ r ∈ R, r.1.length ≤ 40 ∧ okS r.1 ∧ -(10 ^ 60) < r.2 ∧ r.2 < 10 ^ 60
/-- an item of a list that is asked at a remainder by its length -/
theorem at_rem {α : Type} {l : List α} {i : Int} (h : l ≠ []) : ∃ x ∈ l, atI l (i % (l.length : Int)) = some x := by
  have hp : 0 < l.length := List.length_pos_iff.mpr h
  have h0 : 0 ≤ i % (l.length : Int) := Int.emod_nonneg _ (by omega)
  have h1 : i % (l.length : Int) < l.length := Int.emod_lt_of_pos _ (by omega)
  have hi : (i % (l.length : Int)).toNat < l.length := by omega
  obtain ⟨j, hj⟩ : ∃ j : Nat, i % (l.length : Int) = (j : Int) := ⟨(i % (l.length : Int)).toNat, by omega⟩
  rw [hj] at hi ⊢
  have hj2 : j < l.length := by omega
  exact ⟨l[j], List.getElem_mem hj2, atV.mpr (List.getElem?_eq_getElem hj2)⟩
theorem at_two0 {α : Type} {a b : α} : atI [a, b] 0 = some a := rfl
theorem at_two1 {α : Type} {a b : α} : atI [a, b] 1 = some b := rfl
theorem at_two {α : Type} {a b : α} {i : Int} (h0 : 0 ≤ i) (h1 : i < 2) : atI [a, b] i = some (if i = 0 then a else b) := by
  have : i = 0 ∨ i = 1 := by omega
  rcases this with rfl | rfl <;> rfl
def S__law_cell_at : Spc := fun ds μ k ex => ∃ (ns : List Int) (i : Int), ds = [.scr ns, .int i] ∧ 0 ≤ i ∧ ∀ c, k (.int c) μ
def S__law_sign_by : Spc := fun ds μ k ex => ∃ c : Int, ds = [.int c] ∧ k (.str [sgnAt c]) μ
def S__law_word_by : Spc := fun ds μ k ex => ∃ c n : Int, ds = [.int c, .int n] ∧ 0 ≤ n ∧ n ≤ 1000 ∧ ∀ x : Tx, x.length = n.toNat → okS x → k (.str x) μ
def S__law_number_by : Spc := fun ds μ k ex => ∃ c : Int, ds = [.int c] ∧ k (.int (numF c)) μ
def S__law_count_by : Spc := fun ds μ k ex => ∃ c : Int, ds = [.int c] ∧ ∀ m : Int, 0 ≤ m → m ≤ 150 → k (.int m) μ
def S__law_name_by : Spc := fun ds μ k ex => ∃ (c : Int) (R : List Rw), ds = [.int c, .lst (R.map encR)] ∧ RowsOk R ∧ ∀ x : Tx, x.length ≤ 40 → okS x → k (.str x) μ
def S__law_whole : Spc := fun ds μ k ex => ∃ n : Int, ds = [.int n] ∧ k (.bl true) μ
section
variable {P : Program} {w : World} {K : PySem.W.Frag} {mg : Str → Option Value} {base : Heap} {k : Nat}
theorem scN__law_cell_at : FnScope ["_law_script", "_law_k"] ["_law_script", "_law_k"] (defScope s__law_cell_at) := ⟨rfl, rfl, rfl, by decide +kernel, rfl, by decide +kernel, by decide +kernel⟩
theorem ok__law_cell_at {f : Addr} {fd : FuncData} (F : Fun K "_law_cell_at" "_law_cell_at" s__law_cell_at f fd) (M_len : mg "len" = none) : FnD P w K mg base (k + 1) f fd ["_law_script", "_law_k"] (spOf K mg 2 S__law_cell_at) := by
  refine okD F scN__law_cell_at (fun cdv A outer s H E hr => ⟨_, (pss_cons (ps_if (pt_cmpR op_ltU (pv 1) (pe_callB (call_lenK (K := K) rfl) (by rfl) M_len PySem.boot_len (pa_cons (pv 0) pa_nil)) (nomark _)) (pss_one (ps_ret (pe_ix (ix_K (K := K) rfl) (pv 0) (pv 1) (fun _ _ => rfl)))) pss_nil)
      (pss_one (ps_ret pe_int))), ?_⟩)
  try dsimp only [cxOf]
  intro H0 ds μ kk ex hW h
  obtain ⟨ns, i, rfl, h0, q⟩ := h
  walk_at "r0"
  refine iteD (fun c => ?_) (fun c => ?_)
  · walk_at "r"
    have hi : i.toNat < ns.length := by omega
    have e : i = ((i.toNat : Nat) : Int) := by omega
    rw [e]
    exact wr_ixC (n := ns[i.toNat]) (atV.mpr (List.getElem?_eq_getElem hi)) (q _)
  · walk_at "r"
    exact q 0
theorem scN__law_whole : FnScope ["_law_told"] ["_law_told"] (defScope s__law_whole) := ⟨rfl, rfl, rfl, by decide +kernel, rfl, by decide +kernel, by decide +kernel⟩
theorem ok__law_whole {f : Addr} {fd : FuncData} (F : Fun K "_law_whole" "_law_whole" s__law_whole f fd) (M_isinstance : mg "isinstance" = none) (M_bool : mg "bool" = none) (M_int : mg "int" = none) : FnD P w K mg base (k + 1) f fd ["_law_told"] (spOf K mg 1 S__law_whole) := by
  refine okD F scN__law_whole (fun cdv A outer s H E hr => ⟨_, (pss_one (ps_ret (pe_and (pe_callB (call_isiK' (K := K) rfl) (by rfl) M_isinstance (by decide +kernel) (pa_cons (pv 0) (pa_cons (pe_bltn (v := .ty "int") (by rfl) M_int (by decide +kernel) rfl) pa_nil))) (pe_one (pe_not (pe_callB (call_isiK' (K := K) rfl) (by rfl) M_isinstance (by decide +kernel) (pa_cons (pv 0) (pa_cons (pe_bltn (v := .ty "bool") (by rfl) M_bool (by decide +kernel) rfl) pa_nil)))))))), ?_⟩)
  try dsimp only [cxOf]
  intro H0 ds μ kk ex hW h
  obtain ⟨n, rfl, q⟩ := h
  walk_at "r0"
  refine iteT ?_
  walk_at "r"
  exact q
theorem scN__law_sign_by : FnScope ["_law_cell", "_law_some"] ["_law_cell"] (defScope s__law_sign_by) := ⟨rfl, rfl, rfl, by decide +kernel, rfl, by decide +kernel, by decide +kernel⟩
theorem ok__law_sign_by {f : Addr} {fd : FuncData} (F : Fun K "_law_sign_by" "_law_sign_by" s__law_sign_by f fd)  : FnD P w K mg base (k + 1) f fd ["_law_cell"] (spOf K mg 1 S__law_sign_by) := by
  refine okD F scN__law_sign_by (fun cdv A outer s H E hr => ⟨_, (pss_cons (ps_set (i := 1) scN__law_sign_by.nd rfl (Or.inl rfl) pe_str)
      (pss_cons (ps_set (i := 1) scN__law_sign_by.nd rfl (Or.inl rfl) (pe_op (op_addK (K := K) rfl) (pv 1) pe_str))
      (pss_one (ps_ret (pe_ix (ix_K (K := K) rfl) (pv 1) (pe_op op_modU (pv 0) pe_int) (fun _ _ => rfl)))))), ?_⟩)
  try dsimp only [cxOf]
  intro H0 ds μ kk ex hW h
  obtain ⟨c, rfl, q⟩ := h
  walk_at "r0"
  have h0 : 0 ≤ c % 94 := Int.emod_nonneg _ (by decide)
  have h1 : c % 94 < 94 := Int.emod_lt_of_pos _ (by decide)
  refine wr_addS (sz_le (by decide +kernel)) ?_
  walk_at "r"
  have hl : (c % 94).toNat < sgn.length := by rw [sgn_len]; omega
  have e : c % 94 = (((c % 94).toNat : Nat) : Int) := by omega
  refine wr_ixS (c := sgnAt c) (sz_le (by decide +kernel)) ?_ q
  show atI sgn (c % 94) = _
  rw [e, atV]
  unfold sgnAt
  rw [List.getD_eq_getElem?_getD, List.getElem?_eq_getElem hl]
  rfl
theorem scN__law_word_by : FnScope ["_law_cell", "_law_size", "_law_made", "_law_number", "_law_k"] ["_law_cell", "_law_size"] (defScope s__law_word_by) := ⟨rfl, rfl, rfl, by decide +kernel, rfl, by decide +kernel, by decide +kernel⟩
theorem ok__law_word_by {f : Addr} {fd : FuncData} (F : Fun K "_law_word_by" "_law_word_by" s__law_word_by f fd) (M_range : mg "range" = none) (D__law_sign_by : Df P w K mg base k "_law_sign_by" ["_law_cell"] S__law_sign_by) : FnD P w K mg base (k + 1) f fd ["_law_cell", "_law_size"] (spOf K mg 2 S__law_word_by) := by
  refine okD F scN__law_word_by (fun cdv A outer s H E hr => ⟨_, (pss_cons (ps_set (i := 2) scN__law_word_by.nd rfl (Or.inl rfl) pe_str)
      (pss_cons (ps_set (i := 3) scN__law_word_by.nd rfl (Or.inl rfl) (pv 0))
      (pss_cons (ps_for (passes_of rfl) rfl (pi_range1 rfl M_range (pa_cons (pv 1) pa_nil)) (pg_name (i := 4) scN__law_word_by.nd rfl (Or.inl rfl)) (pss_cons (ps_set (i := 3) scN__law_word_by.nd rfl (Or.inl rfl) (pe_op op_modU (pe_op (op_addK (K := K) rfl) (pe_op op_mulU (pv 3) pe_int) pe_int) pe_int))
      (pss_one (ps_set (i := 2) scN__law_word_by.nd rfl (Or.inl rfl) (pe_op (op_addK (K := K) rfl) (pv 2) (pe_dfK D__law_sign_by ⟨rfl, rfl, rfl, rfl, rfl⟩ hr (takes_of rfl rfl rfl rfl) rfl (pa_cons (pe_op (op_addK (K := K) rfl) pe_int (pe_op op_modU (pe_op op_fdvU (pv 3) pe_int) (pe_ix (ix_K (K := K) rfl) (pe_lst (pa_cons pe_int (pa_cons pe_int pa_nil))) (pe_op op_modU (pv 0) pe_int) (fun _ _ => rfl)))) pa_nil)))))))
      (pss_one (ps_ret (pv 2)))))), ?_⟩)
  try dsimp only [cxOf]
  intro H0 ds μ kk ex hW h
  obtain ⟨c, n, rfl, h0, h1, q⟩ := h
  walk_at "r0"
  refine wp_for (wi_rng1 ?_)
  walk_at "r"
  refine ⟨n, rfl, by omega, by omega, fun i ρ' μ' => μ' = μ ∧ ∃ (m : Int) (x : Tx) (z : Option Dv), ρ' = [some (.int c), some (.int n), some (.str x), some (.int m), z] ∧ x.length = i ∧ i ≤ n.toNat ∧ okS x, ⟨rfl, c, [], none, rfl, rfl, by omega, okS_nil⟩, ?_, ?_⟩
  · rintro i d ρ' μ' hd ⟨rfl, m, x, z, rfl, hx, hi, ho⟩
    have hlt : i < n.toNat := by
      have := (List.getElem?_eq_some_iff.mp hd).1
      simpa using this
    walk_at "r"
    refine wp_call hW ?_
    walk_at "r"
    have h2 : 0 ≤ c % 2 := Int.emod_nonneg _ (by decide)
    have h3 : c % 2 < 2 := Int.emod_lt_of_pos _ (by decide)
    have h5 : ∀ a b : Int, 0 < a → 0 < b → 0 < (if c % 2 = 0 then a else b) := fun a b ha hb => by split <;> assumption
    refine wr_ixL isL_d (at_two h2 h3) ?_
    by_cases c2 : c % 2 = 0
    · rw [if_pos c2]
      walk_at "r"
      refine ⟨rfl, _, rfl, ?_⟩
      refine wr_addS (sz_le (by rw [hx]; simp; omega)) ?_
      walk_at "r"
      exact ⟨rfl, _, _, _, rfl, by simp [hx], hlt, okS_app ho (fun ch hc => by rw [List.mem_singleton.mp hc]; exact sgnAt_in _)⟩
    · rw [if_neg c2]
      walk_at "r"
      refine ⟨rfl, _, rfl, ?_⟩
      refine wr_addS (sz_le (by rw [hx]; simp; omega)) ?_
      walk_at "r"
      exact ⟨rfl, _, _, _, rfl, by simp [hx], hlt, okS_app ho (fun ch hc => by rw [List.mem_singleton.mp hc]; exact sgnAt_in _)⟩
  · rintro ρ' μ' ⟨rfl, m, x, z, rfl, hx, hi, ho⟩
    walk_at "r"
    refine q x ?_ ho
    rw [hx]
    simp
theorem scN__law_number_by : FnScope ["_law_cell", "_law_size", "_law_number", "_law_mixed", "_law_k"] ["_law_cell"] (defScope s__law_number_by) := ⟨rfl, rfl, rfl, by decide +kernel, rfl, by decide +kernel, by decide +kernel⟩
theorem ok__law_number_by {f : Addr} {fd : FuncData} (F : Fun K "_law_number_by" "_law_number_by" s__law_number_by f fd) (M_range : mg "range" = none) : FnD P w K mg base (k + 1) f fd ["_law_cell"] (spOf K mg 1 S__law_number_by) := by
  refine okD F scN__law_number_by (fun cdv A outer s H E hr => ⟨_, (pss_cons (ps_if (pt_cmpR op_gtU (pe_op op_modU (pv 0) pe_int) pe_int (nomark _)) (pss_one (ps_ret (pe_op op_subU (pe_op op_modU (pe_op op_fdvU (pv 0) pe_int) pe_int) pe_int))) pss_nil)
      (pss_cons (ps_set (i := 1) scN__law_number_by.nd rfl (Or.inl rfl) (pe_ix (ix_K (K := K) rfl) (pe_lst (pa_cons pe_int (pa_cons (pe_op (op_addK (K := K) rfl) pe_int (pe_op op_modU (pe_op op_fdvU (pv 0) pe_int) pe_int)) pa_nil))) (pe_op op_modU (pv 0) pe_int) (fun _ _ => rfl)))
      (pss_cons (ps_set (i := 2) scN__law_number_by.nd rfl (Or.inl rfl) pe_int)
      (pss_cons (ps_set (i := 3) scN__law_number_by.nd rfl (Or.inl rfl) (pv 0))
      (pss_cons (ps_for (passes_of rfl) rfl (pi_range1 rfl M_range (pa_cons (pv 1) pa_nil)) (pg_name (i := 4) scN__law_number_by.nd rfl (Or.inl rfl)) (pss_cons (ps_set (i := 3) scN__law_number_by.nd rfl (Or.inl rfl) (pe_op op_modU (pe_op (op_addK (K := K) rfl) (pe_op op_mulU (pv 3) pe_int) pe_int) pe_int))
      (pss_one (ps_set (i := 2) scN__law_number_by.nd rfl (Or.inl rfl) (pe_op (op_addK (K := K) rfl) (pe_op op_mulU (pv 2) pe_int) (pe_op op_modU (pe_op op_fdvU (pv 3) pe_int) pe_int))))))
      (pss_one (ps_ret (pe_op op_mulU (pe_ix (ix_K (K := K) rfl) (pe_lst (pa_cons pe_int (pa_cons (pe_un un_neg pe_int) pa_nil))) (pe_op op_modU (pe_op op_fdvU (pv 0) pe_int) pe_int) (fun _ _ => rfl)) (pv 2))))))))), ?_⟩)
  try dsimp only [cxOf]
  intro H0 ds μ kk ex hW h
  obtain ⟨c, rfl, q⟩ := h
  have h0 : 0 ≤ c % 5 := Int.emod_nonneg _ (by decide)
  have h3 : c % 5 < 5 := Int.emod_lt_of_pos _ (by decide)
  have h4 : 0 ≤ c / 10 % 60 := Int.emod_nonneg _ (by decide)
  have h5 : c / 10 % 60 < 60 := Int.emod_lt_of_pos _ (by decide)
  unfold numF at q
  walk_at "r0"
  refine iteD (fun c1 => ?_) (fun c1 => ?_)
  · rw [if_pos c1] at q
    walk_at "r"
    exact q
  · rw [if_neg c1] at q
    walk_at "r"
    refine wr_ixL isL_d (at_two h0 (by omega)) ?_
    have e5 : (if c % 5 = 0 then Dv.int 60 else Dv.int (1 + c / 10 % 60)) = .int (if c % 5 = 0 then 60 else 1 + c / 10 % 60) := by split <;> rfl
    rw [e5]
    generalize hs : (if c % 5 = 0 then 60 else 1 + c / 10 % 60 : Int) = sz at q
    have hs0 : 0 ≤ sz ∧ sz ≤ 60 := by rw [← hs]; split <;> omega
    walk_at "r"
    refine wp_for (wi_rng1 ?_)
    walk_at "r"
    refine ⟨sz, rfl, by omega, by omega, fun i ρ' μ' => μ' = μ ∧ ∃ (z : Option Dv), ρ' = [some (.int c), some (.int sz), some (.int (numS c i).2), some (.int (numS c i).1), z], ⟨rfl, none, rfl⟩, ?_, ?_⟩
    · rintro i d ρ' μ' hd ⟨rfl, z, rfl⟩
      walk_at "r"
      exact ⟨rfl, _, rfl⟩
    · rintro ρ' μ' ⟨rfl, z, rfl⟩
      walk_at "r"
      have h6 : 0 ≤ c / 5 % 2 := Int.emod_nonneg _ (by decide)
      have h7 : c / 5 % 2 < 2 := Int.emod_lt_of_pos _ (by decide)
      refine wr_ixL isL_d (at_two h6 h7) ?_
      have e6 : (if c / 5 % 2 = 0 then Dv.int 1 else Dv.int (-1)) = .int (if c / 5 % 2 = 0 then 1 else -1) := by split <;> rfl
      rw [e6]
      walk_at "r"
      have el : ((List.range sz.toNat).map fun (i : Nat) => Dv.int (i : Nat)).length = sz.toNat := by simp
      rw [el]
      exact q
end
section
variable {P : Program} {w : World} {K : PySem.W.Frag} {mg : Str → Option Value} {base : Heap} {k : Nat}
/-- the text of a row of a list, asked by the remainder -/
theorem wr_row {H0 : Hp} {ρ : DEnv} {μ : DMem} {kk : Dv → DMem → Prop} {R : List Rw} {i : Int} (h : R ≠ []) (q : ∀ r ∈ R, kk (encR r) μ) : wpR K H0 (rIx K) (.lst (R.map encR)) (.int (i % (R.length : Int))) ρ μ kk := by
  obtain ⟨r, hr, e⟩ := at_rem (i := i) h
  refine wr_ixL (d := encR r) isL_d ?_ (q r hr)
  unfold atI at e ⊢
  rw [List.length_map]
  cases e2 : ixN R.length (i % (R.length : Int)) with
  | none => rw [e2] at e; cases e
  | some n =>
    rw [e2] at e
    show (R.map encR)[n]? = _
    rw [List.getElem?_map, show R[n]? = some r from e]
    rfl
theorem isEmpty_map {α β : Type} (l : List α) (f : α → β) : (l.map f).isEmpty = l.isEmpty := by cases l <;> rfl
theorem toNat_cast' (n : Int) (l : Nat) (h : 0 ≤ n) : ((n.toNat : Nat) : Int) = n := by omega
theorem emod_bd (a : Int) {b : Int} (h : 0 < b) : 0 ≤ a % b ∧ a % b < b := ⟨Int.emod_nonneg _ (by omega), Int.emod_lt_of_pos _ h⟩
theorem cutL_nat {α : Type} (l : List α) {n : Int} (h : 0 ≤ n) : cutL l none (some n) = l.take n.toNat := by
  obtain ⟨m, rfl⟩ : ∃ m : Nat, n = (m : Int) := ⟨n.toNat, by omega⟩
  rw [cutL_to]
  rfl
end
/-! ### data alike -/
mutual
def dOk : Dv → Bool
  | .non => true
  | .bl b => b
  | .int _ => true
  | .str _ => true
  | .lst ds => decide (ds.length ≤ 1000000) && dOkA ds
  | .tup ds => decide (ds.length ≤ 1000000) && dOkA ds
  | _ => false
def dOkA : List Dv → Bool
  | [] => true
  | d :: ds => dOk d && dOkA ds
end
mutual
def dDep : Dv → Nat
  | .lst ds => dDepA ds + 1
  | .tup ds => dDepA ds + 1
  | _ => 1
def dDepA : List Dv → Nat
  | [] => 0
  | d :: ds => max (dDep d) (dDepA ds)
end
theorem dOkA_mem : ∀ {ds : List Dv} {d : Dv}, dOkA ds = true → d ∈ ds → dOk d = true
  | e :: ds, d, h, hm => by
    rw [dOkA, Bool.and_eq_true] at h
    rcases List.mem_cons.mp hm with rfl | hm
    · exact h.1
    · exact dOkA_mem h.2 hm
theorem dDepA_mem : ∀ {ds : List Dv} {d : Dv}, d ∈ ds → dDep d ≤ dDepA ds
  | e :: ds, d, hm => by
    rw [dDepA]
    rcases List.mem_cons.mp hm with rfl | hm
    · exact Nat.le_max_left _ _
    · exact Nat.le_trans (dDepA_mem hm) (Nat.le_max_right _ _)
theorem dDep_pos (d : Dv) : 1 ≤ dDep d := by cases d <;> simp [dDep]
/-- told alike: the same data, a list's cell, or a pair of such -/
inductive Al (μ : DMem) : Dv → Dv → Prop
  | same (d : Dv) : Al μ d d
  | cel {a : Dv} {l : List Dv} : IsL μ a l → Al μ a (.lst l)
  | pair {x x' y y' : Dv} : Al μ x x' → Al μ y y' → Al μ (.tup [x, y]) (.tup [x', y'])
theorem Al.lst {μ : DMem} {a : Dv} {l : List Dv} (h : Al μ a (.lst l)) : IsL μ a l := by
  cases h with
  | same => exact isL_d
  | cel h => exact h
theorem Al.tup {μ : DMem} {a : Dv} {l : List Dv} (h : Al μ a (.tup l)) : ∃ as, a = .tup as ∧ as.length = l.length ∧ ∀ (i : Nat) (x y : Dv), as[i]? = some x → l[i]? = some y → Al μ x y := by
  cases h with
  | same => exact ⟨l, rfl, rfl, fun i x y h1 h2 => by rw [h1] at h2; cases h2; exact .same _⟩
  | pair h1 h2 =>
    refine ⟨_, rfl, rfl, fun i x y e1 e2 => ?_⟩
    match i, e1, e2 with
    | 0, e1, e2 => cases e1; cases e2; exact h1
    | 1, e1, e2 => cases e1; cases e2; exact h2
theorem Al.flat {μ : DMem} {a d : Dv} (h : Al μ a d) (h1 : ∀ l, d ≠ .lst l) (h2 : ∀ l, d ≠ .tup l) : a = d := by
  cases h with
  | same => rfl
  | cel _ => exact absurd rfl (h1 _)
  | pair _ _ => exact absurd rfl (h2 _)
def isTrueD : Dv → Bool
  | .bl true => true
  | _ => false
theorem rp_true {K : PySem.W.Frag} {H : Hp} {v : V} {d : Dv} (r : Rp K H v d) : decide (v = .bl true) = isTrueD d := by
  cases r with
  | bl b => cases b <;> simp [isTrueD]
  | _ => simp [isTrueD]
theorem wr_isNV {K : PySem.W.Frag} {H0 : Hp} {ρ : DEnv} {μ : DMem} {k : Dv → DMem → Prop} {a : Dv} (q : k (.bl (isNonD a)) μ) : wpR K H0 rIsV a .non ρ μ k := wr_1 (wr_isN q)
theorem wr_isTV {K : PySem.W.Frag} {H0 : Hp} {ρ : DEnv} {μ : DMem} {k : Dv → DMem → Prop} {a : Dv} (q : k (.bl (isTrueD a)) μ) : wpR K H0 rIsV a (.bl true) ρ μ k := wr_2 fun σ H v w S r1 r2 Q hQ => ⟨r2.bl_inv, by rw [rp_true r1]; exact hQ _ μ _ H q (Fo.refl S) (.bl _)⟩
def S__law_alike (n : Nat) : Spc := fun ds μ k ex => ∃ a d : Dv, ds = [a, d] ∧ Al μ a d ∧ dOk d = true ∧ dDep d ≤ n ∧ k (.bl true) μ
theorem zero_alike (ds : List Dv) (μ : DMem) (kk : Dv → DMem → Prop) (ex : Str → DMem → Prop) : ¬ S__law_alike 0 ds μ kk ex := fun ⟨_, d, _, _, _, h, _⟩ => by
  have := dDep_pos d
  omega
theorem atI_m1 {α : Type} {l : List α} {x : α} (h : l.getLast? = some x) : atI l (-1) = some x := by
  obtain ⟨l', e⟩ := List.getLast?_eq_some_iff.mp h
  subst e
  unfold atI ixN
  rw [if_neg (by omega), if_pos (by simp; omega)]
  show (l' ++ [x])[(-1 + ((l' ++ [x]).length : Int)).toNat]? = some x
  have : (-1 + ((l' ++ [x]).length : Int)).toNat = l'.length := by simp; omega
  rw [this]
  simp
section
variable {P : Program} {w : World} {K : PySem.W.Frag} {mg : Str → Option Value} {base : Heap} {k : Nat}
local macro_rules | `(tactic| walk_at "ra") => `(tactic| repeat (first | (with_reducible refine wr_isNV ?_) | (with_reducible refine wr_isTV ?_) | ((with_reducible refine wp_isi ?hz ?_); (case hz => decide)) | walk_at "rd" | walk_at "rz" | walk_at "v" | dsimp only [List.set_cons_zero, List.set_cons_succ] | (refine iteF ?_) | (refine iteT ?_)))
theorem scN__law_alike : FnScope ["_law_told", "_law_due_here", "_law_k"] ["_law_told", "_law_due_here"] (defScope s__law_alike) := ⟨rfl, rfl, rfl, by decide +kernel, rfl, by decide +kernel, by decide +kernel⟩
theorem ok__law_alike {f : Addr} {fd : FuncData} {n : Nat} (F : Fun K "_law_alike" "_law_alike" s__law_alike f fd) (M_range : mg "range" = none) (M_len : mg "len" = none) (D__law_alike : Df P w K mg base k "_law_alike" ["_law_told", "_law_due_here"] (S__law_alike n)) (M_isinstance : mg "isinstance" = none) (M_list : mg "list" = none) (M_tuple : mg "tuple" = none) (M_int : mg "int" = none) (D__law_whole : Df P w K mg base k "_law_whole" ["_law_told"] S__law_whole) (M_str : mg "str" = none) : FnD P w K mg base (k + 1) f fd ["_law_told", "_law_due_here"] (spOf K mg 2 (S__law_alike (n + 1))) := by
  refine okD F scN__law_alike (fun cdv A outer s H E hr => ⟨_, (pss_cons (ps_if (pt_cmpR op_isV (pv 1) pe_non (nomark _)) (pss_one (ps_ret (pe_cmpR op_isV (pv 0) pe_non (nomark _)))) pss_nil)
      (pss_cons (ps_if (pt_cmpR op_isV (pv 1) pe_bl (nomark _)) (pss_one (ps_ret (pe_cmpR op_isV (pv 0) pe_bl (nomark _)))) pss_nil)
      (pss_cons (ps_if (pt_val (pe_callB (call_isiK' (K := K) rfl) (by rfl) M_isinstance (by decide +kernel) (pa_cons (pv 1) (pa_cons (pe_bltn (v := .ty "str") (by rfl) M_str (by decide +kernel) rfl) pa_nil)))) (pss_one (ps_ret (pe_and (pe_callB (call_isiK' (K := K) rfl) (by rfl) M_isinstance (by decide +kernel) (pa_cons (pv 0) (pa_cons (pe_bltn (v := .ty "str") (by rfl) M_str (by decide +kernel) rfl) pa_nil))) (pe_one (pe_cmpR (op_eqK (K := K) rfl hr.units) (pv 0) (pv 1) (nomark _)))))) pss_nil)
      (pss_cons (ps_if (pt_val (pe_callB (call_isiK' (K := K) rfl) (by rfl) M_isinstance (by decide +kernel) (pa_cons (pv 1) (pa_cons (pe_bltn (v := .ty "int") (by rfl) M_int (by decide +kernel) rfl) pa_nil)))) (pss_one (ps_ret (pe_and (pe_dfK D__law_whole ⟨rfl, rfl, rfl, rfl, rfl⟩ hr (takes_of rfl rfl rfl rfl) rfl (pa_cons (pv 0) pa_nil)) (pe_one (pe_cmpR (op_eqK (K := K) rfl hr.units) (pv 0) (pv 1) (nomark _)))))) pss_nil)
      (pss_cons (ps_if (PW.pt (pw_and (pt_val (pe_callB (call_isiK' (K := K) rfl) (by rfl) M_isinstance (by decide +kernel) (pa_cons (pv 1) (pa_cons (pe_bltn (v := .ty "tuple") (by rfl) M_tuple (by decide +kernel) rfl) pa_nil)))) (pw_and1 (pt_not (pt_val (pe_callB (call_isiK' (K := K) rfl) (by rfl) M_isinstance (by decide +kernel) (pa_cons (pv 0) (pa_cons (pe_bltn (v := .ty "tuple") (by rfl) M_tuple (by decide +kernel) rfl) pa_nil)))))))) (pss_one (ps_ret pe_bl)) pss_nil)
      (pss_cons (ps_if (PW.pt (pw_and (pt_val (pe_callB (call_isiK' (K := K) rfl) (by rfl) M_isinstance (by decide +kernel) (pa_cons (pv 1) (pa_cons (pe_bltn (v := .ty "list") (by rfl) M_list (by decide +kernel) rfl) pa_nil)))) (pw_and1 (pt_not (pt_val (pe_callB (call_isiK' (K := K) rfl) (by rfl) M_isinstance (by decide +kernel) (pa_cons (pv 0) (pa_cons (pe_bltn (v := .ty "list") (by rfl) M_list (by decide +kernel) rfl) pa_nil)))))))) (pss_one (ps_ret pe_bl)) pss_nil)
      (pss_cons (ps_if (pt_cmpR (op_neK (K := K) rfl hr.units) (pe_callB (call_lenK (K := K) rfl) (by rfl) M_len PySem.boot_len (pa_cons (pv 0) pa_nil)) (pe_callB (call_lenK (K := K) rfl) (by rfl) M_len PySem.boot_len (pa_cons (pv 1) pa_nil)) (nomark _)) (pss_one (ps_ret pe_bl)) pss_nil)
      (pss_cons (ps_for (passes_of rfl) rfl (pi_range1 rfl M_range (pa_cons (pe_callB (call_lenK (K := K) rfl) (by rfl) M_len PySem.boot_len (pa_cons (pv 1) pa_nil)) pa_nil)) (pg_name (i := 2) scN__law_alike.nd rfl (Or.inl rfl)) (pss_one (ps_if (pt_not (pt_val (pe_dfK D__law_alike ⟨rfl, rfl, rfl, rfl, rfl⟩ hr (takes_of rfl rfl rfl rfl) rfl (pa_cons (pe_ix (ix_K (K := K) rfl) (pv 0) (pv 2) (fun _ _ => rfl)) (pa_cons (pe_ix (ix_K (K := K) rfl) (pv 1) (pv 2) (fun _ _ => rfl)) pa_nil))))) (pss_one (ps_ret pe_bl)) pss_nil)))
      (pss_one (ps_ret pe_bl)))))))))), ?_⟩)
  try dsimp only [cxOf]
  intro H0 ds μ kk ex hW h
  obtain ⟨a, d, rfl, hc, hok, hd, q⟩ := h
  walk_at "env"
  cases d with
  | bl b =>
    have eb : b = true := hok
    subst eb
    cases hc.flat (fun _ e => nomatch e) (fun _ e => nomatch e)
    walk_at "ra"
    exact q
  | ref a => simp [dOk] at hok
  | scr ns => simp [dOk] at hok
  | non =>
    cases hc.flat (fun _ e => nomatch e) (fun _ e => nomatch e)
    walk_at "ra"
    exact q
  | int i =>
    cases hc.flat (fun _ e => nomatch e) (fun _ e => nomatch e)
    walk_at "ra"
    refine wp_call hW ?_
    walk_at "ra"
    refine ⟨rfl, i, rfl, ?_⟩
    walk_at "ra"
    rw [decide_eq_true (rfl : i = i)]
    exact q
  | str x =>
    cases hc.flat (fun _ e => nomatch e) (fun _ e => nomatch e)
    walk_at "ra"
    rw [decide_eq_true (rfl : x = x)]
    exact q
  | lst l =>
    have hL := hc.lst
    rw [dOk, Bool.and_eq_true, decide_eq_true_eq] at hok
    rw [dDep] at hd
    walk_at "ra"
    refine ⟨_, .inr ⟨_, hL, rfl⟩, ?_⟩
    walk_at "ra"
    refine wc_lenL hL ?_
    walk_at "ra"
    refine iteND (fun h => absurd rfl h) (fun _ => ?_)
    walk_at "ra"
    refine wp_for (wi_rng1 ?_)
    walk_at "ra"
    refine ⟨_, rfl, by omega, by omega, fun i ρ' μ' => μ' = μ ∧ ∃ z : Option Dv, ρ' = [some a, some (.lst l), z], ⟨rfl, none, rfl⟩, ?_, ?_⟩
    · rintro i d ρ' μ' hdd ⟨rfl, z, rfl⟩
      have hi : i < l.length := by
        have := (List.getElem?_eq_some_iff.mp hdd).1
        simpa using this
      have e : d = .int (i : Nat) := by
        rw [List.getElem?_map, List.getElem?_range (by simpa using hi)] at hdd
        exact (Option.some.inj hdd).symm
      subst e
      have hx : l[i]? = some l[i] := List.getElem?_eq_getElem hi
      have hm : l[i] ∈ l := List.getElem_mem hi
      walk_at "ra"
      refine wp_call hW ?_
      walk_at "ra"
      refine wr_ixL (d := l[i]) hL (atV.mpr hx) ?_
      walk_at "ra"
      refine wr_ixL (d := l[i]) isL_d (atV.mpr hx) ?_
      walk_at "ra"
      refine ⟨rfl, _, l[i], rfl, .same _, dOkA_mem hok.2 hm, by have := dDepA_mem hm; omega, ?_⟩
      walk_at "ra"
      exact ⟨rfl, _, rfl⟩
    · rintro ρ' μ' ⟨rfl, z, rfl⟩
      walk_at "ra"
      exact q
  | tup l =>
    obtain ⟨as, rfl, hl, hA⟩ := hc.tup
    rw [dOk, Bool.and_eq_true, decide_eq_true_eq] at hok
    rw [dDep] at hd
    walk_at "ra"
    refine iteND (fun h => absurd (by rw [hl]) h) (fun _ => ?_)
    walk_at "ra"
    refine wp_for (wi_rng1 ?_)
    walk_at "ra"
    refine ⟨_, rfl, by omega, by omega, fun i ρ' μ' => μ' = μ ∧ ∃ z : Option Dv, ρ' = [some (.tup as), some (.tup l), z], ⟨rfl, none, rfl⟩, ?_, ?_⟩
    · rintro i d ρ' μ' hdd ⟨rfl, z, rfl⟩
      have hi : i < l.length := by
        have := (List.getElem?_eq_some_iff.mp hdd).1
        simpa using this
      have e : d = .int (i : Nat) := by
        rw [List.getElem?_map, List.getElem?_range (by simpa using hi)] at hdd
        exact (Option.some.inj hdd).symm
      subst e
      have hx : l[i]? = some l[i] := List.getElem?_eq_getElem hi
      have hi2 : i < as.length := by omega
      have hx2 : as[i]? = some as[i] := List.getElem?_eq_getElem hi2
      have hm : l[i] ∈ l := List.getElem_mem hi
      walk_at "ra"
      refine wp_call hW ?_
      walk_at "ra"
      refine wr_ixT (d := as[i]) (atV.mpr hx2) ?_
      walk_at "ra"
      refine wr_ixT (d := l[i]) (atV.mpr hx) ?_
      walk_at "ra"
      refine ⟨rfl, _, l[i], rfl, hA i _ _ hx2 hx, dOkA_mem hok.2 hm, by have := dDepA_mem hm; omega, ?_⟩
      walk_at "ra"
      exact ⟨rfl, _, rfl⟩
    · rintro ρ' μ' ⟨rfl, z, rfl⟩
      walk_at "ra"
      exact q
end
/-! ### drawn texts, a drawn deed -/
def Txd (H : List Tx) (d : Dv) : Prop := (∃ x : Tx, d = .str x ∧ x.length ≤ 41 ∧ ((∀ h ∈ H, h.all okc = true) → x.all okc = true)) ∨ d = .str [97, 10] ∨ d = .str [9, 98] ∨ d = .non ∨ d = .int 7
def S__law_text_by : Spc := fun ds μ k ex => ∃ (c : Int) (H : List Tx), ds = [.int c, .lst (H.map Dv.str)] ∧ (∀ h ∈ H, h.length ≤ 40) ∧ H.length ≤ 1000 ∧ ∀ d, Txd H d → k d μ
def S__law_other_by : Spc := S__law_text_by
theorem Txd.thg {H : List Tx} {d : Dv} (h : Txd H d) (μ : DMem) {yes no : Prop} (hy : ∀ x, d = .str x → yes) (hn : no) : Thg μ d yes no := by
  rcases h with ⟨x, rfl, hx, _⟩ | rfl | rfl | rfl | rfl
  · exact .inl ⟨x, rfl, by omega, fun _ => hy x rfl, fun _ => hn⟩
  · exact .inl ⟨_, rfl, by decide, fun _ => hy _ rfl, fun _ => hn⟩
  · exact .inl ⟨_, rfl, by decide, fun _ => hy _ rfl, fun _ => hn⟩
  · exact .inr ⟨.inl (.inl rfl), hn⟩
  · exact .inr ⟨.inl (.inl rfl), hn⟩
theorem okS_okc {x : Tx} (h : okS x) : x.all okc = true := by
  rw [List.all_eq_true]
  intro c hc
  have := sgn_ok c (h c hc)
  unfold okc
  rw [decide_eq_true this.1, decide_eq_true this.2.1, decide_eq_false this.2.2]
  rfl
theorem okc_pre {x y : Tx} (h : y.all okc = true) (hp : ∀ c ∈ x, c ∈ y) : x.all okc = true := by
  rw [List.all_eq_true] at *
  exact fun c hc => h c (hp c hc)
theorem atI_nat {α : Type} {l : List α} {i : Int} (d : α) (h0 : 0 ≤ i) (h1 : i < l.length) : atI l i = some (l.getD i.toNat d) := by
  obtain ⟨j, rfl⟩ : ∃ j : Nat, i = (j : Int) := ⟨i.toNat, by omega⟩
  have hj : j < l.length := by omega
  rw [atV, List.getD_eq_getElem?_getD, Int.toNat_natCast, List.getElem?_eq_getElem hj]
  rfl
section
variable {P : Program} {w : World} {K : PySem.W.Frag} {mg : Str → Option Value} {base : Heap} {k : Nat}
theorem scN__law_text_by : FnScope ["_law_cell", "_law_held", "_law_size", "_law_word", "_law_old"] ["_law_cell", "_law_held"] (defScope s__law_text_by) := ⟨rfl, rfl, rfl, by decide +kernel, rfl, by decide +kernel, by decide +kernel⟩
theorem ok__law_text_by {f : Addr} {fd : FuncData} (F : Fun K "_law_text_by" "_law_text_by" s__law_text_by f fd) (M_len : mg "len" = none) (D__law_word_by : Df P w K mg base k "_law_word_by" ["_law_cell", "_law_size"] S__law_word_by) (M_int : mg "int" = none) : FnD P w K mg base (k + 1) f fd ["_law_cell", "_law_held"] (spOf K mg 2 S__law_text_by) := by
  refine okD F scN__law_text_by (fun cdv A outer s H E hr => ⟨_, (pss_cons (ps_if (pt_cmpR (op_eqK (K := K) rfl hr.units) (pe_op op_modU (pv 0) pe_int) pe_int (nomark _)) (pss_one (ps_ret (pe_ix (ix_K (K := K) rfl) (pe_lst (pa_cons pe_str (pa_cons pe_str (pa_cons (pe_dfK D__law_word_by ⟨rfl, rfl, rfl, rfl, rfl⟩ hr (takes_of rfl rfl rfl rfl) rfl (pa_cons (pv 0) (pa_cons pe_int pa_nil))) (pa_cons pe_non (pa_cons pe_int pa_nil)))))) (pe_op op_modU (pe_op op_fdvU (pv 0) pe_int) pe_int) (fun _ _ => rfl)))) pss_nil)
      (pss_cons (ps_set (i := 2) scN__law_text_by.nd rfl (Or.inl rfl) (pe_op (op_addK (K := K) rfl) (pe_op op_modU (pe_op op_fdvU (pv 0) pe_int) pe_int) (pe_op op_mulU pe_int (pe_callTy call_intU (by rfl) M_int (by decide +kernel) (pa_cons (pe_cmpR (op_eqK (K := K) rfl hr.units) (pe_op op_modU (pe_op op_fdvU (pv 0) pe_int) pe_int) pe_int (nomark _)) pa_nil)))))
      (pss_cons (ps_set (i := 3) scN__law_text_by.nd rfl (Or.inl rfl) (pe_dfK D__law_word_by ⟨rfl, rfl, rfl, rfl, rfl⟩ hr (takes_of rfl rfl rfl rfl) rfl (pa_cons (pe_op op_fdvU (pv 0) pe_int) (pa_cons (pv 2) pa_nil))))
      (pss_cons (ps_if (PW.pt (pw_or (pt_cmpR (op_eqK (K := K) rfl hr.units) (pe_op op_modU (pv 0) pe_int) pe_int (nomark _)) (pw_or1 (pt_cmpR (op_eqK (K := K) rfl hr.units) (pv 1) (pe_lst pa_nil) (nomark _))))) (pss_one (ps_ret (pv 3))) pss_nil)
      (pss_cons (ps_set (i := 4) scN__law_text_by.nd rfl (Or.inl rfl) (pe_ix (ix_K (K := K) rfl) (pv 1) (pe_op op_modU (pe_op op_fdvU (pv 0) pe_int) (pe_callB (call_lenK (K := K) rfl) (by rfl) M_len PySem.boot_len (pa_cons (pv 1) pa_nil))) (fun _ _ => rfl)))
      (pss_cons (ps_if (pt_cmpR (op_eqK (K := K) rfl hr.units) (pe_op op_modU (pv 0) pe_int) pe_int (nomark _)) (pss_one (ps_ret (pv 4))) pss_nil)
      (pss_cons (ps_if (pt_cmpR (op_eqK (K := K) rfl hr.units) (pe_op op_modU (pv 0) pe_int) pe_int (nomark _)) (pss_one (ps_ret (pe_slice (sl_K (K := K) rfl) (pe_op (op_addK (K := K) rfl) (pv 4) (pv 3)) po_none (po_some pe_int)))) pss_nil)
      (pss_one (ps_ret (pe_slice (sl_K (K := K) rfl) (pv 4) po_none (po_some (pe_op op_modU (pe_op op_modU (pe_op op_mulU (pv 0) pe_int) pe_int) (pe_op (op_addK (K := K) rfl) (pe_callB (call_lenK (K := K) rfl) (by rfl) M_len PySem.boot_len (pa_cons (pv 4) pa_nil)) pe_int))))))))))))), ?_⟩)
  try dsimp only [cxOf]
  intro H0 ds μ kk ex hW h
  obtain ⟨c, H, rfl, hH, hHn, q⟩ := h
  walk_at "r0"
  refine iteD (fun c1 => ?_) (fun c1 => ?_)
  · walk_at "r"
    refine wp_call hW ?_
    walk_at "r"
    refine ⟨rfl, _, _, rfl, by decide, by decide, fun x hx hxo => ?_⟩
    walk_at "r"
    have b := emod_bd (c / 23) (b := 5) (by decide)
    have ea : (("a\n" : Str).cps.toList) = [97, 10] := by decide +kernel
    have eb : (("\tb" : Str).cps.toList) = [9, 98] := by decide +kernel
    rw [ea, eb]
    have : c / 23 % 5 = 0 ∨ c / 23 % 5 = 1 ∨ c / 23 % 5 = 2 ∨ c / 23 % 5 = 3 ∨ c / 23 % 5 = 4 := by omega
    rcases this with e | e | e | e | e
    · rw [e]; exact wr_ixL isL_d rfl (q _ (.inr (.inl rfl)))
    · rw [e]; exact wr_ixL isL_d rfl (q _ (.inr (.inr (.inl rfl))))
    · rw [e]; exact wr_ixL isL_d rfl (q _ (.inl ⟨x, rfl, by rw [hx]; decide, fun _ => okS_okc hxo⟩))
    · rw [e]; exact wr_ixL isL_d rfl (q _ (.inr (.inr (.inr (.inl rfl)))))
    · rw [e]; exact wr_ixL isL_d rfl (q _ (.inr (.inr (.inr (.inr rfl)))))
  · refine wp_next ?_
    have b1 := emod_bd (c / 4) (b := 7) (by decide)
    refine wp_mid (fun ρ' μ' => μ' = μ ∧ ∃ n : Int, 0 ≤ n ∧ n ≤ 40 ∧ ρ' = [some (.int c), some (.lst (H.map Dv.str)), some (.int n), none, none]) ?_ ?_
    · walk_at "r"
      by_cases h8 : c / 28 % 9 = 8
      · rw [decide_eq_true h8]
        exact ⟨rfl, _, by simp; omega, by simp; omega, rfl⟩
      · rw [decide_eq_false h8]
        exact ⟨rfl, _, by simp; omega, by simp; omega, rfl⟩
    rintro ρ' μ' ⟨rfl, n, n0, n1, rfl⟩
    walk_at "r"
    refine wp_call hW ?_
    walk_at "r"
    refine ⟨rfl, _, _, rfl, n0, by omega, fun x hx hxo => ?_⟩
    have hxl : x.length ≤ 40 := by omega
    have fin : kk (.str x) μ' := q _ (.inl ⟨x, rfl, by omega, fun _ => okS_okc hxo⟩)
    walk_at "set"
    refine wp_mid (fun ρ' μ2 => μ2 = μ' ∧ H ≠ [] ∧ ρ' = [some (.int c), some (.lst (H.map Dv.str)), some (.int n), some (.str x), none]) ?_ ?_
    · walk_at "r"
      refine iteD (fun _ => ?_) (fun _ => ?_)
      · refine iteT ?_
        walk_at "r"
        exact fin
      · walk_at "r"
        refine wr_eqN isL_d isL_d ?_
        walk_at "r"
        rw [isEmpty_map]
        cases H with
        | nil =>
          refine iteT ?_
          walk_at "r"
          exact fin
        | cons y Hs =>
          refine iteF ?_
          walk_at "r"
          exact ⟨rfl, (fun z => nomatch z), rfl⟩
    rintro ρ' μ2 ⟨rfl, hne, rfl⟩
    have hpos := List.length_pos_iff.mpr hne
    walk_at "r"
    rw [List.length_map]
    refine wr_mod (by omega) ?_
    have b2 := emod_bd (c / 28) (b := (H.length : Nat)) (by omega)
    obtain ⟨y, hy, ey⟩ : ∃ y ∈ H, atI (H.map Dv.str) (c / 28 % (H.length : Nat)) = some (.str y) := by
      obtain ⟨j, hj2⟩ : ∃ j : Nat, c / 28 % (H.length : Nat) = (j : Int) := ⟨(c / 28 % (H.length : Nat)).toNat, by omega⟩
      have hj : j < H.length := by omega
      refine ⟨H[j], List.getElem_mem hj, ?_⟩
      rw [hj2, atV, List.getElem?_map, List.getElem?_eq_getElem hj]
      rfl
    refine wr_ixL isL_d ey ?_
    have hyl := hH y hy
    walk_at "r"
    refine iteD (fun _ => ?_) (fun _ => ?_)
    · walk_at "r"
      exact q _ (.inl ⟨y, rfl, by omega, fun h => h y hy⟩)
    · walk_at "r"
      refine iteD (fun _ => ?_) (fun _ => ?_)
      · walk_at "r"
        rw [show (40 : Int) = ((40 : Nat) : Int) from rfl, cutL_to]
        refine q _ (.inl ⟨_, rfl, by rw [List.length_take]; omega, fun h => ?_⟩)
        refine okc_pre (y := y ++ x) ?_ fun c hc => List.mem_of_mem_take hc
        rw [List.all_append, h y hy, okS_okc hxo]
        rfl
      · walk_at "r"
        refine q _ (.inl ⟨_, rfl, ?_, fun h => okc_pre (h y hy) fun c hc => ?_⟩)
        · unfold cutL
          rw [List.length_take, List.length_drop]
          omega
        · unfold cutL at hc
          exact List.mem_of_mem_drop (List.mem_of_mem_take hc)
theorem scN__law_other_by : FnScope ["_law_cell", "_law_held"] ["_law_cell", "_law_held"] (defScope s__law_other_by) := ⟨rfl, rfl, rfl, by decide +kernel, rfl, by decide +kernel, by decide +kernel⟩
theorem ok__law_other_by {f : Addr} {fd : FuncData} (F : Fun K "_law_other_by" "_law_other_by" s__law_other_by f fd) (D__law_text_by : Df P w K mg base k "_law_text_by" ["_law_cell", "_law_held"] S__law_text_by) : FnD P w K mg base (k + 1) f fd ["_law_cell", "_law_held"] (spOf K mg 2 S__law_other_by) := by
  refine okD F scN__law_other_by (fun cdv A outer s H E hr => ⟨_, (pss_cons (ps_if (pt_cmpR (op_eqK (K := K) rfl hr.units) (pe_op op_modU (pe_op op_fdvU (pv 0) pe_int) pe_int) pe_int (nomark _)) (pss_one (ps_ret (pe_dfK D__law_text_by ⟨rfl, rfl, rfl, rfl, rfl⟩ hr (takes_of rfl rfl rfl rfl) rfl (pa_cons (pe_op op_fdvU (pv 0) pe_int) (pa_cons (pv 1) pa_nil))))) pss_nil)
      (pss_one (ps_ret (pe_dfK D__law_text_by ⟨rfl, rfl, rfl, rfl, rfl⟩ hr (takes_of rfl rfl rfl rfl) rfl (pa_cons (pe_op op_modU (pe_op op_mulU (pv 0) pe_int) pe_int) (pa_cons (pv 1) pa_nil)))))), ?_⟩)
  try dsimp only [cxOf]
  intro H0 ds μ kk ex hW h
  obtain ⟨c, H, rfl, hH, hHn, q⟩ := h
  walk_at "r0"
  refine iteD (fun c1 => ?_) (fun c1 => ?_)
  · walk_at "r"
    refine wp_call hW ?_
    walk_at "r"
    exact ⟨rfl, _, H, rfl, hH, hHn, q⟩
  · walk_at "r"
    refine wp_call hW ?_
    walk_at "r"
    exact ⟨rfl, _, H, rfl, hH, hHn, q⟩
end
/-! ### deeds, told -/
def excs : List Str := ["NoName", "NotThere", "Taken", "TooLong", "TooMany", "NothingDone"]
def tX (s : Str) : Tx := s.cps.toList
/-- the word of an error class -/
def wordOf (c : Str) : Tx := if c = "NoName" then tX "no name" else if c = "NotThere" then tX "not there" else if c = "TooLong" then tX "too long" else if c = "Taken" then tX "taken" else if c = "TooMany" then tX "too many" else tX "nothing done"
def excN : Nat → Str
  | 0 => "NoName"
  | 1 => "NotThere"
  | 2 => "TooLong"
  | 3 => "Taken"
  | 4 => "TooMany"
  | _ => "NothingDone"
def wordN (n : Nat) : Tx := wordOf (excN n)
theorem excN_in (n : Nat) : excN n ∈ excs := by
  match n with
  | 0 => decide +kernel
  | 1 => decide +kernel
  | 2 => decide +kernel
  | 3 => decide +kernel
  | 4 => decide +kernel
  | n + 5 => exact (show ("NothingDone" : Str) ∈ excs from by decide +kernel)
/-- told texts and things that are none -/
def Tq (d : Dv) : Prop := (∃ x : Tx, d = .str x ∧ x.length ≤ 41 ∧ x.all okc = true) ∨ d = .str [97, 10] ∨ d = .str [9, 98] ∨ d = .non ∨ d = .int 7
theorem Txd.tq {H : List Tx} {d : Dv} (h : Txd H d) (hH : ∀ h ∈ H, h.all okc = true) : Tq d := by
  rcases h with ⟨x, rfl, hx, ho⟩ | h
  · exact .inl ⟨x, rfl, hx, ho hH⟩
  · exact .inr h
def nmD : Dv → Option Tx
  | .str x => if nameB x = true then some x else none
  | _ => none
theorem nmD_str (x : Tx) : nmD (.str x) = if nameB x = true then some x else none := rfl
theorem nmD_some {d : Dv} {x : Tx} (h : nmD d = some x) : d = .str x ∧ nameB x = true := by
  cases d with
  | str y =>
    rw [nmD_str] at h
    split at h
    case isTrue c => cases h; exact ⟨rfl, c⟩
    case isFalse => cases h
  | _ => cases h
theorem Tq.thg {d : Dv} (h : Tq d) (μ : DMem) {yes no : Prop} (hy : ∀ x, nmD d = some x → yes) (hn : nmD d = none → no) : Thg μ d yes no := by
  have st : ∀ x : Tx, d = .str x → x.length ≤ 41 → Thg μ d yes no := fun x e hx => by
    subst e
    refine .inl ⟨x, rfl, by omega, fun hb => hy x ?_, fun hb => hn ?_⟩
    · rw [nmD_str, if_pos hb]
    · rw [nmD_str, hb]; rfl
  rcases h with ⟨x, e, hx, _⟩ | e | e | e | e
  · exact st x e hx
  · exact st _ e (by decide)
  · exact st _ e (by decide)
  · subst e; exact .inr ⟨.inl (.inl rfl), hn rfl⟩
  · subst e; exact .inr ⟨.inl (.inl rfl), hn rfl⟩
def S__law_word_of (mg : Str → Option Value) : SpcE := fun D μ k => ∃ c ∈ excs, mg c = some (Value.ref D) ∧ k (.tup [.str (wordOf c), .bl true]) μ
def S__law_named : Spc := fun ds μ k ex => ∃ d, ds = [d] ∧ Tq d ∧ k (.bl (nmD d).isSome) μ
/-- what a deed answers, by the rows -/
def dueO (L : List Rw) (way : Int) (d1 d2 : Dv) (v : Int) : Out :=
  match nmD d1 with
  | none => .no 0
  | some x => if way = 0 then kpO L x v else if way = 1 then drO L x else if way = 2 then prO L x else match nmD d2 with
    | none => .no 0
    | some y => brO L (decide (way = 4)) x y
def OutK (o : Out) (no : Nat → Prop) (yes : Option Int → (Tx → Option Int) → Prop) : Prop :=
  match o with
  | .no n => no n
  | .yes a f => yes a f
def refD (n : Nat) : Dv := .tup [.str (wordN n), .bl true]
def tolD (d : Dv) : Dv := .tup [.str (tX "told"), d]
def S__law_tried (C : Addr) : Spc := fun ds μ k ex => ∃ (a dx p : Addr) (o : Option Tr) (past : List (Option Tr)) (way v : Int) (d1 d2 : Dv), ds = [.ref a, .int way, d1, d2, .int v] ∧ TrA C a dx p o past μ ∧ TrOk o ∧ past.length ≤ 1000000 ∧
  ((0 ≤ way ∧ way ≤ 4 ∧ Tq d1 ∧ Tq d2 ∧ OutK (dueO (namesO o) way d1 d2 v) (fun n => k (refD n) μ) (fun a' f => ∀ o', TrOk o' → (∀ y, getO o' y = f y) → PutD C a dx p o past μ o' (k (tolD (encI a'))))) ∨
   (way = 6 ∧ Tq d1 ∧ (nmD d1 = none → k (refD 0) μ) ∧ (∀ x, nmD d1 = some x → ∀ q, k (tolD (.ref q)) ((q, DCell.lst ((grp (namesO o) x).map encR)) :: μ))) ∨
   (way = 5 ∧ (past = [] → k (refD 5) μ) ∧ (∀ ps o', past = ps ++ [o'] → ∀ μ', TrA C a dx p o' ps μ' → Rs C a dx p o past μ μ' → k (tolD .non) μ')))
theorem word_step {K : PySem.W.Frag} {H0 : Hp} {μ : DMem} {P : Post} {r a D C : Addr} {c y w : Str} {ws : List Tx} (hC : ExcC K D) (hk : PySem.W.kitOne K (.ref D) (.ref C) = some (decide (c = y))) (hl : ws.length < 100)
    (q : P.nx [some (.ref a), some (.ref r)] ((r, .lst ((ws ++ if c = y then [w.cps.toList] else []).map Dv.str)) :: μ)) :
    wpS K H0 (tIfS (tB (tCB (rIsS K (Value.ref D) none a) (tCons (tVar 0) (tCons (tC (V.ref C)) tNil)))) (tDrop (tBM K "list" rAppend (tVar 1) (tCons (tC (V.str w)) tNil))) tNext) [some (Dv.ref a), some (Dv.ref r)] ((r, DCell.lst (ws.map Dv.str)) :: μ) P := by
  refine wp_if (wp_tB (wp_isS hC (cv := .ref C) (fun u h => h) hk rfl ⟨_, rfl, ?_⟩))
  by_cases e : c = y
  · rw [decide_eq_true e]
    rw [if_pos e] at q
    refine iteT ?_
    refine wp_drop (wp_app (wp_var rfl ⟨r, rfl, ⟨_, List.mem_cons_self⟩, wp_str ⟨[], ws.map Dv.str, μ, rfl, sz_lt (by rw [List.length_map]; omega), ?_⟩⟩))
    rw [List.map_append] at q
    exact q
  · rw [decide_eq_false e]
    rw [if_neg e, List.append_nil] at q
    refine iteF ?_
    exact wp_next q
theorem word_all (c : Str) (hc : c ∈ excs) : (Txt.join (sT []) (((((((([] ++ if c = "NoName" then [tX "no name"] else []) ++ if c = "NotThere" then [tX "not there"] else []) ++ if c = "TooLong" then [tX "too long"] else []) ++ if c = "Taken" then [tX "taken"] else []) ++ if c = "TooMany" then [tX "too many"] else []) ++ if c = "NothingDone" then [tX "nothing done"] else []) ++ if c = "NoNote" then [tX "no note"] else []).map sT)).cps.toList = wordOf c ∧ (((((((([] ++ if c = "NoName" then [tX "no name"] else []) ++ if c = "NotThere" then [tX "not there"] else []) ++ if c = "TooLong" then [tX "too long"] else []) ++ if c = "Taken" then [tX "taken"] else []) ++ if c = "TooMany" then [tX "too many"] else []) ++ if c = "NothingDone" then [tX "nothing done"] else []) ++ if c = "NoNote" then [tX "no note"] else []).map (fun x : Tx => x.length)).sum ≤ 1000 := by
  rcases List.mem_cons.mp hc with rfl | hc
  · exact ⟨by decide +kernel, by decide +kernel⟩
  rcases List.mem_cons.mp hc with rfl | hc
  · exact ⟨by decide +kernel, by decide +kernel⟩
  rcases List.mem_cons.mp hc with rfl | hc
  · exact ⟨by decide +kernel, by decide +kernel⟩
  rcases List.mem_cons.mp hc with rfl | hc
  · exact ⟨by decide +kernel, by decide +kernel⟩
  rcases List.mem_cons.mp hc with rfl | hc
  · exact ⟨by decide +kernel, by decide +kernel⟩
  rcases List.mem_cons.mp hc with rfl | hc
  · exact ⟨by decide +kernel, by decide +kernel⟩
  exact absurd hc List.not_mem_nil
theorem wr_notInC {K : PySem.W.Frag} {H0 : Hp} {ρ : DEnv} {μ : DMem} {kk : Dv → DMem → Prop} {c : Nat} {z : Tx} (q : kk (.bl (!decide (c ∈ z))) μ) : wpR K H0 (rNotInU K) (.str [c]) (.str z) ρ μ kk := wr_1 fun σ H v w S r1 r2 Q hQ => by
  cases r1.str_inv
  cases r2.str_inv
  exact ⟨c, sT z, rfl, rfl, by rw [cps_sT]; exact hQ _ μ _ H q (Fo.refl S) (.bl _)⟩
theorem okc_bad {x : Tx} {c : Nat} (h : c ∈ x) (hc : okc c = false) : x.all okc = false := by
  rw [List.all_eq_false]
  exact ⟨c, h, by rw [hc]; decide⟩
theorem ite_len {c : Prop} [Decidable c] (x : Tx) : (if c then [x] else []).length ≤ 1 := by split <;> simp
theorem due_no1 {L : List Rw} {way v : Int} {d1 d2 : Dv} (h : nmD d1 = none) : dueO L way d1 d2 v = .no 0 := by unfold dueO; rw [h]
theorem due_kp {L : List Rw} {v : Int} {d1 d2 : Dv} {x : Tx} (h : nmD d1 = some x) : dueO L 0 d1 d2 v = kpO L x v := by unfold dueO; rw [h]; rfl
theorem due_dr {L : List Rw} {v : Int} {d1 d2 : Dv} {x : Tx} (h : nmD d1 = some x) : dueO L 1 d1 d2 v = drO L x := by unfold dueO; rw [h]; rfl
theorem due_pr {L : List Rw} {v : Int} {d1 d2 : Dv} {x : Tx} (h : nmD d1 = some x) : dueO L 2 d1 d2 v = prO L x := by unfold dueO; rw [h]; rfl
theorem due_no2 {L : List Rw} {way v : Int} {d1 d2 : Dv} {x : Tx} (h : nmD d1 = some x) (h2 : nmD d2 = none) (hw : 2 < way) : dueO L way d1 d2 v = .no 0 := by
  unfold dueO
  rw [h]
  dsimp only
  rw [if_neg (by omega), if_neg (by omega), if_neg (by omega), h2]
theorem due_br {L : List Rw} {way v : Int} {d1 d2 : Dv} {x y : Tx} (h : nmD d1 = some x) (h2 : nmD d2 = some y) (hw : 2 < way) : dueO L way d1 d2 v = brO L (decide (way = 4)) x y := by
  unfold dueO
  rw [h]
  dsimp only
  rw [if_neg (by omega), if_neg (by omega), if_neg (by omega), h2]
theorem nm_is {d : Dv} {x x' : Tx} (h : nmD d = some x) (e : d = .str x') : x' = x := by
  rw [(nmD_some h).1] at e
  cases e
  rfl
section
variable {P : Program} {w : World} {K : PySem.W.Frag} {mg : Str → Option Value} {base : Heap} {k : Nat}
theorem scN__law_word_of : FnScope ["_law_e", "_law_words"] ["_law_e"] (defScope s__law_word_of) := ⟨rfl, rfl, rfl, by decide +kernel, rfl, by decide +kernel, by decide +kernel⟩
theorem ok__law_word_of {f : Addr} {fd : FuncData} (F : Fun K "_law_word_of" "_law_word_of" s__law_word_of f fd) (M_isinstance : mg "isinstance" = none) (M_ValueError : mg "ValueError" = none) {C_NoNote : Addr} (G_NoNote : mg "NoNote" = some (.ref C_NoNote)) {C_NothingDone : Addr} (G_NothingDone : mg "NothingDone" = some (.ref C_NothingDone)) {C_TooMany : Addr} (G_TooMany : mg "TooMany" = some (.ref C_TooMany)) {C_Taken : Addr} (G_Taken : mg "Taken" = some (.ref C_Taken)) {C_TooLong : Addr} (G_TooLong : mg "TooLong" = some (.ref C_TooLong)) {C_NotThere : Addr} (G_NotThere : mg "NotThere" = some (.ref C_NotThere)) {C_NoName : Addr} (G_NoName : mg "NoName" = some (.ref C_NoName)) (KW : ∀ x ∈ excs, ∀ C : Addr, mg x = some (.ref C) → KwOk K C x [("NoName", C_NoName), ("NotThere", C_NotThere), ("TooLong", C_TooLong), ("Taken", C_Taken), ("TooMany", C_TooMany), ("NothingDone", C_NothingDone), ("NoNote", C_NoNote)]) : FnE P w K mg base (k + 1) f fd "_law_e" (S__law_word_of mg) := by
  refine fnE_of F scN__law_word_of (fun cdv A outer s H E p D hr hz hf => ⟨_, (pss_cons (ps_set (i := 1) scN__law_word_of.nd rfl (Or.inl rfl) (pe_lst pa_nil))
      (pss_cons (ps_if (pt_val (pe_callB (call_isH (K := K) rfl rfl hz hf) (by rfl) M_isinstance (by decide +kernel) (pa_cons (pv 0) (pa_cons (pe_glob (v := .ref C_NoName) (by rfl) G_NoName rfl) pa_nil)))) (pss_one (ps_expr (pe_bm PySem.F.plainAttrs_list PySem.F.slot_list_append PySem.F.type_list_append mt_append (pv 1) (pa_cons pe_str pa_nil)))) pss_nil)
      (pss_cons (ps_if (pt_val (pe_callB (call_isH (K := K) rfl rfl hz hf) (by rfl) M_isinstance (by decide +kernel) (pa_cons (pv 0) (pa_cons (pe_glob (v := .ref C_NotThere) (by rfl) G_NotThere rfl) pa_nil)))) (pss_one (ps_expr (pe_bm PySem.F.plainAttrs_list PySem.F.slot_list_append PySem.F.type_list_append mt_append (pv 1) (pa_cons pe_str pa_nil)))) pss_nil)
      (pss_cons (ps_if (pt_val (pe_callB (call_isH (K := K) rfl rfl hz hf) (by rfl) M_isinstance (by decide +kernel) (pa_cons (pv 0) (pa_cons (pe_glob (v := .ref C_TooLong) (by rfl) G_TooLong rfl) pa_nil)))) (pss_one (ps_expr (pe_bm PySem.F.plainAttrs_list PySem.F.slot_list_append PySem.F.type_list_append mt_append (pv 1) (pa_cons pe_str pa_nil)))) pss_nil)
      (pss_cons (ps_if (pt_val (pe_callB (call_isH (K := K) rfl rfl hz hf) (by rfl) M_isinstance (by decide +kernel) (pa_cons (pv 0) (pa_cons (pe_glob (v := .ref C_Taken) (by rfl) G_Taken rfl) pa_nil)))) (pss_one (ps_expr (pe_bm PySem.F.plainAttrs_list PySem.F.slot_list_append PySem.F.type_list_append mt_append (pv 1) (pa_cons pe_str pa_nil)))) pss_nil)
      (pss_cons (ps_if (pt_val (pe_callB (call_isH (K := K) rfl rfl hz hf) (by rfl) M_isinstance (by decide +kernel) (pa_cons (pv 0) (pa_cons (pe_glob (v := .ref C_TooMany) (by rfl) G_TooMany rfl) pa_nil)))) (pss_one (ps_expr (pe_bm PySem.F.plainAttrs_list PySem.F.slot_list_append PySem.F.type_list_append mt_append (pv 1) (pa_cons pe_str pa_nil)))) pss_nil)
      (pss_cons (ps_if (pt_val (pe_callB (call_isH (K := K) rfl rfl hz hf) (by rfl) M_isinstance (by decide +kernel) (pa_cons (pv 0) (pa_cons (pe_glob (v := .ref C_NothingDone) (by rfl) G_NothingDone rfl) pa_nil)))) (pss_one (ps_expr (pe_bm PySem.F.plainAttrs_list PySem.F.slot_list_append PySem.F.type_list_append mt_append (pv 1) (pa_cons pe_str pa_nil)))) pss_nil)
      (pss_cons (ps_if (pt_val (pe_callB (call_isH (K := K) rfl rfl hz hf) (by rfl) M_isinstance (by decide +kernel) (pa_cons (pv 0) (pa_cons (pe_glob (v := .ref C_NoNote) (by rfl) G_NoNote rfl) pa_nil)))) (pss_one (ps_expr (pe_bm PySem.F.plainAttrs_list PySem.F.slot_list_append PySem.F.type_list_append mt_append (pv 1) (pa_cons pe_str pa_nil)))) pss_nil)
      (pss_one (ps_ret (pe_tup (pa_cons (pe_m1 (r := (rJoin K)) PySem.F.slot_str_join PySem.F.type_str_join (mt_joinK (K := K) rfl) pe_str (pv 1)) (pa_cons (pe_callB (call_isH (K := K) rfl rfl hz hf) (by rfl) M_isinstance (by decide +kernel) (pa_cons (pv 0) (pa_cons (pe_bltn (v := .ty "ValueError") (by rfl) M_ValueError (by decide +kernel) rfl) pa_nil))) pa_nil))))))))))))), ?_⟩)
  try dsimp only [L2H.cxH, cxOf]
  intro H0 μ kk h
  obtain ⟨c, hc, hm, q⟩ := h
  obtain ⟨k1, k2, k3⟩ := KW c hc D hm
  walk_at "env"
  refine wp_seq (wp_set (wp_lstC (wp_nil ⟨sz_le (by decide), fun r => ?_⟩)))
  walk_at "set"
  refine wp_seq (word_step (ws := []) k1 (k3 ("NoName", C_NoName) (by simp)) (by decide) ?_)
  refine wp_seq (word_step k1 (k3 ("NotThere", C_NotThere) (by simp)) ?_ ?_)
  · have := @ite_len (c = "NoName") _ (tX "no name"); simp only [List.length_append, List.length_nil, tX] at *; omega
  refine wp_seq (word_step k1 (k3 ("TooLong", C_TooLong) (by simp)) ?_ ?_)
  · have := @ite_len (c = "NoName") _ (tX "no name"); have := @ite_len (c = "NotThere") _ (tX "not there"); simp only [List.length_append, List.length_nil, tX] at *; omega
  refine wp_seq (word_step k1 (k3 ("Taken", C_Taken) (by simp)) ?_ ?_)
  · have := @ite_len (c = "NoName") _ (tX "no name"); have := @ite_len (c = "NotThere") _ (tX "not there"); have := @ite_len (c = "TooLong") _ (tX "too long"); simp only [List.length_append, List.length_nil, tX] at *; omega
  refine wp_seq (word_step k1 (k3 ("TooMany", C_TooMany) (by simp)) ?_ ?_)
  · have := @ite_len (c = "NoName") _ (tX "no name"); have := @ite_len (c = "NotThere") _ (tX "not there"); have := @ite_len (c = "TooLong") _ (tX "too long"); have := @ite_len (c = "Taken") _ (tX "taken"); simp only [List.length_append, List.length_nil, tX] at *; omega
  refine wp_seq (word_step k1 (k3 ("NothingDone", C_NothingDone) (by simp)) ?_ ?_)
  · have := @ite_len (c = "NoName") _ (tX "no name"); have := @ite_len (c = "NotThere") _ (tX "not there"); have := @ite_len (c = "TooLong") _ (tX "too long"); have := @ite_len (c = "Taken") _ (tX "taken"); have := @ite_len (c = "TooMany") _ (tX "too many"); simp only [List.length_append, List.length_nil, tX] at *; omega
  refine wp_seq (word_step k1 (k3 ("NoNote", C_NoNote) (by simp)) ?_ ?_)
  · have := @ite_len (c = "NoName") _ (tX "no name"); have := @ite_len (c = "NotThere") _ (tX "not there"); have := @ite_len (c = "TooLong") _ (tX "too long"); have := @ite_len (c = "Taken") _ (tX "taken"); have := @ite_len (c = "TooMany") _ (tX "too many"); have := @ite_len (c = "NothingDone") _ (tX "nothing done"); simp only [List.length_append, List.length_nil, tX] at *; omega
  obtain ⟨w1, w2⟩ := word_all c hc
  refine wp_frz (i := 1) [] μ rfl rfl ?_
  walk_at "set"
  have e0 : (("" : Str).cps.toList) = [] := by decide +kernel
  refine wp_ret (wp_tup (wp_cons (wp_join (wp_str ⟨_, rfl, wp_var rfl ⟨_, isL_d, ?_, ?_⟩⟩))))
  · rw [e0, List.length_nil, Nat.mul_zero]
    exact Nat.le_trans w2 (by decide)
  · refine wp_cons (wp_isS k1 (cv := .type "ValueError") (fun u h => h) k2 rfl (wp_nil ⟨sz_le (by simp), ?_⟩))
    rw [e0]
    have w1' := w1
    unfold tX at w1'
    rw [w1']
    exact q
theorem scN__law_named : FnScope ["_law_thing"] ["_law_thing"] (defScope s__law_named) := ⟨rfl, rfl, rfl, by decide +kernel, rfl, by decide +kernel, by decide +kernel⟩
theorem ok__law_named {f : Addr} {fd : FuncData} (F : Fun K "_law_named" "_law_named" s__law_named f fd) (M_len : mg "len" = none) (M_isinstance : mg "isinstance" = none) (M_str : mg "str" = none) : FnD P w K mg base (k + 1) f fd ["_law_thing"] (spOf K mg 1 S__law_named) := by
  refine okD F scN__law_named (fun cdv A outer s H E hr => ⟨_, (pss_one (ps_ret (pe_and (pe_callB (call_isiK' (K := K) rfl) (by rfl) M_isinstance (by decide +kernel) (pa_cons (pv 0) (pa_cons (pe_bltn (v := .ty "str") (by rfl) M_str (by decide +kernel) rfl) pa_nil))) (pe_and (pe_cmpR op_leU (pe_callB (call_lenK (K := K) rfl) (by rfl) M_len PySem.boot_len (pa_cons (pv 0) pa_nil)) pe_int (nomark _)) (pe_and (pe_cmpR (op_notInK (K := K) rfl) pe_str (pv 0) (by rfl)) (pe_one (pe_cmpR (op_notInK (K := K) rfl) pe_str (pv 0) (by rfl)))))))), ?_⟩)
  try dsimp only [cxOf]
  intro H0 ds μ kk ex hW h
  obtain ⟨d, rfl, hd, q⟩ := h
  have e10 : (("\n" : Str).cps.toList) = [10] := by decide +kernel
  have e9 : (("\t" : Str).cps.toList) = [9] := by decide +kernel
  walk_at "env"
  have txt : ∀ x : Tx, d = .str x → (∀ c ∈ x, okc c = true ∨ c = 9 ∨ c = 10) → x.length ≤ 41 → wpE K H0 (tAndV (tCB (rIsi K) (tCons (tVar 0) (tCons (tC (.ty "str")) tNil))) (tAndV (tOp rLeU (tCB (rLenU K) (tCons (tVar 0) tNil)) (tC (.int 40))) (tAndV (tOp (rNotInU K) (tC (.str "\n")) (tVar 0)) (tOp (rNotInU K) (tC (.str "\t")) (tVar 0))))) [some d] μ kk := fun x ed hx hl => by
    subst ed
    rw [nmD_str] at q
    walk_at "r"
    refine iteT ?_
    walk_at "r"
    unfold nameB at q
    refine iteD (fun c1 => ?_) (fun c1 => ?_)
    · rw [decide_eq_true (by omega : x.length ≤ 40), Bool.true_and] at q
      walk_at "r"
      rw [e10]
      refine wr_notInC ⟨_, rfl, ?_⟩
      refine iteND (fun c2 => ?_) (fun c2 => ?_)
      · walk_at "r"
        rw [e9]
        refine wr_notInC ?_
        by_cases c3 : 9 ∈ x
        · rw [decide_eq_true c3]
          rw [okc_bad c3 (by decide)] at q
          exact q
        · rw [decide_eq_false c3]
          have : x.all okc = true := by
            rw [List.all_eq_true]
            intro c hc
            rcases hx c hc with h | h | h
            · exact h
            · exact absurd (h ▸ hc) c3
            · exact absurd (h ▸ hc) c2
          rw [this] at q
          exact q
      · rw [okc_bad c2 (by decide)] at q
        exact q
    · rw [decide_eq_false (by omega : ¬ x.length ≤ 40), Bool.false_and] at q
      exact q
  refine wp_ret ?_
  rcases hd with ⟨x, rfl, hx, ho⟩ | rfl | rfl | rfl | rfl
  · exact txt x rfl (fun c hc => .inl (List.all_eq_true.mp ho c hc)) hx
  · exact txt _ rfl (by decide) (by decide)
  · exact txt _ rfl (by decide) (by decide)
  · walk_at "r"
    exact q
  · walk_at "r"
    exact q
theorem scN__law_tried : FnScope ["_law_trail", "_law_way", "_law_one", "_law_other", "_law_number", "_law_e"] ["_law_trail", "_law_way", "_law_one", "_law_other", "_law_number"] (defScope s__law_tried) := ⟨rfl, rfl, rfl, by decide +kernel, rfl, by decide +kernel, by decide +kernel⟩
theorem ok__law_tried {f : Addr} {fd : FuncData} (F : Fun K "_law_tried" "_law_tried" s__law_tried f fd) {C_Trail : Addr} (O_Trail : OCls K mg "Trail" C_Trail) {C_TrailError : Addr} (G_TrailError : mg "TrailError" = some (.ref C_TrailError)) (D_Trail_back : DfM P w K mg base k C_Trail "back" ["self"] (S_Trail_back C_Trail)) (D_Trail_told : DfM P w K mg base k C_Trail "told" ["self", "beginning"] (S_Trail_told C_Trail)) (D_Trail_graft : DfM P w K mg base k C_Trail "graft" ["self", "beginning", "other"] (S_Trail_graft C_Trail)) (D_Trail_move : DfM P w K mg base k C_Trail "move" ["self", "beginning", "other"] (S_Trail_move C_Trail)) (D_Trail_prune : DfM P w K mg base k C_Trail "prune" ["self", "beginning"] (S_Trail_prune C_Trail)) (D_Trail_drop : DfM P w K mg base k C_Trail "drop" ["self", "name"] (S_Trail_drop C_Trail)) (D_Trail_keep : DfM P w K mg base k C_Trail "keep" ["self", "name", "number"] (S_Trail_keep C_Trail)) (D__law_word_of : DfE P w K mg base k "_law_word_of" "_law_e" (S__law_word_of mg)) (WT : ∀ x ∈ excs, ∀ C : Addr, mg x = some (.ref C) → PySem.W.exmOne K (.ref C) (.ref C_TrailError) = some true) : FnD P w K mg base (k + 1) f fd ["_law_trail", "_law_way", "_law_one", "_law_other", "_law_number"] (spOf K mg 5 (S__law_tried C_Trail)) := by
  refine okD F scN__law_tried (fun cdv A outer s H E hr => ⟨_, (pss_one (ps_tryAsK (K := K) (i := 5) rfl rfl rfl scN__law_tried.nd rfl rfl ⟨rfl, by decide, .inl G_TrailError⟩ (takes_of rfl rfl rfl rfl) (fun W pn xe tk pw => (pss_cons (ps_if (pt_cmpR (op_eqK (K := K) rfl hr.units) (pv 1) pe_int (nomark _)) (pss_one (ps_ret (pe_tup (pa_cons pe_str (pa_cons (pe_mthD O_Trail.cl D_Trail_keep ⟨rfl, rfl, rfl, rfl, rfl⟩ hr tk (pv 0) (pa_cons (pv 2) (pa_cons (pv 4) pa_nil))) pa_nil))))) pss_nil)
      (pss_cons (ps_if (pt_cmpR (op_eqK (K := K) rfl hr.units) (pv 1) pe_int (nomark _)) (pss_one (ps_ret (pe_tup (pa_cons pe_str (pa_cons (pe_mthD O_Trail.cl D_Trail_drop ⟨rfl, rfl, rfl, rfl, rfl⟩ hr tk (pv 0) (pa_cons (pv 2) pa_nil)) pa_nil))))) pss_nil)
      (pss_cons (ps_if (pt_cmpR (op_eqK (K := K) rfl hr.units) (pv 1) pe_int (nomark _)) (pss_one (ps_ret (pe_tup (pa_cons pe_str (pa_cons (pe_mthD O_Trail.cl D_Trail_prune ⟨rfl, rfl, rfl, rfl, rfl⟩ hr tk (pv 0) (pa_cons (pv 2) pa_nil)) pa_nil))))) pss_nil)
      (pss_cons (ps_if (pt_cmpR (op_eqK (K := K) rfl hr.units) (pv 1) pe_int (nomark _)) (pss_one (ps_ret (pe_tup (pa_cons pe_str (pa_cons (pe_mthD O_Trail.cl D_Trail_move ⟨rfl, rfl, rfl, rfl, rfl⟩ hr tk (pv 0) (pa_cons (pv 2) (pa_cons (pv 3) pa_nil))) pa_nil))))) pss_nil)
      (pss_cons (ps_if (pt_cmpR (op_eqK (K := K) rfl hr.units) (pv 1) pe_int (nomark _)) (pss_one (ps_ret (pe_tup (pa_cons pe_str (pa_cons (pe_mthD O_Trail.cl D_Trail_graft ⟨rfl, rfl, rfl, rfl, rfl⟩ hr tk (pv 0) (pa_cons (pv 2) (pa_cons (pv 3) pa_nil))) pa_nil))))) pss_nil)
      (pss_cons (ps_if (pt_cmpR (op_eqK (K := K) rfl hr.units) (pv 1) pe_int (nomark _)) (pss_one (ps_ret (pe_tup (pa_cons pe_str (pa_cons (pe_mthD O_Trail.cl D_Trail_told ⟨rfl, rfl, rfl, rfl, rfl⟩ hr tk (pv 0) (pa_cons (pv 2) pa_nil)) pa_nil))))) pss_nil)
      (pss_one (ps_ret (pe_tup (pa_cons pe_str (pa_cons (pe_mthD0 O_Trail.cl D_Trail_back ⟨rfl, rfl, rfl, rfl, rfl⟩ hr tk (pv 0)) pa_nil)))))))))))) (fun a oe cls d pn hz hf => (pss_one (ps_ret (pe_dfE (a := a) (oe := oe) D__law_word_of hz hf (by exact ⟨rfl, rfl, rfl, rfl, rfl⟩) (by exact List.mem_cons_self) (by exact hr.hot _) (by rfl) (pa_cons (pv 5) pa_nil))))))), ?_⟩)
  try dsimp only [cxOf]
  intro H0 ds μ kk ex hW h
  obtain ⟨a, dx, p, o, past, way, v, d1, d2, rfl, hA, hO, hn, h⟩ := h
  have hw := hO.ok.wf
  walk_at "env"
  refine wp_tryAs (fun x ρ' μ2 => x ∈ excs ∧ ρ' = [some (.ref a), some (.int way), some d1, some d2, some (.int v), none] ∧ kk (.tup [.str (wordOf x), .bl true]) μ2) hW ?_ ?_
  · rintro H1 g x C ρ μ2 ⟨hx, rfl, hk⟩ hm
    exact ⟨true, WT x hx C hm, fun _ e => wp_ret (wp_callE rfl ⟨x, hx, hm, hk⟩), fun z => nomatch z⟩
  intro H1 g W hW'
  have hno : ∀ n, kk (refD n) μ → excN n ∈ excs ∧ [some (Dv.ref a), some (.int way), some d1, some d2, some (.int v), none] = [some (Dv.ref a), some (.int way), some d1, some d2, some (.int v), none] ∧ kk (.tup [.str (wordOf (excN n)), .bl true]) μ := fun n q => ⟨excN_in n, rfl, q⟩
  have sz2 : ∀ d : Dv, [Dv.str (tX "told"), d].length ≤ sizeLine := fun d => sz_le (by simp)
  -- keep
  refine wp_seq (wp_if (wp_test (wp_op (wp_var rfl (wp_int (wr_eqI ⟨_, rfl, ?_⟩))))))
  refine iteD (fun c0 => ?_) (fun c0 => wp_next ?_)
  · refine wp_ret (wp_tup (wp_cons (wp_str (wp_cons (wp_mth hW' (wp_var rfl ⟨a, dx, _, rfl, hA.ins, lk_no _ _ (by decide +kernel) (by decide +kernel), wp_cons (wp_var rfl (wp_cons (wp_var rfl (wp_nil ?_))))⟩))))))
    rcases h with ⟨w0, w4, t1, t2, h⟩ | ⟨z, _⟩ | ⟨z, _⟩
    case inr.inl => omega
    case inr.inr => omega
    subst c0
    refine ⟨rfl, a, dx, p, o, past, d1, v, rfl, hA, hO, hn, t1.thg μ (fun x hx x' e => ?_) fun h0 => ?_⟩
    · rw [nm_is hx e]
      rw [due_kp hx, kp_tree hw] at h
      refine ⟨fun e1 e2 => ?_, fun e1 o' tok hg μ' m1 m2 => wp_nil ⟨sz2 _, ?_⟩⟩
      · rw [if_pos ⟨e1, e2⟩] at h
        exact hno 4 h
      · rw [if_neg (fun z => e1 z.1 z.2)] at h
        exact h o' tok hg μ' m1 m2
    · rw [due_no1 h0] at h
      exact hno 0 h
  -- drop
  refine wp_seq (wp_if (wp_test (wp_op (wp_var rfl (wp_int (wr_eqI ⟨_, rfl, ?_⟩))))))
  refine iteD (fun c1 => ?_) (fun c1 => wp_next ?_)
  · refine wp_ret (wp_tup (wp_cons (wp_str (wp_cons (wp_mth hW' (wp_var rfl ⟨a, dx, _, rfl, hA.ins, lk_no _ _ (by decide +kernel) (by decide +kernel), wp_cons (wp_var rfl (wp_nil ?_))⟩))))))
    rcases h with ⟨w0, w4, t1, t2, h⟩ | ⟨z, _⟩ | ⟨z, _⟩
    case inr.inl => omega
    case inr.inr => omega
    subst c1
    refine ⟨rfl, a, dx, p, o, past, d1, rfl, hA, hO, hn, t1.thg μ (fun x hx x' e => ?_) fun h0 => ?_⟩
    · rw [nm_is hx e]
      rw [due_dr hx, dr_tree hw] at h
      refine ⟨fun e1 => ?_, fun e1 o' tok hg μ' m1 m2 => wp_nil ⟨sz2 _, ?_⟩⟩
      · rw [if_pos e1] at h
        exact hno 1 h
      · rw [if_neg e1] at h
        exact h o' tok hg μ' m1 m2
    · rw [due_no1 h0] at h
      exact hno 0 h
  -- prune
  refine wp_seq (wp_if (wp_test (wp_op (wp_var rfl (wp_int (wr_eqI ⟨_, rfl, ?_⟩))))))
  refine iteD (fun c2 => ?_) (fun c2 => wp_next ?_)
  · refine wp_ret (wp_tup (wp_cons (wp_str (wp_cons (wp_mth hW' (wp_var rfl ⟨a, dx, _, rfl, hA.ins, lk_no _ _ (by decide +kernel) (by decide +kernel), wp_cons (wp_var rfl (wp_nil ?_))⟩))))))
    rcases h with ⟨w0, w4, t1, t2, h⟩ | ⟨z, _⟩ | ⟨z, _⟩
    case inr.inl => omega
    case inr.inr => omega
    subst c2
    refine ⟨rfl, a, dx, p, o, past, d1, rfl, hA, hO, hn, t1.thg μ (fun x hx x' e => ?_) fun h0 => ?_⟩
    · rw [nm_is hx e]
      rw [due_pr hx] at h
      intro a' b C
      refine ⟨fun e1 => ?_, fun u e1 tok μ' m1 m2 => wp_nil ⟨sz2 _, ?_⟩⟩
      · subst e1
        rw [pr_none hw C] at h
        exact hno 1 h
      · subst e1
        rw [pr_some hw C] at h
        exact h a' tok (fun _ => rfl) μ' m1 m2
    · rw [due_no1 h0] at h
      exact hno 0 h
  -- a branch
  have brn : ∀ {q : Tx → Tx → Option Tr → Tr → Prop}, (2 < way → Tq d1 → Tq d2 → OutK (dueO (namesO o) way d1 d2 v) (fun n => kk (refD n) μ) (fun a' f => ∀ o', TrOk o' → (∀ y, getO o' y = f y) → PutD C_Trail a dx p o past μ o' (kk (tolD (encI a')))) →
      (∀ x y a' u, CutOk o x a' (some u) → OutK (brO (namesO o) (decide (way = 4)) x y) (fun n => kk (refD n) μ) (fun a' f => ∀ o', TrOk o' → (∀ y, getO o' y = f y) → PutD C_Trail a dx p o past μ o' (kk (tolD (encI a')))) → (∀ r ∈ TM.names u, y.length + r.1.length ≤ 40) → q x y a' u) →
      Brn o μ d1 d2 (fun x μ2 => x ∈ excs ∧ [some (Dv.ref a), some (.int way), some d1, some d2, some (.int v), none] = [some (Dv.ref a), some (.int way), some d1, some d2, some (.int v), none] ∧ kk (.tup [.str (wordOf x), .bl true]) μ2) q) := fun {q} hw3 t1 t2 h hq => by
    refine t1.thg μ (fun x hx x' e => ?_) fun h0 => ?_
    · rw [nm_is hx e]
      refine t2.thg μ (fun y hy y' e2 a' b C => ?_) fun h0 => ?_
      · rw [nm_is hy e2]
        rw [due_br hx hy hw3] at h
        refine ⟨fun e1 => ?_, fun u e1 => ⟨fun hl => ?_, fun hl => ?_⟩⟩
        · subst e1
          rw [br_none hw C] at h
          exact hno 1 h
        · subst e1
          rw [(br_tree hw C _).1 hl] at h
          exact hno 2 h
        · subst e1
          exact hq x y a' u C h hl
      · rw [due_no2 hx h0 hw3] at h
        exact hno 0 h
    · rw [due_no1 h0] at h
      exact hno 0 h
  refine wp_seq (wp_if (wp_test (wp_op (wp_var rfl (wp_int (wr_eqI ⟨_, rfl, ?_⟩))))))
  refine iteD (fun c3 => ?_) (fun c3 => wp_next ?_)
  · refine wp_ret (wp_tup (wp_cons (wp_str (wp_cons (wp_mth hW' (wp_var rfl ⟨a, dx, _, rfl, hA.ins, lk_no _ _ (by decide +kernel) (by decide +kernel), wp_cons (wp_var rfl (wp_cons (wp_var rfl (wp_nil ?_))))⟩))))))
    rcases h with ⟨w0, w4, t1, t2, h⟩ | ⟨z, _⟩ | ⟨z, _⟩
    case inr.inl => omega
    case inr.inr => omega
    refine ⟨rfl, a, dx, p, o, past, d1, d2, rfl, hA, hO, hn, brn (by omega) t1 t2 h fun x y a' u C h hl => ?_⟩
    rw [decide_eq_false (by omega : ¬ way = 4)] at h
    obtain ⟨b1, b2⟩ := (br_tree (y := y) hw C false).2 hl
    refine ⟨fun ht => ?_, fun ht o' tok hg μ' m1 m2 => wp_nil ⟨sz2 _, ?_⟩⟩
    · rw [b1 ht] at h
      exact hno 3 h
    · rw [(b2 ht).2 (fun z => nomatch z)] at h
      exact h o' tok hg μ' m1 m2
  refine wp_seq (wp_if (wp_test (wp_op (wp_var rfl (wp_int (wr_eqI ⟨_, rfl, ?_⟩))))))
  refine iteD (fun c4 => ?_) (fun c4 => wp_next ?_)
  · refine wp_ret (wp_tup (wp_cons (wp_str (wp_cons (wp_mth hW' (wp_var rfl ⟨a, dx, _, rfl, hA.ins, lk_no _ _ (by decide +kernel) (by decide +kernel), wp_cons (wp_var rfl (wp_cons (wp_var rfl (wp_nil ?_))))⟩))))))
    rcases h with ⟨w0, w4, t1, t2, h⟩ | ⟨z, _⟩ | ⟨z, _⟩
    case inr.inl => omega
    case inr.inr => omega
    refine ⟨rfl, a, dx, p, o, past, d1, d2, rfl, hA, hO, hn, brn (by omega) t1 t2 h fun x y a' u C h hl => ?_⟩
    rw [decide_eq_true c4] at h
    obtain ⟨b1, b2⟩ := (br_tree (y := y) hw C true).2 hl
    refine ⟨fun ht => ?_, fun ht => ⟨fun h100 => ?_, fun h100 o' tok hg μ' m1 m2 => wp_nil ⟨sz2 _, ?_⟩⟩⟩
    · rw [b1 ht] at h
      exact hno 3 h
    · rw [(b2 ht).1 rfl h100] at h
      exact hno 4 h
    · rw [(b2 ht).2 (fun _ => by omega)] at h
      exact h o' tok hg μ' m1 m2
  -- told
  refine wp_seq (wp_if (wp_test (wp_op (wp_var rfl (wp_int (wr_eqI ⟨_, rfl, ?_⟩))))))
  refine iteD (fun c6 => ?_) (fun c6 => wp_next ?_)
  · refine wp_ret (wp_tup (wp_cons (wp_str (wp_cons (wp_mth hW' (wp_var rfl ⟨a, dx, _, rfl, hA.ins, lk_no _ _ (by decide +kernel) (by decide +kernel), wp_cons (wp_var rfl (wp_nil ?_))⟩))))))
    rcases h with ⟨w0, w4, _⟩ | ⟨z, t1, h1, h2⟩ | ⟨z, _⟩
    case inl => omega
    case inr.inr => omega
    refine ⟨rfl, a, dx, p, o, past, d1, rfl, hA, hO, t1.thg μ (fun x hx x' e q => wp_nil ⟨sz2 _, ?_⟩) fun h0 => hno 0 (h1 h0)⟩
    rw [nm_is hx e]
    exact h2 x hx q
  -- back
  refine wp_ret (wp_tup (wp_cons (wp_str (wp_cons (wp_mth hW' (wp_var rfl ⟨a, dx, _, rfl, hA.ins, lk_no _ _ (by decide +kernel) (by decide +kernel), wp_nil ?_⟩))))))
  rcases h with ⟨w0, w4, _⟩ | ⟨z, _⟩ | ⟨z, h1, h2⟩
  case inl => omega
  case inr.inl => omega
  exact ⟨rfl, a, dx, p, o, past, rfl, hA, fun e => hno 5 (h1 e), fun ps o' e μ' m1 m2 => wp_nil ⟨sz2 _, h2 ps o' e μ' m1 m2⟩⟩
end
/-! ### what a plain dict tells -/
def DueK (p : Addr) (μ : DMem) (k : Dv → DMem → Prop) (o : Out) : Prop := OutK o (fun n => ∀ μ', (∀ c ∈ μ, c ∈ μ') → k (.tup [.str (wordN n), .bl true, .ref p]) μ')
  (fun a f => ∀ μ' g R', (∀ c ∈ μ, c ∈ μ') → (g, DCell.dct (R'.map dR)) ∈ μ' → Nk R' → (∀ z, lk R' z = f z) → k (.tup [.str (tX "told"), encI a, .ref g]) μ')
theorem word0 : wordN 0 = ("no name" : Str).cps.toList := by decide +kernel
theorem word1 : wordN 1 = ("not there" : Str).cps.toList := by decide +kernel
theorem word2 : wordN 2 = ("too long" : Str).cps.toList := by decide +kernel
theorem word3 : wordN 3 = ("taken" : Str).cps.toList := by decide +kernel
theorem word4 : wordN 4 = ("too many" : Str).cps.toList := by decide +kernel
theorem word5 : wordN 5 = ("nothing done" : Str).cps.toList := by decide +kernel
theorem nd_ne {μ : DMem} {a b : Addr} {c d : DCell} (h : (keys ((a, c) :: μ)).Nodup) (hm : (b, d) ∈ μ) : b ≠ a := fun e => (List.nodup_cons.mp h).1 (e ▸ List.mem_map_of_mem (f := (·.1)) hm)
/-- a plain dict at p: the rows of L in some order -/
structure Pd (p : Addr) (R L : List Rw) (μ : DMem) : Prop where
  at_ : (p, DCell.dct (R.map dR)) ∈ μ
  pm : R.Perm L
  sr : Sr L
  n : L.length ≤ 100
  len : ∀ r ∈ L, r.1.length ≤ 40
theorem Pd.nk {p : Addr} {R L : List Rw} {μ : DMem} (h : Pd p R L μ) : Nk R := (TM.nk_sr h.sr).perm h.pm.symm
theorem Pd.lk {p : Addr} {R L : List Rw} {μ : DMem} (h : Pd p R L μ) (z : Tx) : TM.lk R z = TM.lk L z := TM.lk_perm h.nk h.pm z
theorem Pd.row {p : Addr} {R L : List Rw} {μ : DMem} (h : Pd p R L μ) {r : Rw} (hr : r ∈ L) : TM.lk R r.1 = some r.2 := by
  rw [h.lk]
  exact TM.lk_some_of (TM.nk_sr h.sr) (show (r.1, r.2) ∈ L from hr)
theorem Pd.ks {p : Addr} {R L : List Rw} {μ : DMem} (h : Pd p R L μ) : (L.map (·.1)).Perm (R.map (·.1)) ∧ (L.map (·.1)).Pairwise (· < ·) := ⟨(h.pm.map (·.1)).symm, List.pairwise_map.mpr h.sr⟩
theorem take_pre {x z : Tx} : decide (z.take x.length = x) = decide (x <+: z) := by
  by_cases h : x <+: z
  · rw [decide_eq_true h, decide_eq_true (List.prefix_iff_eq_take.mp h).symm]
  · rw [decide_eq_false h, decide_eq_false fun e => h (List.prefix_iff_eq_take.mpr e.symm)]
theorem map_kst (L : List Rw) : (L.map (·.1)).map Dv.str = L.map fun r => Dv.str r.1 := by rw [List.map_map]; rfl
def S__law_branch : Spc := fun ds μ k ex => ∃ (p : Addr) (R L : List Rw) (x y : Tx) (stay : Bool), ds = [.ref p, .str x, .str y, .bl stay] ∧ Pd p R L μ ∧ x.length ≤ 40 ∧ y.length ≤ 40 ∧ DueK p μ k (brO L stay x y)
def S__law_due : Spc := fun ds μ k ex => ∃ (p : Addr) (R L : List Rw) (way v : Int) (d1 d2 : Dv), ds = [.ref p, .int way, d1, d2, .int v] ∧ Pd p R L μ ∧ 0 ≤ way ∧ way ≤ 5 ∧ Tq d1 ∧ Tq d2 ∧ DueK p μ k (dueO L way d1 d2 v)
def kpB (way : Int) (x z : Tx) : Bool := if way = 2 then !decide (x <+: z) else !decide (z = x)
section
variable {P : Program} {w : World} {K : PySem.W.Frag} {mg : Str → Option Value} {base : Heap} {k : Nat}
theorem scN__law_branch : FnScope ["_law_plain", "_law_one", "_law_other", "_law_stay", "_law_group", "_law_name", "_law_fresh", "_law_grown", "_law_k"] ["_law_plain", "_law_one", "_law_other", "_law_stay"] (defScope s__law_branch) := ⟨rfl, rfl, rfl, by decide +kernel, rfl, by decide +kernel, by decide +kernel⟩
theorem ok__law_branch {f : Addr} {fd : FuncData} (F : Fun K "_law_branch" "_law_branch" s__law_branch f fd) (M_len : mg "len" = none) (M_range : mg "range" = none) (M_max : mg "max" = none) (M_sorted : mg "sorted" = none) : FnD P w K mg base (k + 1) f fd ["_law_plain", "_law_one", "_law_other", "_law_stay"] (spOf K mg 4 S__law_branch) := by
  refine okD F scN__law_branch (fun cdv A outer s H E hr => ⟨_, (pss_cons (ps_setLc (i := 4) (own := [("_law_name", 5)]) (g := gName 5) rfl scN__law_branch.nd rfl rfl (sw_true rfl rfl rfl (by decide +kernel)) (pi_seqK (K := K) rfl (pe_callB (call_sortedDD hr rfl) (by rfl) M_sorted (by decide +kernel) (pa_cons (pv 0) pa_nil))) (blkOk_by (own := [("_law_name", 5)]) (N := ["_law_plain", "_law_one", "_law_other", "_law_stay", "_law_group", "_law_name", "_law_fresh", "_law_grown", "_law_k"]) (sc := defScope s__law_branch) (by decide +kernel)) (fun _ _ _ _ _ => pg_name (i := 5) scN__law_branch.nd rfl (Or.inl rfl)) (fun _ _ _ _ _ => (pts_one (pt_cmpR (op_eqK (K := K) rfl hr.units) (pe_slice (sl_K (K := K) rfl) (pv 5) po_none (po_some (pe_callB (call_lenK (K := K) rfl) (by rfl) M_len PySem.boot_len (pa_cons (pv 1) pa_nil)))) (pv 1) (nomark _)))) (fun _ _ _ _ _ => (pv 5)))
      (pss_cons (ps_if (pt_cmpR (op_eqK (K := K) rfl hr.units) (pv 4) (pe_lst pa_nil) (nomark _)) (pss_one (ps_ret (pe_tup (pa_cons pe_str (pa_cons pe_bl (pa_cons (pv 0) pa_nil)))))) pss_nil)
      (pss_cons (ps_setLc (i := 6) (own := [("_law_name", 5)]) (g := gName 5) rfl scN__law_branch.nd rfl rfl (sw_true rfl rfl rfl (by decide +kernel)) (pi_seqK (K := K) rfl (pv 4)) (blkOk_by (own := [("_law_name", 5)]) (N := ["_law_plain", "_law_one", "_law_other", "_law_stay", "_law_group", "_law_name", "_law_fresh", "_law_grown", "_law_k"]) (sc := defScope s__law_branch) (by decide +kernel)) (fun _ _ _ _ _ => pg_name (i := 5) scN__law_branch.nd rfl (Or.inl rfl)) (fun _ _ _ _ _ => pts_nil) (fun _ _ _ _ _ => (pe_op (op_addK (K := K) rfl) (pv 2) (pe_slice (sl_K (K := K) rfl) (pv 5) (po_some (pe_callB (call_lenK (K := K) rfl) (by rfl) M_len PySem.boot_len (pa_cons (pv 1) pa_nil))) po_none))))
      (pss_cons (ps_if (pt_cmpR op_gtU (pe_callB (call_maxL (K := K) rfl rfl) (by rfl) M_max (by decide +kernel) (pa_cons (pe_lc (own := [("_law_name", 5)]) (g := gName 5) rfl scN__law_branch.nd (pi_seqK (K := K) rfl (pv 6)) (blkOk_by (own := [("_law_name", 5)]) (N := ["_law_plain", "_law_one", "_law_other", "_law_stay", "_law_group", "_law_name", "_law_fresh", "_law_grown", "_law_k"]) (sc := defScope s__law_branch) (by decide +kernel)) (fun _ _ _ _ _ => pg_name (i := 5) scN__law_branch.nd rfl (Or.inl rfl)) (fun _ _ _ _ _ => pts_nil) (fun _ _ _ _ _ => (pe_callB (call_lenK (K := K) rfl) (by rfl) M_len PySem.boot_len (pa_cons (pv 5) pa_nil)))) pa_nil)) pe_int (nomark _)) (pss_one (ps_ret (pe_tup (pa_cons pe_str (pa_cons pe_bl (pa_cons (pv 0) pa_nil)))))) pss_nil)
      (pss_cons (ps_set (i := 7) scN__law_branch.nd rfl (Or.inl rfl) pe_dnewK)
      (pss_cons (ps_lock (ps_for (passes_of rfl) rfl (pi_keys (pv 0)) (pg_name (i := 5) scN__law_branch.nd rfl (Or.inl rfl)) (pss_one (ps_if (PW.pt (pw_or (pt_val (pv 3)) (pw_or1 (pt_cmpR (op_neK (K := K) rfl hr.units) (pe_slice (sl_K (K := K) rfl) (pv 5) po_none (po_some (pe_callB (call_lenK (K := K) rfl) (by rfl) M_len PySem.boot_len (pa_cons (pv 1) pa_nil)))) (pv 1) (nomark _))))) (pss_one (ps_dput hr.u1 (pv 7) (pv 5) (pe_dget hr.u1 (pv 0) (pv 5) (fun _ _ => rfl)) rfl)) pss_nil))))
      (pss_cons (ps_for (passes_of rfl) rfl (pi_seqK (K := K) rfl (pv 6)) (pg_name (i := 5) scN__law_branch.nd rfl (Or.inl rfl)) (pss_one (ps_if (pt_cmpR (op_inD hr.u1) (pv 5) (pv 7) (by rfl)) (pss_one (ps_ret (pe_tup (pa_cons pe_str (pa_cons pe_bl (pa_cons (pv 0) pa_nil)))))) pss_nil)))
      (pss_cons (ps_if (pt_cmpR op_gtU (pe_op (op_addK (K := K) rfl) (pe_callB call_lenD (by rfl) M_len PySem.boot_len (pa_cons (pv 7) pa_nil)) (pe_callB (call_lenK (K := K) rfl) (by rfl) M_len PySem.boot_len (pa_cons (pv 6) pa_nil))) pe_int (nomark _)) (pss_one (ps_ret (pe_tup (pa_cons pe_str (pa_cons pe_bl (pa_cons (pv 0) pa_nil)))))) pss_nil)
      (pss_cons (ps_for (passes_of rfl) rfl (pi_range1 rfl M_range (pa_cons (pe_callB (call_lenK (K := K) rfl) (by rfl) M_len PySem.boot_len (pa_cons (pv 4) pa_nil)) pa_nil)) (pg_name (i := 8) scN__law_branch.nd rfl (Or.inl rfl)) (pss_one (ps_dput hr.u1 (pv 7) (pe_ix (ix_K (K := K) rfl) (pv 6) (pv 8) (fun _ _ => rfl)) (pe_dget hr.u1 (pv 0) (pe_ix (ix_K (K := K) rfl) (pv 4) (pv 8) (fun _ _ => rfl)) (fun _ _ => rfl)) rfl)))
      (pss_one (ps_ret (pe_tup (pa_cons pe_str (pa_cons (pe_callB (call_lenK (K := K) rfl) (by rfl) M_len PySem.boot_len (pa_cons (pv 4) pa_nil)) (pa_cons (pv 7) pa_nil))))))))))))))), ?_⟩)
  try dsimp only [cxOf]
  intro H0 ds μ kk ex hW h
  obtain ⟨p, R, L, x, y, stay, rfl, hp, hx, hy, q⟩ := h
  have hR : R.length ≤ 100 := by rw [hp.pm.length_eq]; exact hp.n
  have hN := hp.n
  walk_at "env"
  refine wp_seq (wp_set (wp_lc (wi_seq (wp_cb (wp_cons (wp_var rfl (wp_nil (wc_sortD (.inl hp.at_) (by omega) hp.ks.1 hp.ks.2 ⟨_, .inl rfl, ?_⟩))))))))
  rw [map_kst]
  refine ⟨(grp L x).map fun r => Dv.str r.1, ⟨Rw, L, fun r => decide (x <+: r.1), fun r => .str r.1, fun r => .str r.1, rfl, sz_le (by omega), fun r hr μ' => ?_, fun r hr _ μ' => ?_, rfl⟩, ?_⟩
  · have hl := hp.len r hr
    walk_at "set"
    walk_at "r"
    rw [cutL_to, take_pre]
    exact ⟨rfl, rfl⟩
  · walk_at "set"
    walk_at "r"
    exact ⟨rfl, rfl⟩
  walk_at "set"
  have hGL : (grp L x).length ≤ 100 := Nat.le_trans (List.length_filter_le _ _) hN
  have hGm : ∀ r ∈ grp L x, r ∈ L ∧ x <+: r.1 := fun r hr => by
    have := List.mem_filter.mp hr
    exact ⟨this.1, by simpa using this.2⟩
  have hfl : ∀ r ∈ grp L x, (frT x y r).length ≤ 80 := fun r hr => by
    have := hp.len r (hGm r hr).1
    show (y ++ r.1.drop x.length).length ≤ 80
    rw [List.length_append, List.length_drop]
    omega
  unfold brO at q
  -- not there
  refine wp_seq (wp_if (wp_test (wp_op (wp_var rfl (wp_lst (wp_nil ⟨sz_le (by simp), wr_eqN isL_d isL_d ⟨_, rfl, ?_⟩⟩))))))
  rw [isEmpty_map]
  refine iteB (fun c => ?_) (fun c => ?_)
  · have c' : grp L x = [] := List.isEmpty_iff.mp c
    rw [if_pos c'] at q
    walk_at "r"
    rw [← word1]
    exact q _ fun _ h => h
  have hne : grp L x ≠ [] := fun e => by rw [e] at c; cases c
  rw [if_neg hne] at q
  refine wp_next ?_
  -- the new names
  refine wp_seq (wp_set (wp_lc (wi_seq (wp_var rfl ⟨_, .inl rfl, ?_⟩))))
  refine ⟨(grp L x).map fun r => Dv.str (frT x y r), lc_all (en := fun r : Rw => Dv.str r.1) (g := fun r : Rw => Dv.str (frT x y r)) (sz_le (by omega)) (fun r hr μ' => ?_), ?_⟩
  · have hl := hp.len r (hGm r hr).1
    walk_at "set"
    walk_at "r"
    rw [cutL_from]
    refine wr_addS (sz_le (by rw [List.length_drop]; omega)) ⟨rfl, rfl⟩
  walk_at "set"
  refine wp_seq (wp_if (wp_test (wp_op (wp_cb (wp_cons (wp_lc (wi_seq (wp_var rfl ⟨_, .inl rfl, ?_⟩))))))))
  refine ⟨(grp L x).map fun r => Dv.int (frT x y r).length, lc_all (en := fun r : Rw => Dv.str (frT x y r)) (g := fun r : Rw => Dv.int (frT x y r).length) (sz_le (by omega)) (fun r hr μ' => ?_), ?_⟩
  · have hl := hfl r hr
    walk_at "set"
    walk_at "r"
    exact ⟨rfl, rfl⟩
  have eN : ((grp L x).map fun r => Dv.int (frT x y r).length) = ((grp L x).map fun r => ((frT x y r).length : Int)).map Dv.int := by rw [List.map_map]; rfl
  rw [eN]
  refine wp_nil (wc_max isL_d (by rw [List.length_map]; exact List.length_pos_iff.mpr hne) fun m hm hmx => ?_)
  have hmax : decide ((40 : Int) < m) = (grp L x).any fun r => decide (40 < (frT x y r).length) := by
    obtain ⟨r0, hr0, e0⟩ := List.mem_map.mp hm
    by_cases c2 : (40 : Int) < m
    · rw [decide_eq_true c2]
      symm
      rw [List.any_eq_true]
      exact ⟨r0, hr0, decide_eq_true (by omega)⟩
    · rw [decide_eq_false c2]
      symm
      rw [List.any_eq_false]
      intro r hr h
      have h1 := of_decide_eq_true h
      have h2 := hmx _ (List.mem_map_of_mem (f := fun r => ((frT x y r).length : Int)) hr)
      omega
  refine wp_int (wr_gt ⟨_, rfl, ?_⟩)
  rw [hmax]
  refine iteB (fun c => ?_) (fun c => ?_)
  · rw [if_pos c] at q
    walk_at "r"
    rw [← word2]
    exact q _ fun _ h => h
  rw [if_neg (by rw [c]; decide)] at q
  refine wp_next ?_
  -- what stays
  refine wp_seq (wp_set (wp_dnew fun g => ?_))
  walk_at "set"
  refine wpS_nd fun nd => ?_
  have gne : ∀ c ∈ μ, c.1 ≠ g := fun c hc => nd_ne nd (show (c.1, c.2) ∈ μ from hc)
  have pg : p ≠ g := gne _ hp.at_
  have hKf : ∀ z, lk (R.filter fun r => stay || !decide (x <+: r.1)) z = stO L stay x z := fun z => by
    rw [TM.lk_filt (fun k => stay || !decide (x <+: k)), hp.lk]
    unfold stO
    cases stay with
    | true => simp
    | false => by_cases c : x <+: z <;> simp [c]
  refine wp_mid (fun ρ' μ' => (∀ c ∈ μ, c ∈ μ') ∧ (g, DCell.dct ((R.filter fun r => stay || !decide (x <+: r.1)).map dR)) ∈ μ' ∧ ∃ z5 : Option Dv, ρ' = [some (.ref p), some (.str x), some (.str y), some (.bl stay), some (.lst ((grp L x).map fun r => Dv.str r.1)), z5, some (.lst ((grp L x).map fun r => Dv.str (frT x y r))), some (.ref g), none]) ?_ ?_
  · refine wp_forD (p := p) (R := R) rfl (List.mem_cons_of_mem _ hp.at_) (fun o n ρ' μ' => (p, DCell.lck o (R.map dR)) ∈ μ' ∧ (∀ c ∈ μ, c ≠ (p, DCell.dct (R.map dR)) → c ∈ μ') ∧ (g, DCell.dct (((R.take n).filter fun r => stay || !decide (x <+: r.1)).map dR)) ∈ μ' ∧ ∃ z5 : Option Dv, ρ' = [some (.ref p), some (.str x), some (.str y), some (.bl stay), some (.lst ((grp L x).map fun r => Dv.str r.1)), z5, some (.lst ((grp L x).map fun r => Dv.str (frT x y r))), some (.ref g), none]) ?_ ?_ ?_
    · intro o μ1 h1 h2
      exact ⟨h1, fun c hc hn => h2 c (List.mem_cons_of_mem _ hc) hn, h2 _ (List.mem_cons_self) (fun z => pg (Prod.mk.inj z).1.symm), _, rfl⟩
    · rintro o n r ρ' μ' hr ⟨h1, h2, h3, z5, rfl⟩
      have hrm : r ∈ L := hp.pm.mem_iff.mp (List.mem_of_getElem? hr)
      have hl := hp.len r hrm
      refine ⟨h1, ?_⟩
      walk_at "set"
      have etk : R.take (n + 1) = R.take n ++ [r] := by rw [List.take_succ, hr]; rfl
      have put : wpS K H0 (sDPut (tVar 7) (tVar 5) (tDGet (tVar 0) (tVar 5))) [some (Dv.ref p), some (.str x), some (.str y), some (.bl stay), some (.lst ((grp L x).map fun r => Dv.str r.1)), some (.str r.1), some (.lst ((grp L x).map fun r => Dv.str (frT x y r))), some (.ref g), none] μ' { nx := fun ρ' μ' => (p, DCell.lck o (R.map dR)) ∈ μ' ∧ (∀ c ∈ μ, c ≠ (p, DCell.dct (R.map dR)) → c ∈ μ') ∧ (g, DCell.dct (((R.take n).filter (fun r => stay || !decide (x <+: r.1)) ++ [r]).map dR)) ∈ μ' ∧ ∃ z5 : Option Dv, ρ' = [some (.ref p), some (.str x), some (.str y), some (.bl stay), some (.lst ((grp L x).map fun r => Dv.str r.1)), z5, some (.lst ((grp L x).map fun r => Dv.str (frT x y r))), some (.ref g), none], rt := fun _ _ => False, ct := fun _ _ => False, bk := fun _ _ => False } := by
        refine wp_dput (wp_dget (wp_var rfl (wp_var rfl ⟨p, R, r.1, r.2, rfl, rfl, .inr ⟨o, h1⟩, hp.row hrm, wp_var rfl (wp_var rfl ⟨g, _, r.1, r.2, rfl, rfl, rfl, h3, ?_, fun μ4 m4 o4 => ?_⟩)⟩)))
        · have := List.length_filter_le (fun r : Rw => stay || !decide (x <+: r.1)) (R.take n)
          rw [List.length_take] at this
          exact sz_lt (by omega)
        · rw [put_new] at m4
          · exact ⟨o4 _ h1 (fun z => pg (Prod.mk.inj z).1), fun c hc hn => o4 c (h2 c hc hn) fun z => gne c hc (by rw [z]), m4, _, rfl⟩
          · rw [TM.lk_filt (fun k => stay || !decide (x <+: k))]
            have hnk := hp.nk
            have : lk (R.take n) r.1 = none := by
              rw [TM.lk_none]
              intro q hq e
              have h4 : (R.take n ++ [r]).map (·.1) = (R.take (n + 1)).map (·.1) := by rw [etk]
              have h5 := hnk.take (n + 1)
              unfold TM.Nk at h5
              rw [← h4, List.map_append] at h5
              exact (List.nodup_append.mp h5).2.2 q.1 (List.mem_map_of_mem (f := (·.1)) hq) r.1 (by simp) e
            rw [this]
            split <;> rfl
      have fin : (stay || !decide (x <+: r.1)) = true → wpS K H0 (sDPut (tVar 7) (tVar 5) (tDGet (tVar 0) (tVar 5))) [some (Dv.ref p), some (.str x), some (.str y), some (.bl stay), some (.lst ((grp L x).map fun r => Dv.str r.1)), some (.str r.1), some (.lst ((grp L x).map fun r => Dv.str (frT x y r))), some (.ref g), none] μ' { nx := fun ρ' μ' => (p, DCell.lck o (R.map dR)) ∈ μ' ∧ (∀ c ∈ μ, c ≠ (p, DCell.dct (R.map dR)) → c ∈ μ') ∧ (g, DCell.dct (((R.take (n + 1)).filter fun r => stay || !decide (x <+: r.1)).map dR)) ∈ μ' ∧ ∃ z5 : Option Dv, ρ' = [some (.ref p), some (.str x), some (.str y), some (.bl stay), some (.lst ((grp L x).map fun r => Dv.str r.1)), z5, some (.lst ((grp L x).map fun r => Dv.str (frT x y r))), some (.ref g), none], rt := fun _ _ => False, ct := fun ρ' μ' => (p, DCell.lck o (R.map dR)) ∈ μ' ∧ (∀ c ∈ μ, c ≠ (p, DCell.dct (R.map dR)) → c ∈ μ') ∧ (g, DCell.dct (((R.take (n + 1)).filter fun r => stay || !decide (x <+: r.1)).map dR)) ∈ μ' ∧ ∃ z5 : Option Dv, ρ' = [some (.ref p), some (.str x), some (.str y), some (.bl stay), some (.lst ((grp L x).map fun r => Dv.str r.1)), z5, some (.lst ((grp L x).map fun r => Dv.str (frT x y r))), some (.ref g), none], bk := fun _ _ => False } := fun hk => by
        refine put.imp (fun ρ' μ' h => ?_) (fun _ _ h => h) (fun _ _ h => h) (fun _ _ h => h.elim)
        rw [etk, List.filter_append, List.filter_cons, if_pos hk]
        exact h
      have skip : (stay || !decide (x <+: r.1)) = false → (g, DCell.dct (((R.take (n + 1)).filter fun r => stay || !decide (x <+: r.1)).map dR)) ∈ μ' := fun hk => by
        rw [etk, List.filter_append, List.filter_cons, if_neg (by rw [hk]; decide)]
        simp only [List.filter_nil, List.append_nil]
        exact h3
      refine wp_if (wp_or (wp_tB (wp_var rfl ⟨_, rfl, ?_⟩)))
      refine iteB (fun c => ?_) (fun c => ?_)
      · refine iteT ?_
        exact fin (by rw [c]; rfl)
      · walk_at "r"
        rw [cutL_to, take_pre]
        by_cases c3 : x <+: r.1
        · rw [decide_eq_true c3]
          refine iteF (wp_next ?_)
          exact ⟨h1, h2, skip (by rw [c, decide_eq_true c3]; rfl), _, rfl⟩
        · rw [decide_eq_false c3]
          refine iteT ?_
          exact fin (by rw [decide_eq_false c3]; cases stay <;> rfl)
    · rintro o ρ' μ' ⟨h1, h2, h3, z5, rfl⟩
      refine ⟨h1, fun μ2 m2 o2 => ⟨fun c hc => ?_, ?_, _, rfl⟩⟩
      · by_cases e : c = (p, DCell.dct (R.map dR))
        · rw [e]; exact m2
        · refine o2 c (h2 c hc e) fun z => ?_
          have h7 : (p, c.2) ∈ μ := by rw [z] at hc; rw [z]; exact hc
          have nd2 := (List.nodup_cons.mp nd).2
          have := nd_same nd2 h7 hp.at_
          rw [z] at this
          cases this
      · rw [List.take_length] at h3
        exact o2 _ h3 fun z => pg (Prod.mk.inj z).1.symm
  rintro ρ' μ1 ⟨hs1, hg1, z5, rfl⟩
  generalize hK0 : (R.filter fun r => stay || !decide (x <+: r.1)) = K0 at hg1 hKf
  have hK0n : Nk K0 := by rw [← hK0]; exact hp.nk.filt _
  have hK0l : K0.length ≤ 100 := by rw [← hK0]; exact Nat.le_trans (List.length_filter_le _ _) hR
  -- taken
  refine wp_mid (fun ρ' μ' => (grp L x).any (fun r => (stO L stay x (frT x y r)).isSome) = false ∧ μ' = μ1 ∧ ∃ z5 : Option Dv, ρ' = [some (.ref p), some (.str x), some (.str y), some (.bl stay), some (.lst ((grp L x).map fun r => Dv.str r.1)), z5, some (.lst ((grp L x).map fun r => Dv.str (frT x y r))), some (.ref g), none]) ?_ ?_
  · refine wp_for (wi_seq (wp_var rfl ⟨_, .inl rfl, fun n ρ' μ' => μ' = μ1 ∧ (∀ r ∈ (grp L x).take n, (stO L stay x (frT x y r)).isSome = false) ∧ ∃ z5 : Option Dv, ρ' = [some (.ref p), some (.str x), some (.str y), some (.bl stay), some (.lst ((grp L x).map fun r => Dv.str r.1)), z5, some (.lst ((grp L x).map fun r => Dv.str (frT x y r))), some (.ref g), none], ⟨rfl, fun r hr => (by simp at hr), _, rfl⟩, ?_, ?_⟩))
    · rintro n d ρ' μ' hd ⟨rfl, hall, z5, rfl⟩
      rw [List.getElem?_map] at hd
      cases er : (grp L x)[n]? with
      | none => rw [er] at hd; cases hd
      | some r =>
      rw [er] at hd
      cases hd
      have hrm := List.mem_of_getElem? er
      walk_at "set"
      refine wp_if (wp_test (wp_op (wp_var rfl (wp_var rfl (wr_inD (.inl hg1) ⟨_, rfl, ?_⟩)))))
      rw [hKf]
      refine iteB (fun c => ?_) (fun c => ?_)
      · have ha : (grp L x).any (fun r => (stO L stay x (frT x y r)).isSome) = true := by
          rw [List.any_eq_true]
          exact ⟨r, hrm, c⟩
        rw [if_pos ha] at q
        walk_at "r"
        rw [← word3]
        exact q _ hs1
      · refine wp_next ⟨rfl, fun r' hr' => ?_, _, rfl⟩
        rw [List.take_succ, er] at hr'
        rcases List.mem_append.mp hr' with h | h
        · exact hall r' h
        · rw [List.mem_singleton.mp (show r' ∈ [r] from h)]
          exact c
    · rintro ρ' μ' ⟨rfl, hall, z5, rfl⟩
      rw [List.length_map, List.take_length] at hall
      refine ⟨?_, rfl, _, rfl⟩
      rw [List.any_eq_false]
      intro r hr
      rw [hall r hr]
      decide
  rintro ρ' μ' ⟨hany, rfl, z6, rfl⟩
  rw [if_neg (by rw [hany]; decide)] at q
  -- too many
  refine wp_seq (wp_if (wp_test (wp_op (wp_op (wp_cb (wp_cons (wp_var rfl (wp_nil (wc_lenD (.inl hg1) ?_)))))))))
  walk_at "r"
  rw [List.length_map]
  have hcnt : decide ((100 : Int) < (K0.length : Int) + ((grp L x).length : Int)) = decide (stay = true ∧ 100 < L.length + (grp L x).length) := by
    have hl4 : ∀ L : List Rw, (L.filter fun r => decide (x <+: r.1)).length + (L.filter fun r => !decide (x <+: r.1)).length = L.length := fun L => by
      induction L with
      | nil => rfl
      | cons r L ih =>
        by_cases c : x <+: r.1
        · simp [c]; omega
        · simp [c]; omega
    have h2 := hl4 L
    have h3 : K0.length = (L.filter fun r => stay || !decide (x <+: r.1)).length := by rw [← hK0]; exact (hp.pm.filter _).length_eq
    have h5 : (grp L x).length = (L.filter fun r => decide (x <+: r.1)).length := rfl
    cases stay with
    | true =>
      have h6 : (L.filter fun r => true || !decide (x <+: r.1)).length = L.length := by simp
      rw [h6] at h3
      by_cases c : 100 < L.length + (grp L x).length
      · rw [decide_eq_true (by omega), decide_eq_true ⟨rfl, c⟩]
      · rw [decide_eq_false (by omega), decide_eq_false (fun z => c z.2)]
    | false =>
      have h6 : (L.filter fun r => false || !decide (x <+: r.1)).length = (L.filter fun r => !decide (x <+: r.1)).length := by simp
      rw [h6] at h3
      rw [decide_eq_false (by omega), decide_eq_false (fun z => nomatch z.1)]
  rw [hcnt]
  refine iteD (fun c => ?_) (fun c => ?_)
  · rw [if_pos c] at q
    walk_at "r"
    rw [← word4]
    exact q _ hs1
  rw [if_neg c] at q
  refine wp_next ?_
  -- the new rows
  have hfr : ∀ r ∈ grp L x, lk K0 (frT x y r) = none := fun r hr => by
    rw [hKf]
    have := List.any_eq_false.mp hany r hr
    simpa using this
  have hFn : Nk (frR L x y) := TM.nk_fr (TM.nk_sr hp.sr) x y
  have hFl : (frR L x y).length = (grp L x).length := by unfold frR; rw [List.length_map]
  refine wp_mid (fun ρ' μ' => (∀ c ∈ μ, c ∈ μ') ∧ (g, DCell.dct ((K0 ++ frR L x y).map dR)) ∈ μ' ∧ ∃ z5 z8 : Option Dv, ρ' = [some (.ref p), some (.str x), some (.str y), some (.bl stay), some (.lst ((grp L x).map fun r => Dv.str r.1)), z5, some (.lst ((grp L x).map fun r => Dv.str (frT x y r))), some (.ref g), z8]) ?_ ?_
  · refine wp_for (wi_rng1 (wp_cons (wp_cb (wp_cons (wp_var rfl (wp_nil (wc_lenL isL_d (wp_nil ?_))))))))
    rw [List.length_map]
    refine ⟨_, rfl, by omega, by omega, fun n ρ' μ' => (∀ c ∈ μ, c ∈ μ') ∧ (g, DCell.dct ((K0 ++ (frR L x y).take n).map dR)) ∈ μ' ∧ ∃ z5 z8 : Option Dv, ρ' = [some (.ref p), some (.str x), some (.str y), some (.bl stay), some (.lst ((grp L x).map fun r => Dv.str r.1)), z5, some (.lst ((grp L x).map fun r => Dv.str (frT x y r))), some (.ref g), z8], ⟨hs1, (by simpa using hg1), _, _, rfl⟩, ?_, ?_⟩
    · rintro n d ρ' μ3 hd ⟨hs, hg, z5, z8, rfl⟩
      have hlt : n < (grp L x).length := by
        have := (List.getElem?_eq_some_iff.mp hd).1
        simpa using this
      have ed : d = .int (n : Nat) := by
        rw [List.getElem?_map, List.getElem?_range (by simpa using hlt)] at hd
        exact (Option.some.inj hd).symm
      subst ed
      have er : (grp L x)[n]? = some (grp L x)[n] := List.getElem?_eq_getElem hlt
      generalize (grp L x)[n] = r at er
      have hrm := List.mem_of_getElem? er
      have hrL := (hGm r hrm).1
      walk_at "set"
      have e1 : atI ((grp L x).map fun r => Dv.str r.1) ((n : Nat) : Int) = some (.str r.1) := by rw [atV, List.getElem?_map, er]; rfl
      have e2 : atI ((grp L x).map fun r => Dv.str (frT x y r)) ((n : Nat) : Int) = some (.str (frT x y r)) := by rw [atV, List.getElem?_map, er]; rfl
      refine wp_dput (wp_dget (wp_var rfl (wp_op (wp_var rfl (wp_var rfl (wr_ixL isL_d e1 ⟨p, R, r.1, r.2, rfl, rfl, .inl (hs _ hp.at_), hp.row hrL, wp_var rfl (wp_op (wp_var rfl (wp_var rfl (wr_ixL isL_d e2 ⟨g, _, frT x y r, r.2, rfl, rfl, rfl, hg, ?_, fun μ4 m4 o4 => ?_⟩))))⟩))))))
      · rw [List.length_append, List.length_take]
        exact sz_lt (by omega)
      · have efr : (frR L x y)[n]? = some (frT x y r, r.2) := by unfold frR; rw [List.getElem?_map, er]; rfl
        have etk : (frR L x y).take (n + 1) = (frR L x y).take n ++ [(frT x y r, r.2)] := by rw [List.take_succ, efr]; rfl
        have hnone : lk (K0 ++ (frR L x y).take n) (frT x y r) = none := by
          rw [TM.lk_app, hfr r hrm, Option.none_or, TM.lk_none]
          intro q hq e
          have h5 := hFn.take (n + 1)
          unfold TM.Nk at h5
          rw [etk, List.map_append] at h5
          exact (List.nodup_append.mp h5).2.2 q.1 (List.mem_map_of_mem (f := (·.1)) hq) (frT x y r) (by simp) e
        rw [put_new hnone, List.append_assoc, ← etk] at m4
        exact ⟨fun c hc => o4 c (hs c hc) fun z => gne c hc (by rw [z]), m4, _, _, rfl⟩
    · rintro ρ' μ3 ⟨hs, hg, z5, z8, rfl⟩
      have el : ((List.range (((grp L x).length : Nat) : Int).toNat).map fun (i : Nat) => Dv.int (i : Nat)).length = (grp L x).length := by simp
      rw [el, ← hFl, List.take_length] at hg
      exact ⟨hs, hg, _, _, rfl⟩
  rintro ρ' μ3 ⟨hs, hg, z7, z8, rfl⟩
  walk_at "r"
  rw [List.length_map]
  refine q _ g (K0 ++ frR L x y) hs hg (TM.nk_app hK0n hFn fun r hr => ?_) fun z => ?_
  · unfold frR at hr
    obtain ⟨r0, h0, rfl⟩ := List.mem_map.mp hr
    exact hfr r0 h0
  · rw [TM.lk_app, hKf, TM.lk_fr]
    rfl
theorem scN__law_due : FnScope ["_law_plain", "_law_way", "_law_one", "_law_other", "_law_number", "_law_grown", "_law_name", "_law_had"] ["_law_plain", "_law_way", "_law_one", "_law_other", "_law_number"] (defScope s__law_due) := ⟨rfl, rfl, rfl, by decide +kernel, rfl, by decide +kernel, by decide +kernel⟩
theorem ok__law_due {f : Addr} {fd : FuncData} (F : Fun K "_law_due" "_law_due" s__law_due f fd) (M_len : mg "len" = none) (D__law_branch : Df P w K mg base k "_law_branch" ["_law_plain", "_law_one", "_law_other", "_law_stay"] S__law_branch) (D__law_named : Df P w K mg base k "_law_named" ["_law_thing"] S__law_named) : FnD P w K mg base (k + 1) f fd ["_law_plain", "_law_way", "_law_one", "_law_other", "_law_number"] (spOf K mg 5 S__law_due) := by
  refine okD F scN__law_due (fun cdv A outer s H E hr => ⟨_, (pss_cons (ps_if (PW.pt (pw_or (pt_not (pt_val (pe_dfK D__law_named ⟨rfl, rfl, rfl, rfl, rfl⟩ hr (takes_of rfl rfl rfl rfl) rfl (pa_cons (pv 2) pa_nil)))) (pw_or1 (PW.pt (pw_and (pt_cmpR op_gtU (pv 1) pe_int (nomark _)) (pw_and1 (pt_not (pt_val (pe_dfK D__law_named ⟨rfl, rfl, rfl, rfl, rfl⟩ hr (takes_of rfl rfl rfl rfl) rfl (pa_cons (pv 3) pa_nil)))))))))) (pss_one (ps_ret (pe_tup (pa_cons pe_str (pa_cons pe_bl (pa_cons (pv 0) pa_nil)))))) pss_nil)
      (pss_cons (ps_if (pt_cmpR op_gtU (pv 1) pe_int (nomark _)) (pss_one (ps_ret (pe_dfK D__law_branch ⟨rfl, rfl, rfl, rfl, rfl⟩ hr (takes_of rfl rfl rfl rfl) rfl (pa_cons (pv 0) (pa_cons (pv 2) (pa_cons (pv 3) (pa_cons (pe_cmpR (op_eqK (K := K) rfl hr.units) (pv 1) pe_int (nomark _)) pa_nil))))))) pss_nil)
      (pss_cons (ps_set (i := 5) scN__law_due.nd rfl (Or.inl rfl) pe_dnewK)
      (pss_cons (ps_lock (ps_for (passes_of rfl) rfl (pi_keys (pv 0)) (pg_name (i := 6) scN__law_due.nd rfl (Or.inl rfl)) (pss_one (ps_if (PW.pt (pw_or (PW.pt (pw_and (pt_cmpR (op_eqK (K := K) rfl hr.units) (pv 1) pe_int (nomark _)) (pw_and1 (pt_cmpR (op_neK (K := K) rfl hr.units) (pe_slice (sl_K (K := K) rfl) (pv 6) po_none (po_some (pe_callB (call_lenK (K := K) rfl) (by rfl) M_len PySem.boot_len (pa_cons (pv 2) pa_nil)))) (pv 2) (nomark _))))) (pw_or1 (PW.pt (pw_and (pt_cmpR op_ltU (pv 1) pe_int (nomark _)) (pw_and1 (pt_cmpR (op_neK (K := K) rfl hr.units) (pv 6) (pv 2) (nomark _)))))))) (pss_one (ps_dput hr.u1 (pv 5) (pv 6) (pe_dget hr.u1 (pv 0) (pv 6) (fun _ _ => rfl)) rfl)) pss_nil))))
      (pss_cons (ps_if (PW.pt (pw_and (pt_cmpR op_gtU (pv 1) pe_int (nomark _)) (pw_and1 (pt_cmpR (op_eqK (K := K) rfl hr.units) (pe_callB call_lenD (by rfl) M_len PySem.boot_len (pa_cons (pv 5) pa_nil)) (pe_callB call_lenD (by rfl) M_len PySem.boot_len (pa_cons (pv 0) pa_nil)) (nomark _))))) (pss_one (ps_ret (pe_tup (pa_cons pe_str (pa_cons pe_bl (pa_cons (pv 0) pa_nil)))))) pss_nil)
      (pss_cons (ps_if (pt_cmpR (op_eqK (K := K) rfl hr.units) (pv 1) pe_int (nomark _)) (pss_one (ps_ret (pe_tup (pa_cons pe_str (pa_cons (pe_op op_subU (pe_callB call_lenD (by rfl) M_len PySem.boot_len (pa_cons (pv 0) pa_nil)) (pe_callB call_lenD (by rfl) M_len PySem.boot_len (pa_cons (pv 5) pa_nil))) (pa_cons (pv 5) pa_nil)))))) pss_nil)
      (pss_cons (ps_if (PW.pt (pw_and (pt_cmpR (op_eqK (K := K) rfl hr.units) (pv 1) pe_int (nomark _)) (pw_and (pt_cmpR (op_notInD hr.u1) (pv 2) (pv 0) (by rfl)) (pw_and1 (pt_cmpR (op_eqK (K := K) rfl hr.units) (pe_callB call_lenD (by rfl) M_len PySem.boot_len (pa_cons (pv 0) pa_nil)) pe_int (nomark _)))))) (pss_one (ps_ret (pe_tup (pa_cons pe_str (pa_cons pe_bl (pa_cons (pv 0) pa_nil)))))) pss_nil)
      (pss_cons (ps_set (i := 7) scN__law_due.nd rfl (Or.inl rfl) (pe_dget1 hr.u1 (pv 0) (pv 2) ⟨rfl, rfl, rfl, rfl⟩))
      (pss_cons (ps_if (pt_cmpR (op_eqK (K := K) rfl hr.units) (pv 1) pe_int (nomark _)) (pss_one (ps_dput hr.u1 (pv 5) (pv 2) (pv 4) rfl)) pss_nil)
      (pss_one (ps_ret (pe_tup (pa_cons pe_str (pa_cons (pv 7) (pa_cons (pv 5) pa_nil))))))))))))))), ?_⟩)
  try dsimp only [cxOf]
  intro H0 ds μ kk ex hW h
  obtain ⟨p, R, L, way, v, d1, d2, rfl, hp, w0, w5, t1, t2, q⟩ := h
  have hR : R.length ≤ 100 := by rw [hp.pm.length_eq]; exact hp.n
  have hN := hp.n
  walk_at "env"
  -- no name
  refine wp_mid (fun ρ' μ' => μ' = μ ∧ (∃ x, nmD d1 = some x) ∧ (2 < way → ∃ y, nmD d2 = some y) ∧ ρ' = [some (.ref p), some (.int way), some d1, some d2, some (.int v), none, none, none]) ?_ ?_
  · have bad : DueK p μ kk (.no 0) → wpS K H0 (tRet (tTup (tCons (tC (V.str (Str.ofString "no name"))) (tCons (tC (V.bl true)) (tCons (tVar 0) tNil))))) [some (.ref p), some (.int way), some d1, some d2, some (.int v), none, none, none] μ { nx := fun ρ' μ' => μ' = μ ∧ (∃ x, nmD d1 = some x) ∧ (2 < way → ∃ y, nmD d2 = some y) ∧ ρ' = [some (.ref p), some (.int way), some d1, some d2, some (.int v), none, none, none], rt := kk } := fun q => by
      walk_at "r"
      rw [← word0]
      exact q _ fun _ h => h
    refine wp_if (wp_or (wp_not (wp_test (wp_call hW (wp_cons (wp_var rfl (wp_nil ⟨rfl, d1, rfl, t1, _, rfl, ?_⟩)))))))
    rcases (show nmD d1 = none ∨ ∃ x, nmD d1 = some x by cases nmD d1 <;> simp) with e1 | ⟨x, e1⟩
    · rw [due_no1 e1] at q
      rw [show (nmD d1).isSome = false by rw [e1]; rfl]
      refine iteT (iteT ?_)
      exact bad q
    · rw [show (nmD d1).isSome = true by rw [e1]; rfl]
      refine iteF ?_
      refine wp_and ?_
      walk_at "r"
      refine iteD (fun c => ?_) (fun c => ?_)
      · refine wp_not (wp_test (wp_call hW (wp_cons (wp_var rfl (wp_nil ⟨rfl, d2, rfl, t2, _, rfl, ?_⟩)))))
        rcases (show nmD d2 = none ∨ ∃ x, nmD d2 = some x by cases nmD d2 <;> simp) with e2 | ⟨y, e2⟩
        · rw [due_no2 e1 e2 c] at q
          rw [show (nmD d2).isSome = false by rw [e2]; rfl]
          refine iteT ?_
          exact bad q
        · rw [show (nmD d2).isSome = true by rw [e2]; rfl]
          refine iteF (wp_next ?_)
          exact ⟨rfl, ⟨x, e1⟩, fun _ => ⟨y, e2⟩, rfl⟩
      · refine iteF (wp_next ?_)
        exact ⟨rfl, ⟨x, e1⟩, fun z => absurd z c, rfl⟩
  rintro ρ' μ' ⟨eμ, ⟨x, ex1⟩, h2, rfl⟩
  obtain rfl : μ = μ' := eμ.symm
  obtain ⟨rfl, hxb⟩ := nmD_some ex1
  have hxl := nameB_len hxb
  -- a branch
  refine wp_seq (wp_if (wp_test (wp_op (wp_var rfl (wp_int (wr_gt ⟨_, rfl, ?_⟩))))))
  refine iteD (fun c => ?_) (fun c => ?_)
  · obtain ⟨y, ey⟩ := h2 c
    obtain ⟨rfl, hyb⟩ := nmD_some ey
    have hyl := nameB_len hyb
    rw [due_br ex1 ey c] at q
    refine wp_ret (wp_call hW ?_)
    walk_at "r"
    exact ⟨rfl, p, R, L, x, y, _, rfl, hp, hxl, hyl, q⟩
  refine wp_next ?_
  -- what stays
  refine wp_seq (wp_set (wp_dnew fun g => ?_))
  walk_at "set"
  refine wpS_nd fun nd => ?_
  have gne : ∀ c ∈ μ, c.1 ≠ g := fun c hc => nd_ne nd (show (c.1, c.2) ∈ μ from hc)
  have pg : p ≠ g := gne _ hp.at_
  refine wp_mid (fun ρ' μ' => (∀ c ∈ μ, c ∈ μ') ∧ (g, DCell.dct ((R.filter fun r => kpB way x r.1).map dR)) ∈ μ' ∧ ∃ z6 : Option Dv, ρ' = [some (.ref p), some (.int way), some (.str x), some d2, some (.int v), some (.ref g), z6, none]) ?_ ?_
  · refine wp_forD (p := p) (R := R) rfl (List.mem_cons_of_mem _ hp.at_) (fun o n ρ' μ' => (p, DCell.lck o (R.map dR)) ∈ μ' ∧ (∀ c ∈ μ, c ≠ (p, DCell.dct (R.map dR)) → c ∈ μ') ∧ (g, DCell.dct (((R.take (n)).filter fun r => kpB way x r.1).map dR)) ∈ μ' ∧ ∃ z6 : Option Dv, ρ' = [some (.ref p), some (.int way), some (.str x), some d2, some (.int v), some (.ref g), z6, none]) ?_ ?_ ?_
    · intro o μ1 h1 h2
      exact ⟨h1, fun c hc hn => h2 c (List.mem_cons_of_mem _ hc) hn, h2 _ (List.mem_cons_self) (fun z => pg (Prod.mk.inj z).1.symm), _, rfl⟩
    · rintro o n r ρ' μ' hr ⟨h1, h2, h3, z6, rfl⟩
      have hrm : r ∈ L := hp.pm.mem_iff.mp (List.mem_of_getElem? hr)
      have hl := hp.len r hrm
      refine ⟨h1, ?_⟩
      walk_at "set"
      have etk : R.take (n + 1) = R.take n ++ [r] := by rw [List.take_succ, hr]; rfl
      have put : wpS K H0 (sDPut (tVar 5) (tVar 6) (tDGet (tVar 0) (tVar 6))) [some (Dv.ref p), some (.int way), some (.str x), some d2, some (.int v), some (.ref g), some (.str r.1), none] μ' { nx := fun ρ' μ' => (p, DCell.lck o (R.map dR)) ∈ μ' ∧ (∀ c ∈ μ, c ≠ (p, DCell.dct (R.map dR)) → c ∈ μ') ∧ (g, DCell.dct (((R.take n).filter (fun r => kpB way x r.1) ++ [r]).map dR)) ∈ μ' ∧ ∃ z6 : Option Dv, ρ' = [some (.ref p), some (.int way), some (.str x), some d2, some (.int v), some (.ref g), z6, none], rt := fun _ _ => False, ct := fun _ _ => False, bk := fun _ _ => False } := by
        refine wp_dput (wp_dget (wp_var rfl (wp_var rfl ⟨p, R, r.1, r.2, rfl, rfl, .inr ⟨o, h1⟩, hp.row hrm, wp_var rfl (wp_var rfl ⟨g, _, r.1, r.2, rfl, rfl, rfl, h3, ?_, fun μ4 m4 o4 => ?_⟩)⟩)))
        · have := List.length_filter_le (fun r : Rw => kpB way x r.1) (R.take n)
          rw [List.length_take] at this
          exact sz_lt (by omega)
        · rw [put_new] at m4
          · exact ⟨o4 _ h1 (fun z => pg (Prod.mk.inj z).1), fun c hc hn => o4 c (h2 c hc hn) fun z => gne c hc (by rw [z]), m4, _, rfl⟩
          · rw [TM.lk_filt (fun k => kpB way x k)]
            have hnk := hp.nk
            have : lk (R.take n) r.1 = none := by
              rw [TM.lk_none]
              intro q hq e
              have h4 : (R.take n ++ [r]).map (·.1) = (R.take (n + 1)).map (·.1) := by rw [etk]
              have h5 := hnk.take (n + 1)
              unfold TM.Nk at h5
              rw [← h4, List.map_append] at h5
              exact (List.nodup_append.mp h5).2.2 q.1 (List.mem_map_of_mem (f := (·.1)) hq) r.1 (by simp) e
            rw [this]
            split <;> rfl
      have fin : kpB way x r.1 = true → wpS K H0 (sDPut (tVar 5) (tVar 6) (tDGet (tVar 0) (tVar 6))) [some (Dv.ref p), some (.int way), some (.str x), some d2, some (.int v), some (.ref g), some (.str r.1), none] μ' { nx := fun ρ' μ' => (p, DCell.lck o (R.map dR)) ∈ μ' ∧ (∀ c ∈ μ, c ≠ (p, DCell.dct (R.map dR)) → c ∈ μ') ∧ (g, DCell.dct (((R.take (n + 1)).filter fun r => kpB way x r.1).map dR)) ∈ μ' ∧ ∃ z6 : Option Dv, ρ' = [some (.ref p), some (.int way), some (.str x), some d2, some (.int v), some (.ref g), z6, none], rt := fun _ _ => False, ct := fun ρ' μ' => (p, DCell.lck o (R.map dR)) ∈ μ' ∧ (∀ c ∈ μ, c ≠ (p, DCell.dct (R.map dR)) → c ∈ μ') ∧ (g, DCell.dct (((R.take (n + 1)).filter fun r => kpB way x r.1).map dR)) ∈ μ' ∧ ∃ z6 : Option Dv, ρ' = [some (.ref p), some (.int way), some (.str x), some d2, some (.int v), some (.ref g), z6, none], bk := fun _ _ => False } := fun hk => by
        refine put.imp (fun ρ' μ' h => ?_) (fun _ _ h => h) (fun _ _ h => h) (fun _ _ h => h.elim)
        rw [etk, List.filter_append, List.filter_cons, if_pos hk]
        exact h
      have skip : kpB way x r.1 = false → (g, DCell.dct (((R.take (n + 1)).filter fun r => kpB way x r.1).map dR)) ∈ μ' := fun hk => by
        rw [etk, List.filter_append, List.filter_cons, if_neg (by rw [hk]; decide)]
        simp only [List.filter_nil, List.append_nil]
        exact h3
      have sk : kpB way x r.1 = false → wpS K H0 tNext [some (Dv.ref p), some (.int way), some (.str x), some d2, some (.int v), some (.ref g), some (.str r.1), none] μ' { nx := fun ρ' μ' => (p, DCell.lck o (R.map dR)) ∈ μ' ∧ (∀ c ∈ μ, c ≠ (p, DCell.dct (R.map dR)) → c ∈ μ') ∧ (g, DCell.dct (((R.take (n + 1)).filter fun r => kpB way x r.1).map dR)) ∈ μ' ∧ ∃ z6 : Option Dv, ρ' = [some (.ref p), some (.int way), some (.str x), some d2, some (.int v), some (.ref g), z6, none], rt := fun _ _ => False, ct := fun ρ' μ' => (p, DCell.lck o (R.map dR)) ∈ μ' ∧ (∀ c ∈ μ, c ≠ (p, DCell.dct (R.map dR)) → c ∈ μ') ∧ (g, DCell.dct (((R.take (n + 1)).filter fun r => kpB way x r.1).map dR)) ∈ μ' ∧ ∃ z6 : Option Dv, ρ' = [some (.ref p), some (.int way), some (.str x), some d2, some (.int v), some (.ref g), z6, none], bk := fun _ _ => False } := fun hk => wp_next ⟨h1, h2, skip hk, _, rfl⟩
      refine wp_if ?_
      refine wp_or ?_
      by_cases cw : way = 2
      · refine wp_and (wp_test (wp_op (wp_var rfl (wp_int (wr_eqI ⟨_, rfl, ?_⟩)))))
        rw [decide_eq_true cw]
        refine iteT ?_
        walk_at "r"
        rw [cutL_to, take_pre]
        by_cases c3 : x <+: r.1
        · rw [decide_eq_true c3]
          refine iteF ?_
          refine wp_and (wp_test (wp_op (wp_var rfl (wp_int (wr_lt ⟨_, rfl, ?_⟩)))))
          rw [decide_eq_false (by omega : ¬ way < 2)]
          refine iteF (iteF ?_)
          exact sk (by unfold kpB; simp [cw, c3])
        · rw [decide_eq_false c3]
          refine iteT (iteT ?_)
          exact fin (by unfold kpB; simp [cw, c3])
      · refine wp_and (wp_test (wp_op (wp_var rfl (wp_int (wr_eqI ⟨_, rfl, ?_⟩)))))
        rw [decide_eq_false cw]
        refine iteF (iteF ?_)
        refine wp_and (wp_test (wp_op (wp_var rfl (wp_int (wr_lt ⟨_, rfl, ?_⟩)))))
        rw [decide_eq_true (by omega : way < 2)]
        refine iteT ?_
        refine wp_test (wp_op (wp_var rfl (wp_var rfl (wr_neS ⟨_, rfl, ?_⟩))))
        by_cases c3 : r.1 = x
        · rw [decide_eq_true c3]
          refine iteF ?_
          exact sk (by unfold kpB; simp [cw, c3])
        · rw [decide_eq_false c3]
          refine iteT ?_
          exact fin (by unfold kpB; simp [cw, c3])
    · rintro o ρ' μ' ⟨h1, h2, h3, z6, rfl⟩
      refine ⟨h1, fun μ2 m2 o2 => ⟨fun c hc => ?_, ?_, _, rfl⟩⟩
      · by_cases e : c = (p, DCell.dct (R.map dR))
        · rw [e]; exact m2
        · refine o2 c (h2 c hc e) fun z => ?_
          have h7 : (p, c.2) ∈ μ := by rw [z] at hc; rw [z]; exact hc
          have nd2 := (List.nodup_cons.mp nd).2
          have := nd_same nd2 h7 hp.at_
          rw [z] at this
          cases this
      · rw [List.take_length] at h3
        exact o2 _ h3 fun z => pg (Prod.mk.inj z).1.symm
  rintro ρ' μ1 ⟨hs1, hg1, z6, rfl⟩
  have hw : way = 0 ∨ way = 1 ∨ way = 2 := by omega
  have hkl : ∀ z, lk (R.filter fun r => kpB way x r.1) z = if kpB way x z = true then lk L z else none := fun z => by
    rw [TM.lk_filt (fun k => kpB way x k), hp.lk]
  have hKn : Nk (R.filter fun r => kpB way x r.1) := hp.nk.filt _
  have hKl : (R.filter fun r => kpB way x r.1).length ≤ R.length := List.length_filter_le _ _
  have hRL : R.length = L.length := hp.pm.length_eq
  rcases hw with rfl | rfl | rfl
  · -- kept
    rw [due_kp ex1] at q
    unfold kpO at q
    refine wp_seq (wp_if (wp_and (wp_test (wp_op (wp_var rfl (wp_int (wr_gt ⟨_, rfl, ?_⟩)))))))
    refine iteF (iteF (wp_next ?_))
    refine wp_seq (wp_if (wp_test (wp_op (wp_var rfl (wp_int (wr_eqI ⟨_, rfl, iteF (wp_next ?_)⟩))))))
    refine wp_mid (fun ρ' μ' => ¬ (lk L x = none ∧ L.length = 100) ∧ μ' = μ1 ∧ ρ' = [some (.ref p), some (.int 0), some (.str x), some d2, some (.int v), some (.ref g), z6, none]) ?_ ?_
    · refine wp_if (wp_and (wp_test (wp_op (wp_var rfl (wp_int (wr_eqI ⟨_, rfl, iteT ?_⟩))))))
      refine wp_and (wp_test (wp_op (wp_var rfl (wp_var rfl (wr_notInD (.inl (hs1 _ hp.at_)) ⟨_, rfl, ?_⟩)))))
      rw [hp.lk]
      cases e : lk L x with
      | some n =>
        refine iteF (iteF (wp_next ?_))
        exact ⟨(fun z => by cases z.1), rfl, rfl⟩
      | none =>
        refine iteT ?_
        refine wp_test (wp_op (wp_cb (wp_cons (wp_var rfl (wp_nil (wc_lenD (.inl (hs1 _ hp.at_)) (wp_int (wr_eqI ⟨_, rfl, ?_⟩))))))))
        refine iteD (fun c => ?_) (fun c => wp_next ?_)
        · rw [if_pos ⟨e, by omega⟩] at q
          walk_at "r"
          rw [← word4]
          exact q _ hs1
        · exact ⟨fun z => c (by omega), rfl, rfl⟩
    rintro ρ' μ' ⟨hq, rfl, rfl⟩
    rw [if_neg hq] at q
    refine wp_mid (fun ρ' μ2 => μ2 = μ' ∧ ρ' = [some (.ref p), some (.int 0), some (.str x), some d2, some (.int v), some (.ref g), z6, some (encI (lk L x))]) ?_ ?_
    · refine wp_set (wp_dget1 (wp_var rfl ⟨p, R, rfl, .inl (hs1 _ hp.at_), wp_var rfl ⟨R, x, rfl, .inl (hs1 _ hp.at_), fun e => ?_, fun n e => ?_⟩⟩))
      · rw [hp.lk] at e
        rw [e]
        exact ⟨rfl, rfl⟩
      · rw [hp.lk] at e
        rw [e]
        exact ⟨rfl, rfl⟩
    rintro ρ' μ2 ⟨rfl, rfl⟩
    refine wp_seq (wp_if (wp_test (wp_op (wp_var rfl (wp_int (wr_eqI ⟨_, rfl, iteT ?_⟩))))))
    refine wp_dput (wp_var rfl (wp_var rfl (wp_var rfl ⟨g, _, x, v, rfl, rfl, rfl, hg1, sz_lt (by omega), fun μ4 m4 o4 => ?_⟩)))
    walk_at "r"
    refine q _ g _ (fun c hc => o4 c (hs1 c hc) fun z => gne c hc (by rw [z])) m4 (nk_put hKn x v) fun z => ?_
    rw [lk_put, hkl]
    show _ = if z = x then some v else lk L z
    by_cases e : z = x
    · rw [if_pos e, if_pos e]
    · rw [if_neg e, if_neg e]
      unfold kpB
      simp [e]
  · -- dropped
    rw [due_dr ex1] at q
    unfold drO at q
    have hlen : decide (((R.filter fun r => kpB 1 x r.1).length : Int) = (R.length : Int)) = decide (lk L x = none) := by
      have h1 : (R.filter fun r => kpB 1 x r.1).length = R.length ↔ lk L x = none := by
        rw [List.length_filter_eq_length_iff, ← hp.lk, TM.lk_none]
        refine ⟨fun h r hr e => ?_, fun h r hr => ?_⟩
        · have := h r hr
          unfold kpB at this
          simp [e] at this
        · unfold kpB
          simp [h r hr]
      by_cases c : lk L x = none
      · rw [decide_eq_true c, decide_eq_true (by have := h1.mpr c; omega)]
      · rw [decide_eq_false c, decide_eq_false (fun z => c (h1.mp (by omega)))]
    refine wp_seq (wp_if (wp_and (wp_test (wp_op (wp_var rfl (wp_int (wr_gt ⟨_, rfl, ?_⟩)))))))
    refine iteT ?_
    refine wp_test (wp_op (wp_cb (wp_cons (wp_var rfl (wp_nil (wc_lenD (.inl hg1) (wp_cb (wp_cons (wp_var rfl (wp_nil (wc_lenD (.inl (hs1 _ hp.at_)) (wr_eqI ⟨_, rfl, ?_⟩))))))))))))
    rw [hlen]
    refine iteD (fun c => ?_) (fun c => wp_next ?_)
    · rw [if_pos c] at q
      walk_at "r"
      rw [← word1]
      exact q _ hs1
    rw [if_neg c] at q
    refine wp_seq (wp_if (wp_test (wp_op (wp_var rfl (wp_int (wr_eqI ⟨_, rfl, iteF (wp_next ?_)⟩))))))
    refine wp_seq (wp_if (wp_and (wp_test (wp_op (wp_var rfl (wp_int (wr_eqI ⟨_, rfl, iteF (iteF (wp_next ?_))⟩)))))))
    refine wp_mid (fun ρ' μ2 => μ2 = μ1 ∧ ρ' = [some (.ref p), some (.int 1), some (.str x), some d2, some (.int v), some (.ref g), z6, some (encI (lk L x))]) ?_ ?_
    · refine wp_set (wp_dget1 (wp_var rfl ⟨p, R, rfl, .inl (hs1 _ hp.at_), wp_var rfl ⟨R, x, rfl, .inl (hs1 _ hp.at_), fun e => ?_, fun n e => ?_⟩⟩))
      · rw [hp.lk] at e
        rw [e]
        exact ⟨rfl, rfl⟩
      · rw [hp.lk] at e
        rw [e]
        exact ⟨rfl, rfl⟩
    rintro ρ' μ2 ⟨rfl, rfl⟩
    refine wp_seq (wp_if (wp_test (wp_op (wp_var rfl (wp_int (wr_eqI ⟨_, rfl, iteF (wp_next ?_)⟩))))))
    walk_at "r"
    refine q _ g _ hs1 hg1 hKn fun z => ?_
    rw [hkl]
    unfold kpB
    by_cases e : z = x <;> simp [e]
  · -- pruned
    rw [due_pr ex1] at q
    unfold prO at q
    have hl4 : ∀ L : List Rw, (L.filter fun r => decide (x <+: r.1)).length + (L.filter fun r => kpB 2 x r.1).length = L.length := fun L => by
      induction L with
      | nil => rfl
      | cons r L ih =>
        unfold kpB at *
        by_cases c : x <+: r.1
        · simp [c] at *; omega
        · simp [c] at *; omega
    have h2 := hl4 L
    have h3 : (R.filter fun r => kpB 2 x r.1).length = (L.filter fun r => kpB 2 x r.1).length := (hp.pm.filter _).length_eq
    have h5 : (grp L x).length = (L.filter fun r => decide (x <+: r.1)).length := rfl
    refine wp_seq (wp_if (wp_and (wp_test (wp_op (wp_var rfl (wp_int (wr_gt ⟨_, rfl, ?_⟩)))))))
    refine iteT ?_
    refine wp_test (wp_op (wp_cb (wp_cons (wp_var rfl (wp_nil (wc_lenD (.inl hg1) (wp_cb (wp_cons (wp_var rfl (wp_nil (wc_lenD (.inl (hs1 _ hp.at_)) (wr_eqI ⟨_, rfl, ?_⟩))))))))))))
    refine iteD (fun c => ?_) (fun c => wp_next ?_)
    · have e : grp L x = [] := List.length_eq_zero_iff.mp (by omega)
      rw [if_pos e] at q
      walk_at "r"
      rw [← word1]
      exact q _ hs1
    · have e : grp L x ≠ [] := fun e => by rw [e] at h5; simp at h5; omega
      rw [if_neg e] at q
      refine wp_seq (wp_if (wp_test (wp_op (wp_var rfl (wp_int (wr_eqI ⟨_, rfl, iteT ?_⟩))))))
      refine wp_ret (wp_tup (wp_cons (wp_str (wp_cons (wp_op (wp_cb (wp_cons (wp_var rfl (wp_nil (wc_lenD (.inl (hs1 _ hp.at_)) (wp_cb (wp_cons (wp_var rfl (wp_nil (wc_lenD (.inl hg1) (wr_sub ?_))))))))))))))))
      refine wp_cons (wp_var rfl (wp_nil ⟨sz_le (by simp), ?_⟩))
      have eq : (R.length : Int) - ((R.filter fun r => kpB 2 x r.1).length : Int) = ((grp L x).length : Int) := by omega
      rw [eq]
      refine q _ g _ hs1 hg1 hKn fun z => ?_
      rw [hkl]
      unfold kpB
      by_cases e : x <+: z <;> simp [e]
end
/-! ### the trail begun -/
theorem told_all {o : Option Tr} : (namesO o).filter (fun r => decide (([] : Tx) <+: r.1)) = namesO o := List.filter_eq_self.mpr fun r _ => decide_eq_true List.nil_prefix
theorem grp_nil (L : List Rw) : grp L [] = L := List.filter_eq_self.mpr fun r _ => decide_eq_true List.nil_prefix
theorem thg_yes {μ : DMem} {x : Tx} {yes no : Prop} (hx : nameB x = true) (h : yes) : Thg μ (.str x) yes no := .inl ⟨x, rfl, by have := nameB_len hx; omega, fun _ => h, fun z => by rw [hx] at z; cases z⟩
theorem row_get {o : Option Tr} (hO : TrOk o) {r : Rw} (hr : r ∈ namesO o) : getO o r.1 ≠ none := by
  rw [← lk_names hO.ok.wf, mem_lk (sr_namesO hO.ok.wf) (show (r.1, r.2) ∈ namesO o from hr)]
  exact fun z => by cases z
/-- a plain dict that tells the tree y -/
def Dc (y : Option Tr) (l : Addr) (μ : DMem) : Prop := ∃ R : List Rw, (l, DCell.dct (R.map dR)) ∈ μ ∧ Nk R ∧ ∀ z, lk R z = getO y z
/-- a trail, the plain dict, what was ahead of each deed -/
structure Wd (C a dx pt q : Addr) (o : Option Tr) (past : List (Option Tr)) (p : Addr) (R : List Rw) (ps : List Addr) (μ : DMem) : Prop where
  tr : TrA C a dx pt o past μ
  ok : TrOk o
  oks : ∀ y ∈ past, TrOk y
  at_ : (p, DCell.dct (R.map dR)) ∈ μ
  nk : Nk R
  lkk : ∀ z, lk R z = getO o z
  qq : (q, DCell.lst (ps.map Dv.ref)) ∈ μ
  len : ps.length = past.length
  pp : ∀ z ∈ ps.zip past, Dc z.2 z.1 μ
  qpt : q ≠ pt
theorem Wd.pd {C a dx pt q : Addr} {o : Option Tr} {past : List (Option Tr)} {p : Addr} {R : List Rw} {ps : List Addr} {μ : DMem} (h : Wd C a dx pt q o past p R ps μ) : Pd p R (namesO o) μ :=
  ⟨h.at_, perm_rows h.nk h.ok.ok.wf h.lkk, sr_namesO h.ok.ok.wf, h.ok.n, fun r hr => h.ok.len (row_get h.ok hr)⟩
structure Bg (C a dx pt q : Addr) (μ0 : DMem) (o : Option Tr) (past : List (Option Tr)) (p : Addr) (R : List Rw) (ps : List Addr) (μ : DMem) : Prop where
  w : Wd C a dx pt q o past p R ps μ
  np : ∀ l ∈ ps, l ≠ p
  pn : ∀ c ∈ μ0, c.1 ≠ p
  fr : ∀ c ∈ μ0, c.1 ≠ a → c.1 ≠ pt → c.1 ≠ q → c ∈ μ
theorem ne_dl {a b : Addr} {L : List Dv} {R : List (Tx × Dv)} : ((a, DCell.dct R) : Addr × DCell) ≠ (b, .lst L) := fun z => nomatch (Prod.mk.inj z).2
theorem ne_ld {a b : Addr} {L : List Dv} {R : List (Tx × Dv)} : ((a, DCell.lst L) : Addr × DCell) ≠ (b, .dct R) := fun z => nomatch (Prod.mk.inj z).2
theorem ne_di {a b C dx : Addr} {fs : List (Str × Dv)} {R : List (Tx × Dv)} : ((a, DCell.dct R) : Addr × DCell) ≠ (b, .ins C dx fs) := fun z => nomatch (Prod.mk.inj z).2
theorem ne_id {a b C dx : Addr} {fs : List (Str × Dv)} {R : List (Tx × Dv)} : ((a, DCell.ins C dx fs) : Addr × DCell) ≠ (b, .dct R) := fun z => nomatch (Prod.mk.inj z).2
theorem ne_li {a b C dx : Addr} {L : List Dv} {fs : List (Str × Dv)} : ((a, DCell.lst L) : Addr × DCell) ≠ (b, .ins C dx fs) := fun z => nomatch (Prod.mk.inj z).2
theorem ne_il {a b C dx : Addr} {L : List Dv} {fs : List (Str × Dv)} : ((b, DCell.ins C dx fs) : Addr × DCell) ≠ (a, .lst L) := fun z => nomatch (Prod.mk.inj z).2
theorem ne_a {a b : Addr} {c d : DCell} (h : a ≠ b) : ((a, c) : Addr × DCell) ≠ (b, d) := fun z => h (Prod.mk.inj z).1
/-- a deed: what was ahead noted, the trail's tree and the plain dict changed alike -/
theorem Bg.step {C a dx pt q : Addr} {μ0 μ μ3 μ4 μ5 : DMem} {o o' : Option Tr} {past : List (Option Tr)} {p l : Addr} {R R' : List Rw} {ps : List Addr} (h : Bg C a dx pt q μ0 o past p R ps μ) (hl : l ≠ p)
    (m3 : (q, DCell.lst (ps.map Dv.ref ++ [Dv.ref l])) ∈ μ3) (o3 : Ot ((l, DCell.dct (R.map dR)) :: μ) (q, .lst (ps.map Dv.ref)) μ3) (h4 : TrA C a dx pt o' (past ++ [o]) μ4) (r4 : Rs C a dx pt o past μ3 μ4)
    (m5 : (p, DCell.dct (R'.map dR)) ∈ μ5) (o5 : Ot μ4 (p, .dct (R.map dR)) μ5) (tok : TrOk o') (nk' : Nk R') (lk' : ∀ z, lk R' z = getO o' z) : Bg C a dx pt q μ0 o' (past ++ [o]) p R' (ps ++ [l]) μ5 := by
  have W := h.w
  have mv : ∀ c ∈ μ, c ≠ (q, .lst (ps.map Dv.ref)) → c ≠ (a, .ins C dx (tfs (encO o) (.ref pt))) → c ≠ (pt, .lst (past.map encO)) → c ≠ (p, .dct (R.map dR)) → c ∈ μ5 := fun c hc n1 n2 n3 n4 => o5 c (r4 c (o3 c (List.mem_cons_of_mem _ hc) n1) n2 n3) n4
  refine ⟨⟨⟨o5 _ h4.ins ne_id, o5 _ h4.lst ne_ld⟩, tok, fun y hy => ?_, m5, nk', lk', ?_, by rw [List.length_append, List.length_append, W.len]; rfl, fun z hz => ?_, W.qpt⟩, fun x hx => ?_, h.pn, fun c hc n1 n2 n3 => mv c (h.fr c hc n1 n2 n3) (fun z => n3 (by rw [z])) (fun z => n1 (by rw [z])) (fun z => n2 (by rw [z])) fun z => h.pn c hc (by rw [z])⟩
  · rcases List.mem_append.mp hy with hy | hy
    · exact W.oks y hy
    · rw [List.mem_singleton.mp hy]; exact W.ok
  · rw [List.map_append]
    exact o5 _ (r4 _ m3 ne_li (ne_a W.qpt)) ne_ld
  · rw [List.zip_append W.len] at hz
    rcases List.mem_append.mp hz with hz | hz
    · obtain ⟨R1, r1, r2, r3⟩ := W.pp z hz
      exact ⟨R1, mv _ r1 ne_dl ne_di ne_dl (ne_a (h.np z.1 (List.of_mem_zip hz).1)), r2, r3⟩
    · have ez : z = (l, o) := by simpa using hz
      subst ez
      exact ⟨R, o5 _ (r4 _ (o3 _ List.mem_cons_self ne_dl) ne_di ne_dl) (ne_a hl), W.nk, W.lkk⟩
  · rcases List.mem_append.mp hx with hx | hx
    · exact h.np x hx
    · rw [List.mem_singleton.mp hx]; exact hl
section
variable {K : PySem.W.Frag} {H0 : Hp} {ρ : DEnv} {μ : DMem} {k : Dv → DMem → Prop} {P : Post} {t : TS} {i : Nat} {w n : Int} {p : Addr} {R : List Rw}
/-- dict(d): a new cell, where none was -/
theorem wc_dctF (h : IsDc μ p R) (q : ∀ l, l ∉ keys μ → k (.ref l) ((l, .dct (R.map dR)) :: μ)) : wpC K H0 rDctD [.ref p] ρ μ k := fun σ H vs S r Q hQ => by
  refine ⟨p, vV R, rpA1 r, h.rd S.mem, fun l hl => ?_⟩
  have g := hid_cell (μ := μ) (c := .dct (R.map dR)) (o := .dK (vV R)) hl
  have M := S.mem.cell (c := .dct (R.map dR)) (o := .dK (vV R)) hl ⟨vV R, upd_same, kvR_of _⟩
  exact hQ _ _ _ _ (q l (S.mem.fresh hl)) ⟨S.go M g, g⟩ (.ref l)
theorem wp_ifN (hi : ρ[i]? = some (some (.int w))) (c : w ≠ n) (q : P.nx ρ μ) : wpS K H0 (tIfS (tTest (tOp (rEqU K) (tVar i) (tC (.int n)))) t tNext) ρ μ P :=
  wp_if (wp_test (wp_op (wp_var hi (wp_int (wr_eqI ⟨_, rfl, by rw [decide_eq_false c]; exact iteF (wp_next q)⟩)))))
theorem wp_ifY (hi : ρ[i]? = some (some (.int w))) (c : w = n) (q : wpS K H0 t ρ μ P) : wpS K H0 (tIfS (tTest (tOp (rEqU K) (tVar i) (tC (.int n)))) t tNext) ρ μ P :=
  wp_if (wp_test (wp_op (wp_var hi (wp_int (wr_eqI ⟨_, rfl, by rw [decide_eq_true c]; exact iteT q⟩)))))
end
/-- a told deed -/
def encF (f : Int × Dv × Dv) : Dv := .tup [.int f.1, f.2.1, f.2.2]
def FOk (f : Int × Dv × Dv) : Prop := 0 ≤ f.1 ∧ f.1 ≤ 4 ∧ Tq f.2.1 ∧ Tq f.2.2
theorem fok {w : Int} {d1 d2 : Dv} (h0 : 0 ≤ w) (h4 : w ≤ 4) (t1 : Tq d1) (t2 : Tq d2) : FOk (w, d1, d2) := ⟨h0, h4, t1, t2⟩
theorem tqs {x : Tx} (h : x.length ≤ 41) (ho : x.all okc = true) : Tq (.str x) := .inl ⟨x, rfl, h, ho⟩
def S__law_first_deeds : Spc := fun ds μ k ex => ∃ (b : Int) (x : Tx), ds = [.int b, .str x] ∧ x.length = 40 ∧ okS x ∧ ∀ F : List (Int × Dv × Dv), F.length ≤ 6 → (∀ f ∈ F, FOk f) → k (.lst (F.map encF)) μ
def S__law_begun (C : Addr) : Spc := fun ds μ k ex => ∃ (a dx pt q : Addr) (way more : Int) (x : Tx), ds = [.ref a, .ref q, .int way, .str x, .int more] ∧ TrA C a dx pt none [] μ ∧ (q, DCell.lst []) ∈ μ ∧ q ≠ pt ∧ x.length = 40 ∧ okS x ∧ 0 ≤ more ∧ more ≤ 3 ∧
  ∀ (p : Addr) (R : List Rw) (o : Option Tr) (past : List (Option Tr)) (ps : List Addr) (μ' : DMem), Wd C a dx pt q o past p R ps μ' → past.length ≤ 100 → (∀ c ∈ μ, c.1 ≠ a → c.1 ≠ pt → c.1 ≠ q → c ∈ μ') → k (.ref p) μ'
def numX (j : Nat) : Tx := ((toString ((j : Nat) : Int) : String) : Str).cps.toList
def D12 : List Tx := (List.range 12).map numX
def sg3 : List Nat := [97, 98, 99]
theorem d12_ok : ∀ y ∈ D12, nameB y = true ∧ y.length ≤ 2 ∧ ∀ c ∈ sg3, y.head? ≠ some c := by decide +kernel
theorem num_log : ∀ j < 12, ((j : Nat) : Int).natAbs.log2 < 1920 := by decide +kernel
theorem z3_ok : ∀ j < 3, nameB ([122] ++ numX j) = true ∧ (numX j).length ≤ 2 := by decide +kernel
theorem d12_ne : ∃ y, y ∈ D12 := ⟨numX 0, by decide +kernel⟩
section
variable {P : Program} {w : World} {K : PySem.W.Frag} {mg : Str → Option Value} {base : Heap} {k : Nat}
theorem scN__law_first_deeds : FnScope ["_law_begin", "_law_word", "_law_told"] ["_law_begin", "_law_word"] (defScope s__law_first_deeds) := ⟨rfl, rfl, rfl, by decide +kernel, rfl, by decide +kernel, by decide +kernel⟩
theorem ok__law_first_deeds {f : Addr} {fd : FuncData} (F : Fun K "_law_first_deeds" "_law_first_deeds" s__law_first_deeds f fd)  : FnD P w K mg base (k + 1) f fd ["_law_begin", "_law_word"] (spOf K mg 2 S__law_first_deeds) := by
  refine okD F scN__law_first_deeds (fun cdv A outer s H E hr => ⟨_, (pss_cons (ps_if (pt_cmpR (op_eqK (K := K) rfl hr.units) (pv 0) pe_int (nomark _)) (pss_cons (ps_set (i := 2) scN__law_first_deeds.nd rfl (Or.inl rfl) (pe_lst (pa_cons (pe_tup (pa_cons pe_int (pa_cons pe_str (pa_cons pe_str pa_nil)))) (pa_cons (pe_tup (pa_cons pe_int (pa_cons pe_str (pa_cons pe_str pa_nil)))) (pa_cons (pe_tup (pa_cons pe_int (pa_cons (pe_op (op_addK (K := K) rfl) (pv 1) pe_str) (pa_cons pe_str pa_nil)))) (pa_cons (pe_tup (pa_cons pe_int (pa_cons pe_str (pa_cons pe_str pa_nil)))) pa_nil))))))
      (pss_one (ps_ret (pe_op (op_addK (K := K) rfl) (pv 2) (pe_lst (pa_cons (pe_tup (pa_cons pe_int (pa_cons pe_str (pa_cons pe_str pa_nil)))) (pa_cons (pe_tup (pa_cons pe_int (pa_cons pe_str (pa_cons (pe_slice (sl_K (K := K) rfl) (pv 1) po_none (po_some pe_int)) pa_nil)))) pa_nil))))))) pss_nil)
      (pss_cons (ps_if (pt_cmpR (op_eqK (K := K) rfl hr.units) (pv 0) pe_int (nomark _)) (pss_one (ps_ret (pe_lst (pa_cons (pe_tup (pa_cons pe_int (pa_cons pe_str (pa_cons pe_str pa_nil)))) (pa_cons (pe_tup (pa_cons pe_int (pa_cons pe_str (pa_cons pe_str pa_nil)))) (pa_cons (pe_tup (pa_cons pe_int (pa_cons pe_str (pa_cons pe_int pa_nil)))) (pa_cons (pe_tup (pa_cons pe_int (pa_cons pe_str (pa_cons pe_str pa_nil)))) pa_nil))))))) pss_nil)
      (pss_one (ps_ret (pe_lst pa_nil))))), ?_⟩)
  try dsimp only [cxOf]
  intro H0 ds μ kk ex hW h
  obtain ⟨b, x, rfl, hx, ho, q⟩ := h
  have hxc := okS_okc ho
  have hnt : ∀ j, (x.take j).all okc = true := fun j => okc_pre hxc fun c hc => List.mem_of_mem_take hc
  walk_at "r0"
  refine iteD (fun c => ?_) (fun c => ?_)
  · walk_at "r"
    have e1 : ("a" : Str).cps.toList = [97] := by decide +kernel
    rw [e1]
    walk_at "r"
    rw [show (39 : Int) = ((39 : Nat) : Int) from rfl, cutL_to]
    refine q [(4, .str _, .str _), (0, .str _, .str _), (0, .str _, .str _), (0, .str _, .str _), (4, .str _, .str _), (4, .str _, .str _)] (by simp) fun f hf => ?_
    simp only [List.mem_cons, List.not_mem_nil, or_false] at hf
    rcases hf with rfl | rfl | rfl | rfl | rfl | rfl
    · exact fok (by decide) (by decide) (tqs (by decide +kernel) (by decide +kernel)) (tqs (by decide +kernel) (by decide +kernel))
    · exact fok (by decide) (by decide) (tqs (by decide +kernel) (by decide +kernel)) (tqs (by decide +kernel) (by decide +kernel))
    · refine fok (by decide) (by decide) (tqs ?_ ?_) (tqs (by decide +kernel) (by decide +kernel))
      · rw [List.length_append, hx]; decide
      · rw [List.all_append, hxc]; decide
    · exact fok (by decide) (by decide) (tqs (by decide +kernel) (by decide +kernel)) (tqs (by decide +kernel) (by decide +kernel))
    · exact fok (by decide) (by decide) (tqs (by decide +kernel) (by decide +kernel)) (tqs (by decide +kernel) (by decide +kernel))
    · exact fok (by decide) (by decide) (tqs (by decide +kernel) (by decide +kernel)) (tqs (by rw [List.length_take]; omega) (hnt 39))
  · walk_at "r"
    refine iteD (fun c => ?_) (fun c => ?_)
    · walk_at "r"
      refine q [(3, .str _, .str _), (4, .str _, .str _), (3, .str _, .int _), (0, .str _, .str _)] (by simp) fun f hf => ?_
      simp only [List.mem_cons, List.not_mem_nil, or_false] at hf
      rcases hf with rfl | rfl | rfl | rfl
      · exact fok (by decide) (by decide) (tqs (by decide +kernel) (by decide +kernel)) (tqs (by decide +kernel) (by decide +kernel))
      · exact fok (by decide) (by decide) (tqs (by decide +kernel) (by decide +kernel)) (tqs (by decide +kernel) (by decide +kernel))
      · exact fok (by decide) (by decide) (tqs (by decide +kernel) (by decide +kernel)) (.inr (.inr (.inr (.inr rfl))))
      · exact fok (by decide) (by decide) (tqs (by decide +kernel) (by decide +kernel)) (tqs (by decide +kernel) (by decide +kernel))
    · walk_at "r"
      exact q [] (by simp) fun f hf => nomatch hf
theorem scN__law_begun : FnScope ["_law_trail", "_law_past", "_law_way", "_law_word", "_law_more", "_law_plain", "_law_texts", "_law_k", "_law_text", "_law_sign", "_law_name"] ["_law_trail", "_law_past", "_law_way", "_law_word", "_law_more"] (defScope s__law_begun) := ⟨rfl, rfl, rfl, by decide +kernel, rfl, by decide +kernel, by decide +kernel⟩
theorem ok__law_begun {f : Addr} {fd : FuncData} (F : Fun K "_law_begun" "_law_begun" s__law_begun f fd) {C_Trail : Addr} (O_Trail : OCls K mg "Trail" C_Trail) (M_range : mg "range" = none) (M_int : mg "int" = none) (M_str : mg "str" = none) (D_Trail_keep : DfM P w K mg base k C_Trail "keep" ["self", "name", "number"] (S_Trail_keep C_Trail)) (M_dict : mg "dict" = none) (M_list : mg "list" = none) (D_Trail_graft : DfM P w K mg base k C_Trail "graft" ["self", "beginning", "other"] (S_Trail_graft C_Trail)) (M_len : mg "len" = none) : FnD P w K mg base (k + 1) f fd ["_law_trail", "_law_past", "_law_way", "_law_word", "_law_more"] (spOf K mg 5 (S__law_begun C_Trail)) := by
  refine okD F scN__law_begun (fun cdv A outer s H E hr => ⟨_, (pss_cons (ps_set (i := 5) scN__law_begun.nd rfl (Or.inl rfl) pe_dnewK)
      (pss_cons (ps_set (i := 6) scN__law_begun.nd rfl (Or.inl rfl) (pe_lst pa_nil))
      (pss_cons (ps_if (pt_cmpR (op_eqK (K := K) rfl hr.units) (pv 2) pe_int (nomark _)) (pss_one (ps_setLc (i := 6) (own := [("_law_k", 7)]) (g := gName 7) rfl scN__law_begun.nd rfl rfl (sw_true rfl rfl rfl (by decide +kernel)) (pi_range1 rfl M_range (pa_cons pe_int pa_nil)) (blkOk_by (own := [("_law_k", 7)]) (N := ["_law_trail", "_law_past", "_law_way", "_law_word", "_law_more", "_law_plain", "_law_texts", "_law_k", "_law_text", "_law_sign", "_law_name"]) (sc := defScope s__law_begun) (by decide +kernel)) (fun _ _ _ _ _ => pg_name (i := 7) scN__law_begun.nd rfl (Or.inl rfl)) (fun _ _ _ _ _ => pts_nil) (fun _ _ _ _ _ => (pe_callTy call_strU (by rfl) M_str (by decide +kernel) (pa_cons (pv 7) pa_nil))))) pss_nil)
      (pss_cons (ps_if (pt_cmpR (op_eqK (K := K) rfl hr.units) (pv 2) pe_int (nomark _)) (pss_one (ps_setLc (i := 6) (own := [("_law_k", 7)]) (g := gName 7) rfl scN__law_begun.nd rfl rfl (sw_true rfl rfl rfl (by decide +kernel)) (pi_range1 rfl M_range (pa_cons pe_int pa_nil)) (blkOk_by (own := [("_law_k", 7)]) (N := ["_law_trail", "_law_past", "_law_way", "_law_word", "_law_more", "_law_plain", "_law_texts", "_law_k", "_law_text", "_law_sign", "_law_name"]) (sc := defScope s__law_begun) (by decide +kernel)) (fun _ _ _ _ _ => pg_name (i := 7) scN__law_begun.nd rfl (Or.inl rfl)) (fun _ _ _ _ _ => pts_nil) (fun _ _ _ _ _ => (pe_slice (sl_K (K := K) rfl) (pv 3) po_none (po_some (pe_op op_mulU pe_int (pv 7))))))) pss_nil)
      (pss_cons (ps_if (pt_cmpR (op_eqK (K := K) rfl hr.units) (pv 2) pe_int (nomark _)) (pss_one (ps_set (i := 6) scN__law_begun.nd rfl (Or.inl rfl) (pe_lst (pa_cons pe_str (pa_cons (pe_op (op_addK (K := K) rfl) pe_str (pe_slice (sl_K (K := K) rfl) (pv 3) po_none (po_some pe_int))) (pa_cons pe_str pa_nil)))))) pss_nil)
      (pss_cons (ps_for (passes_of rfl) rfl (pi_seqK (K := K) rfl (pv 6)) (pg_name (i := 8) scN__law_begun.nd rfl (Or.inl rfl)) (pss_cons (ps_expr (pe_bm PySem.F.plainAttrs_list PySem.F.slot_list_append PySem.F.type_list_append mt_append (pv 1) (pa_cons (pe_callTy call_dctU (by rfl) M_dict (by decide +kernel) (pa_cons (pv 5) pa_nil)) pa_nil)))
      (pss_cons (ps_expr (pe_mthD O_Trail.cl D_Trail_keep ⟨rfl, rfl, rfl, rfl, rfl⟩ hr (takes_of rfl rfl rfl rfl) (pv 0) (pa_cons (pv 8) (pa_cons (pe_callB call_lenD (by rfl) M_len PySem.boot_len (pa_cons (pv 5) pa_nil)) pa_nil))))
      (pss_one (ps_dput hr.u1 (pv 5) (pv 8) (pe_callB call_lenD (by rfl) M_len PySem.boot_len (pa_cons (pv 5) pa_nil)) rfl)))))
      (pss_cons (ps_if (pt_cmpR (op_eqK (K := K) rfl hr.units) (pv 2) pe_int (nomark _)) (pss_one (ps_for (passes_of rfl) rfl (pi_seqK (K := K) rfl (pe_lst (pa_cons pe_str (pa_cons pe_str (pa_cons pe_str pa_nil))))) (pg_name (i := 9) scN__law_begun.nd rfl (Or.inl rfl)) (pss_cons (ps_expr (pe_bm PySem.F.plainAttrs_list PySem.F.slot_list_append PySem.F.type_list_append mt_append (pv 1) (pa_cons (pe_callTy call_dctU (by rfl) M_dict (by decide +kernel) (pa_cons (pv 5) pa_nil)) pa_nil)))
      (pss_cons (ps_expr (pe_mthD O_Trail.cl D_Trail_graft ⟨rfl, rfl, rfl, rfl, rfl⟩ hr (takes_of rfl rfl rfl rfl) (pv 0) (pa_cons pe_str (pa_cons (pv 9) pa_nil))))
      (pss_one (ps_for (passes_of rfl) rfl (pi_seqK (K := K) rfl (pe_callTy (call_lstDU rfl) (by rfl) M_list (by decide +kernel) (pa_cons (pv 5) pa_nil))) (pg_name (i := 10) scN__law_begun.nd rfl (Or.inl rfl)) (pss_one (ps_dput hr.u1 (pv 5) (pe_op (op_addK (K := K) rfl) (pv 9) (pv 10)) (pe_dget hr.u1 (pv 5) (pv 10) (fun _ _ => rfl)) rfl)))))))) pss_nil)
      (pss_cons (ps_for (passes_of rfl) rfl (pi_range1 rfl M_range (pa_cons (pe_ix (ix_K (K := K) rfl) (pe_lst (pa_cons pe_int (pa_cons (pv 4) pa_nil))) (pe_callTy call_intU (by rfl) M_int (by decide +kernel) (pa_cons (pe_cmpR (op_eqK (K := K) rfl hr.units) (pv 2) pe_int (nomark _)) pa_nil)) (fun _ _ => rfl)) pa_nil)) (pg_name (i := 7) scN__law_begun.nd rfl (Or.inl rfl)) (pss_cons (ps_expr (pe_bm PySem.F.plainAttrs_list PySem.F.slot_list_append PySem.F.type_list_append mt_append (pv 1) (pa_cons (pe_callTy call_dctU (by rfl) M_dict (by decide +kernel) (pa_cons (pv 5) pa_nil)) pa_nil)))
      (pss_cons (ps_expr (pe_mthD O_Trail.cl D_Trail_keep ⟨rfl, rfl, rfl, rfl, rfl⟩ hr (takes_of rfl rfl rfl rfl) (pv 0) (pa_cons (pe_op (op_addK (K := K) rfl) pe_str (pe_callTy call_strU (by rfl) M_str (by decide +kernel) (pa_cons (pv 7) pa_nil))) (pa_cons (pv 7) pa_nil))))
      (pss_one (ps_dput hr.u1 (pv 5) (pe_op (op_addK (K := K) rfl) pe_str (pe_callTy call_strU (by rfl) M_str (by decide +kernel) (pa_cons (pv 7) pa_nil))) (pv 7) rfl)))))
      (pss_one (ps_ret (pv 5))))))))))), ?_⟩)
  try dsimp only [cxOf]
  intro H0 ds μ kk ex hW h
  obtain ⟨a, dx, pt, q, way, more, x, rfl, hA, hq, hqp, hx, hxo, m0, m3', qk⟩ := h
  have e0 : (("" : Str).cps.toList) = [] := by decide +kernel
  have hxc := okS_okc hxo
  have hnm : ∀ j, nameB (x.take j) = true := fun j => by
    unfold nameB
    rw [okc_pre hxc fun c hc => List.mem_of_mem_take hc, decide_eq_true (by rw [List.length_take]; omega)]
    rfl
  walk_at "env"
  refine wp_seq (wp_set (wp_dnew fun p => ?_))
  walk_at "set"
  refine wpS_nd fun nd => ?_
  have pn : ∀ c ∈ μ, c.1 ≠ p := fun c hc => nd_ne nd (show (c.1, c.2) ∈ μ from hc)
  have B0 : Bg C_Trail a dx pt q μ none [] p [] [] ((p, .dct []) :: μ) := ⟨⟨hA.more, trOk_none, (fun y h => nomatch h), List.mem_cons_self, List.nodup_nil, fun z => rfl, List.mem_cons_of_mem _ hq, rfl, (fun z h => nomatch h), hqp⟩, (fun l h => nomatch h), pn, fun c hc _ _ _ => List.mem_cons_of_mem _ hc⟩
  clear nd pn
  generalize ((p, DCell.dct []) :: μ) = μ1 at B0
  refine wp_seq (wp_set (wp_lst (wp_nil ⟨sz_le (by simp), ?_⟩)))
  walk_at "set"
  -- the texts
  refine wp_mid3 (fun ρ' μ' => μ' = μ1 ∧ ∃ T : List Tx, T.length ≤ 12 ∧ (∀ y ∈ T, nameB y = true) ∧ (way = 1 → T = D12) ∧ ρ' = [some (.ref a), some (.ref q), some (.int way), some (.str x), some (.int more), some (.ref p), some (.lst (T.map Dv.str)), none, none, none, none]) ?_ ?_
  · by_cases c1 : way = 1
    · subst c1
      refine wp_ifY rfl rfl (wp_set (wp_lc (wi_rng1 (wp_cons (wp_int (wp_nil ⟨_, rfl, by omega, by omega, D12.map Dv.str, ⟨Nat, List.range 12, fun _ => true, fun j => .str (numX j), fun j => Dv.int (j : Nat), rfl, sz_le (by simp), fun j hj μ' => wp_yes ⟨rfl, rfl⟩, fun j hj _ μ' => ?_, ?_⟩, ?_⟩))))))
      · walk_at "set"
        exact wp_cb (wp_cons (wp_var rfl (wp_nil (wc_str (num_log j (List.mem_range.mp hj)) ⟨rfl, rfl⟩))))
      · rw [List.filter_eq_self.mpr fun _ _ => rfl]
        unfold D12
        rw [List.map_map]
        rfl
      · walk_at "set"
        refine wp_ifN rfl (by decide) (wp_ifN rfl (by decide) ?_)
        exact ⟨rfl, D12, by decide, fun y hy => (d12_ok y hy).1, fun _ => rfl, rfl⟩
    · refine wp_ifN rfl c1 ?_
      by_cases c2 : way = 2
      · subst c2
        refine wp_ifY rfl rfl (wp_set (wp_lc (wi_rng1 (wp_cons (wp_int (wp_nil ⟨_, rfl, by omega, by omega, ((List.range 12).map fun j => x.take (3 * j)).map Dv.str, ⟨Nat, List.range 12, fun _ => true, fun j => .str (x.take (3 * j)), fun j => Dv.int (j : Nat), rfl, sz_le (by simp), fun j hj μ' => wp_yes ⟨rfl, rfl⟩, fun j hj _ μ' => ?_, ?_⟩, ?_⟩))))))
        · walk_at "set"
          walk_at "r"
          rw [show (3 : Int) * ((j : Nat) : Int) = ((3 * j : Nat) : Int) by omega, cutL_to]
          exact ⟨rfl, rfl⟩
        · rw [List.filter_eq_self.mpr fun _ _ => rfl, List.map_map]
          rfl
        · walk_at "set"
          refine wp_ifN rfl (by decide) ?_
          refine ⟨rfl, _, by simp, fun y hy => ?_, fun z => absurd z (by decide), rfl⟩
          obtain ⟨j, _, rfl⟩ := List.mem_map.mp hy
          exact hnm _
      · refine wp_ifN rfl c2 ?_
        by_cases c3 : way = 3
        · subst c3
          have ep : (("p" : Str).cps.toList) = [112] := by decide +kernel
          have eq2 : (("qq" : Str).cps.toList) = [113, 113] := by decide +kernel
          refine wp_ifY rfl rfl ?_
          walk_at "r"
          rw [ep, show (39 : Int) = ((39 : Nat) : Int) from rfl, cutL_to]
          walk_at "r"
          rw [eq2]
          refine ⟨rfl, [[112], [112] ++ x.take 39, [113, 113]], by simp, fun y hy => ?_, fun z => absurd z (by decide), rfl⟩
          simp only [List.mem_cons, List.not_mem_nil, or_false] at hy
          rcases hy with rfl | rfl | rfl
          · decide
          · unfold nameB
            rw [List.all_append, okc_pre hxc fun c hc => List.mem_of_mem_take hc, decide_eq_true (by rw [List.length_append, List.length_take]; simp; omega)]
            decide
          · decide
        · refine wp_ifN rfl c3 ?_
          exact ⟨rfl, [], by simp, (fun y hy => nomatch hy), fun z => absurd z c1, rfl⟩
  rintro ρ' μ' ⟨rfl, T, hT, hTn, hT1, rfl⟩
  -- names kept
  refine wp_mid (fun ρ' μ' => ∃ (o : Option Tr) (past : List (Option Tr)) (R : List Rw) (ps : List Addr) (z8 : Option Dv), Bg C_Trail a dx pt q μ o past p R ps μ' ∧ past.length ≤ 12 ∧ (namesO o).length ≤ 12 ∧ (∀ y, getO o y ≠ none → y ∈ T) ∧ (∀ y ∈ T, getO o y ≠ none) ∧ ρ' = [some (.ref a), some (.ref q), some (.int way), some (.str x), some (.int more), some (.ref p), some (.lst (T.map Dv.str)), none, z8, none, none]) ?_ ?_
  · refine wp_for (wi_seq (wp_var rfl ⟨_, .inl rfl, fun i ρ' μ' => ∃ (o : Option Tr) (past : List (Option Tr)) (R : List Rw) (ps : List Addr) (z8 : Option Dv), Bg C_Trail a dx pt q μ o past p R ps μ' ∧ past.length = i ∧ (namesO o).length ≤ i ∧ (∀ y, getO o y ≠ none → y ∈ T) ∧ (∀ y ∈ T.take i, getO o y ≠ none) ∧ ρ' = [some (.ref a), some (.ref q), some (.int way), some (.str x), some (.int more), some (.ref p), some (.lst (T.map Dv.str)), none, z8, none, none], ⟨none, [], [], [], none, B0, rfl, Nat.le_refl _, (fun y h => absurd rfl h), (fun y h => by simp at h), rfl⟩, ?_, ?_⟩))
    · rintro i d ρ' μ2 hd ⟨o, past, R, ps, z8, B, hl, hn, hs1, hs2, rfl⟩
      rw [List.getElem?_map] at hd
      cases ey : T[i]? with
      | none => rw [ey] at hd; cases hd
      | some y =>
      rw [ey] at hd
      cases hd
      have hym := List.mem_of_getElem? ey
      have hlt : i < T.length := (List.getElem?_eq_some_iff.mp ey).1
      have W := B.w
      have hRl : R.length = (namesO o).length := W.pd.pm.length_eq
      walk_at "set"
      refine wp_seq (wp_drop (wp_appM (wp_var rfl ⟨q, _, rfl, W.qq, wp_cb (wp_cons (wp_var rfl (wp_nil (wc_dctF (.inl W.at_) fun l hlf => ?_))))⟩)))
      refine ⟨_, List.mem_cons_of_mem _ W.qq, sz_lt (by rw [List.length_map, W.len]; omega), fun μ3 m3 o3 => ?_⟩
      have hlp : l ≠ p := fun z => hlf (z ▸ List.mem_map_of_mem (f := (·.1)) W.at_)
      have tr3 : TrA C_Trail a dx pt o past μ3 := ⟨o3 _ (List.mem_cons_of_mem _ W.tr.ins) ne_il, o3 _ (List.mem_cons_of_mem _ W.tr.lst) (ne_a fun z => W.qpt z.symm)⟩
      have at3 := o3 _ (List.mem_cons_of_mem _ W.at_) ne_dl
      refine wp_seq (wp_drop (wp_mth hW (wp_var rfl ⟨a, dx, _, rfl, tr3.ins, lk_no _ _ (by decide +kernel) (by decide +kernel), ?_⟩)))
      refine wp_cons (wp_var rfl (wp_cons (wp_cb (wp_cons (wp_var rfl (wp_nil (wc_lenD (.inl at3) (wp_nil ?_))))))))
      refine ⟨rfl, a, dx, pt, o, past, _, _, rfl, tr3, W.ok, by omega, thg_yes (hTn y hym) fun y' ey => ⟨fun _ h100 => by omega, fun _ o' tok hg μ4 h4 r4 => ?_⟩⟩
      cases ey
      have at4 := r4 _ at3 ne_di ne_dl
      refine wp_dput (wp_cb (wp_cons (wp_var rfl (wp_nil (wc_lenD (.inl at4) (wp_var rfl (wp_var rfl ⟨p, R, y, _, rfl, rfl, rfl, at4, sz_lt (by omega), fun μ5 m5 o5 => ?_⟩)))))))
      have B' := B.step hlp m3 o3 h4 r4 m5 o5 tok (nk_put W.nk y _) (fun z => by rw [lk_put, hg, W.lkk])
      refine ⟨o', past ++ [o], _, _, _, B', by rw [List.length_append, hl]; rfl, ?_, fun z hz => ?_, fun z hz => ?_, rfl⟩
      · have := keys_le (z := [y]) tok.ok.wf W.ok.ok.wf fun z hz => by
          rw [hg] at hz
          split at hz
          case isTrue c => exact .inr (by rw [c]; exact List.mem_singleton_self _)
          case isFalse => exact .inl hz
        rw [List.length_singleton] at this
        omega
      · rw [hg] at hz
        split at hz
        case isTrue c => rw [c]; exact hym
        case isFalse => exact hs1 z hz
      · rw [hg]
        split
        case isTrue => exact fun q => nomatch q
        case isFalse c =>
          rw [List.take_succ, ey] at hz
          rcases List.mem_append.mp hz with hz | hz
          · exact hs2 z hz
          · exact absurd (List.mem_singleton.mp (show z ∈ [y] from hz)) c
    · rintro ρ' μ2 ⟨o, past, R, ps, z8, B, hl, hn, hs1, hs2, rfl⟩
      rw [List.length_map] at hl hn hs2
      rw [List.take_length] at hs2
      exact ⟨o, past, R, ps, z8, B, by omega, by omega, hs1, hs2, rfl⟩
  clear B0
  rintro ρ' μ1 ⟨o, past, R, ps, z8, B, hl, hn, hs1, hs2, rfl⟩
  -- three grafts
  refine wp_mid (fun ρ' μ' => ∃ (o : Option Tr) (past : List (Option Tr)) (R : List Rw) (ps : List Addr) (z9 z10 : Option Dv), Bg C_Trail a dx pt q μ o past p R ps μ' ∧ past.length ≤ 15 ∧ (namesO o).length ≤ 96 ∧ ρ' = [some (.ref a), some (.ref q), some (.int way), some (.str x), some (.int more), some (.ref p), some (.lst (T.map Dv.str)), none, z8, z9, z10]) ?_ ?_
  · by_cases c1 : way = 1
    · have ea : (("a" : Str).cps.toList) = [97] := by decide +kernel
      have eb : (("b" : Str).cps.toList) = [98] := by decide +kernel
      have ec : (("c" : Str).cps.toList) = [99] := by decide +kernel
      have eT := hT1 c1
      refine wp_ifY rfl c1 ?_
      refine wp_for (wi_seq (wp_lst ?_))
      walk_at "r"
      rw [ea, eb, ec]
      refine ⟨_, .inl rfl, fun i ρ' μ' => ∃ (o : Option Tr) (past : List (Option Tr)) (R : List Rw) (ps : List Addr) (z9 z10 : Option Dv), Bg C_Trail a dx pt q μ o past p R ps μ' ∧ past.length ≤ 12 + i ∧ (namesO o).length ≤ 12 * 2 ^ i ∧ o ≠ none ∧ (∀ y, getO o y ≠ none → y.length ≤ 2 + i ∧ ∀ c ∈ sg3.drop i, y.head? ≠ some c) ∧ ρ' = [some (.ref a), some (.ref q), some (.int way), some (.str x), some (.int more), some (.ref p), some (.lst (T.map Dv.str)), none, z8, z9, z10], ⟨o, past, R, ps, _, _, B, by omega, by omega, ?_, fun y hy => ?_, rfl⟩, ?_, ?_⟩
      · obtain ⟨y, hy⟩ := d12_ne
        have := hs2 y (by rw [eT]; exact hy)
        intro z
        rw [z] at this
        exact this rfl
      · have := d12_ok y (by rw [← eT]; exact hs1 y hy)
        exact ⟨this.2.1, this.2.2⟩
      · clear B hl hn hs1 hs2
        rintro i d ρ' μ2 hd ⟨o, past, R, ps, z9, z10, B, hl, hn, hne, hN, rfl⟩
        obtain ⟨c, rfl, hco, hi3, hcm, hcr⟩ : ∃ c, d = .str [c] ∧ okc c = true ∧ i < 3 ∧ c ∈ sg3.drop i ∧ ∀ c' ∈ sg3.drop (i + 1), c' ≠ c ∧ c' ∈ sg3.drop i := by
          match i, hd with
          | 0, hd => cases hd; exact ⟨97, rfl, by decide, by omega, by decide, by decide⟩
          | 1, hd => cases hd; exact ⟨98, rfl, by decide, by omega, by decide, by decide⟩
          | 2, hd => cases hd; exact ⟨99, rfl, by decide, by omega, by decide, by decide⟩
          | n + 3, hd => simp at hd
        have h48 : 12 * 2 ^ i ≤ 48 := by
          match i, hi3 with
          | 0, _ => decide
          | 1, _ => decide
          | 2, _ => decide
        have hdb : 12 * 2 ^ (i + 1) = 2 * (12 * 2 ^ i) := by rw [Nat.pow_succ]; omega
        have W := B.w
        have hRl : R.length = (namesO o).length := W.pd.pm.length_eq
        have hfree : ∀ w, getO o ([c] ++ w) = none := fun w => by
          cases e : getO o ([c] ++ w) with
          | none => rfl
          | some v => exact absurd rfl ((hN _ (by rw [e]; exact fun z => nomatch z)).2 c hcm)
        walk_at "set"
        refine wp_seq (wp_drop (wp_appM (wp_var rfl ⟨q, _, rfl, W.qq, wp_cb (wp_cons (wp_var rfl (wp_nil (wc_dctF (.inl W.at_) fun l hlf => ?_))))⟩)))
        refine ⟨_, List.mem_cons_of_mem _ W.qq, sz_lt (by rw [List.length_map, W.len]; omega), fun μ3 m3 o3 => ?_⟩
        have hlp : l ≠ p := fun z => hlf (z ▸ List.mem_map_of_mem (f := (·.1)) W.at_)
        have tr3 : TrA C_Trail a dx pt o past μ3 := ⟨o3 _ (List.mem_cons_of_mem _ W.tr.ins) ne_il, o3 _ (List.mem_cons_of_mem _ W.tr.lst) (ne_a fun z => W.qpt z.symm)⟩
        have at3 := o3 _ (List.mem_cons_of_mem _ W.at_) ne_dl
        refine wp_seq (wp_drop (wp_mth hW (wp_var rfl ⟨a, dx, _, rfl, tr3.ins, lk_no _ _ (by decide +kernel) (by decide +kernel), wp_cons (wp_str (wp_cons (wp_var rfl (wp_nil ?_))))⟩)))
        rw [e0]
        have hnc : nameB [c] = true := by unfold nameB; simp [hco]
        refine ⟨rfl, a, dx, pt, o, past, _, _, rfl, tr3, W.ok, by omega, thg_yes (by decide) fun x' ex => ?_⟩
        cases ex
        refine thg_yes hnc fun y' ey a' b C => ?_
        cases ey
        have hvb : ∀ w, getO b w = getO o w := fun w => C.vb w
        refine ⟨fun ebn => ?_, fun u eu => ?_⟩
        · exfalso
          cases ho : o with
          | none => exact hne ho
          | some t =>
            have hwt : Wf t := by have := W.ok.ok.wf; rw [ho] at this; exact this
            obtain ⟨y0, hy0⟩ := wf_some t hwt
            have := hvb y0
            rw [ebn, ho] at this
            exact hy0 this.symm
        subst eu
        have hwu : Wf u := C.wb
        have hgu : ∀ w, get u w = getO o w := hvb
        have hcc := cut_count W.ok.ok.wf C
        have hnu : (namesO (some u)).length = (TM.names u).length := rfl
        have hgz : ∀ z, getO (some (ahead [c] u)) z = if [c] <+: z then getO o (z.drop 1) else none := fun z => by
          have e : getO (some (ahead [c] u)) z = if [c] <+: z then get u (z.drop [c].length) else none := get_ahead [c] u z
          rw [e, hgu]
          rfl
        refine ⟨fun hlong => ?_, fun _ => ⟨fun ht => ?_, fun _ => ⟨fun h100 => by omega, fun _ o' tok hg μ4 h4 r4 => ?_⟩⟩⟩
        · exfalso
          obtain ⟨r, hr, h40⟩ := hlong
          have h1 := names_get hwu hr
          rw [hgu] at h1
          have h2 := (hN _ h1).1
          rw [List.length_singleton] at h40
          omega
        · exfalso
          obtain ⟨z, h1, h2⟩ := ht
          rw [hgz] at h2
          split at h2
          case isTrue hp => rw [pre_split hp] at h1; exact h1 (hfree _)
          case isFalse => exact h2 rfl
        have at4 := r4 _ at3 ne_di ne_dl
        have hfl : (frR R [] [c]).length = R.length := by unfold frR; rw [List.length_map, grp_nil]
        have hfg : ∀ n, (frR R [] [c])[n]? = (R[n]?).map fun r : Rw => (([c] ++ r.1, r.2) : Rw) := fun n => by
          unfold frR
          rw [grp_nil, List.getElem?_map]
          rfl
        have hFn : Nk (frR R [] [c]) := TM.nk_fr W.nk [] [c]
        have hRf : ∀ w, lk R ([c] ++ w) = none := fun w => by rw [W.lkk]; exact hfree w
        refine wpS_nd fun nd4 => ?_
        refine wp_for (wi_seq (wp_cb (wp_cons (wp_var rfl (wp_nil (wc_lstD (.inl at4) ⟨_, .inl rfl, fun n ρ' μ' => (p, DCell.dct ((R ++ (frR R [] [c]).take n).map dR)) ∈ μ' ∧ Ot μ4 (p, .dct (R.map dR)) μ' ∧ ∃ z10 : Option Dv, ρ' = [some (.ref a), some (.ref q), some (.int way), some (.str x), some (.int more), some (.ref p), some (.lst (T.map Dv.str)), none, z8, some (.str [c]), z10], ⟨by rw [List.take_zero, List.append_nil]; exact at4, fun c hc _ => hc, _, rfl⟩, ?_, ?_⟩))))))
        · rintro n d ρ' μ5 hd ⟨m5, o5, z10, rfl⟩
          rw [List.getElem?_map, List.getElem?_map] at hd
          cases er : R[n]? with
          | none => rw [er] at hd; cases hd
          | some r =>
          rw [er] at hd
          cases hd
          have hrm := List.mem_of_getElem? er
          have hr1 : lk R r.1 = some r.2 := TM.lk_some_of W.nk (show (r.1, r.2) ∈ R from hrm)
          have hr2 : getO o r.1 ≠ none := by rw [← W.lkk, hr1]; exact fun z => nomatch z
          have hr3 := (hN _ hr2).1
          walk_at "set"
          have hz5 : (R ++ (frR R [] [c]).take n).length ≤ 1000 := by rw [List.length_append, List.length_take, hfl]; omega
          refine wp_dput (wp_dget (wp_var rfl (wp_var rfl ⟨p, _, r.1, r.2, rfl, rfl, .inl m5, by rw [TM.lk_app, hr1]; rfl, wp_var rfl (wp_op (wp_var rfl (wp_var rfl (wr_addS (sz_le (by rw [List.length_singleton]; omega)) ⟨p, _, [c] ++ r.1, r.2, rfl, rfl, rfl, m5, sz_lt (by omega), fun μ6 m6 o6 => ?_⟩))))⟩)))
          have etk : (frR R [] [c]).take (n + 1) = (frR R [] [c]).take n ++ [([c] ++ r.1, r.2)] := by rw [List.take_succ, hfg, er]; rfl
          have hnone : lk (R ++ (frR R [] [c]).take n) ([c] ++ r.1) = none := by
            rw [TM.lk_app, hRf, Option.none_or, TM.lk_none]
            intro r' hr' e
            have h5 := hFn.take (n + 1)
            unfold TM.Nk at h5
            rw [etk, List.map_append] at h5
            exact (List.nodup_append.mp h5).2.2 r'.1 (List.mem_map_of_mem (f := (·.1)) hr') ([c] ++ r.1) (by simp) e
          rw [put_new hnone, List.append_assoc, ← etk] at m6
          refine ⟨m6, fun e he hne2 => o6 e (o5 e he hne2) fun z => ?_, _, rfl⟩
          subst z
          have := nd_same nd4 he at4
          exact hne2 (by rw [this])
        · rintro ρ' μ5 ⟨m5, o5, z10, rfl⟩
          rw [List.length_map, List.length_map, ← hfl, List.take_length] at m5
          have hlk' : ∀ z, lk (R ++ frR R [] [c]) z = getO o' z := fun z => by
            rw [TM.lk_app, TM.lk_fr, hg, W.lkk, hgz]
            congr 1
            split
            · exact W.lkk _
            · rfl
          have B' := B.step hlp m3 o3 h4 r4 m5 o5 tok (TM.nk_app W.nk hFn fun r hr => ?_) hlk'
          · have hp' := B'.w.pd.pm.length_eq
            rw [List.length_append, hfl] at hp'
            refine ⟨o', past ++ [o], _, _, _, _, B', by rw [List.length_append, List.length_singleton]; omega, by omega, fun z => ?_, fun y hy => ?_, rfl⟩
            · subst z
              have : (namesO (none : Option Tr)).length = 0 := rfl
              rw [this] at hp'
              have h0 : (namesO o).length = 0 := by omega
              cases ho : o with
              | none => exact hne ho
              | some t =>
                have hwt : Wf t := by have := W.ok.ok.wf; rw [ho] at this; exact this
                have := names_pos hwt
                rw [ho] at h0
                have h1 : (TM.names t).length = 0 := h0
                omega
            · rw [hg, hgz] at hy
              cases e1 : getO o y with
              | some v =>
                have := hN y (by rw [e1]; exact fun z => nomatch z)
                exact ⟨by omega, fun c' hc' => this.2 c' (hcr c' hc').2⟩
              | none =>
                rw [e1, Option.none_or] at hy
                split at hy
                case isFalse => exact absurd rfl hy
                case isTrue hp =>
                  have h2 := (hN _ hy).1
                  rw [List.length_drop] at h2
                  refine ⟨by omega, fun c' hc' e => ?_⟩
                  rw [pre_split hp] at e
                  exact (hcr c' hc').1 (Option.some.inj e).symm
          · unfold frR at hr
            obtain ⟨r0, _, rfl⟩ := List.mem_map.mp hr
            exact hRf _
      · rintro ρ' μ2 ⟨o, past, R, ps, z9, z10, B, hl, hn, hne, hN, rfl⟩
        exact ⟨o, past, R, ps, z9, z10, B, hl, hn, rfl⟩
    · refine wp_ifN rfl c1 ?_
      exact ⟨o, past, R, ps, _, _, B, by omega, by omega, rfl⟩
  clear B hl hn hs1 hs2
  rintro ρ' μ2 ⟨o, past, R, ps, z9, z10, B, hl, hn, rfl⟩
  -- up to three more
  refine wp_mid (fun ρ' μ' => ∃ (o : Option Tr) (past : List (Option Tr)) (R : List Rw) (ps : List Addr) (z7 : Option Dv), Bg C_Trail a dx pt q μ o past p R ps μ' ∧ past.length ≤ 18 ∧ ρ' = [some (.ref a), some (.ref q), some (.int way), some (.str x), some (.int more), some (.ref p), some (.lst (T.map Dv.str)), z7, z8, z9, z10]) ?_ ?_
  · have ez : (("z" : Str).cps.toList) = [122] := by decide +kernel
    refine wp_for (wi_rng1 ?_)
    walk_at "r"
    obtain ⟨n, hn3, en⟩ : ∃ n : Nat, n ≤ 3 ∧ atI [Dv.int 0, .int more] (if decide (way = 1) = true then 1 else 0) = some (.int (n : Nat)) := by
      by_cases h1 : way = 1
      · refine ⟨more.toNat, by omega, ?_⟩
        rw [decide_eq_true h1, show ((more.toNat : Nat) : Int) = more by omega]
        rfl
      · refine ⟨0, by omega, ?_⟩
        rw [decide_eq_false h1]
        rfl
    refine wr_ixL isL_d en ?_
    walk_at "r"
    refine ⟨_, rfl, by omega, by omega, fun i ρ' μ' => i ≤ n ∧ ∃ (o : Option Tr) (past : List (Option Tr)) (R : List Rw) (ps : List Addr) (z7 : Option Dv), Bg C_Trail a dx pt q μ o past p R ps μ' ∧ past.length ≤ 15 + i ∧ (namesO o).length ≤ 96 + i ∧ ρ' = [some (.ref a), some (.ref q), some (.int way), some (.str x), some (.int more), some (.ref p), some (.lst (T.map Dv.str)), z7, z8, z9, z10], ⟨Nat.zero_le _, o, past, R, ps, _, B, by omega, by omega, rfl⟩, ?_, ?_⟩
    · clear B hl hn
      rintro i d ρ' μ3' hd ⟨hi, o, past, R, ps, z7, B, hl, hn, rfl⟩
      have hlt : i < n := by
        have := (List.getElem?_eq_some_iff.mp hd).1
        simpa using this
      have ed : d = .int (i : Nat) := by
        rw [List.getElem?_map, List.getElem?_range (by simpa using hlt)] at hd
        exact (Option.some.inj hd).symm
      subst ed
      have W := B.w
      have hRl : R.length = (namesO o).length := W.pd.pm.length_eq
      obtain ⟨hnz, hnz2⟩ := z3_ok i (by omega)
      have hlog := num_log i (by omega)
      walk_at "set"
      refine wp_seq (wp_drop (wp_appM (wp_var rfl ⟨q, _, rfl, W.qq, wp_cb (wp_cons (wp_var rfl (wp_nil (wc_dctF (.inl W.at_) fun l hlf => ?_))))⟩)))
      refine ⟨_, List.mem_cons_of_mem _ W.qq, sz_lt (by rw [List.length_map, W.len]; omega), fun μ3 m3 o3 => ?_⟩
      have hlp : l ≠ p := fun z => hlf (z ▸ List.mem_map_of_mem (f := (·.1)) W.at_)
      have tr3 : TrA C_Trail a dx pt o past μ3 := ⟨o3 _ (List.mem_cons_of_mem _ W.tr.ins) ne_il, o3 _ (List.mem_cons_of_mem _ W.tr.lst) (ne_a fun z => W.qpt z.symm)⟩
      have at3 := o3 _ (List.mem_cons_of_mem _ W.at_) ne_dl
      refine wp_seq (wp_drop (wp_mth hW (wp_var rfl ⟨a, dx, _, rfl, tr3.ins, lk_no _ _ (by decide +kernel) (by decide +kernel), ?_⟩)))
      refine wp_cons (wp_op (wp_str (wp_cb (wp_cons (wp_var rfl (wp_nil (wc_str hlog ?_)))))))
      rw [ez]
      rw [show (((toString ((i : Nat) : Int) : String) : Str).cps.toList) = numX i from rfl]
      refine wr_addS (sz_le (by rw [List.length_singleton]; omega)) (wp_cons (wp_var rfl (wp_nil ?_)))
      refine ⟨rfl, a, dx, pt, o, past, _, _, rfl, tr3, W.ok, by omega, thg_yes hnz fun y' ey => ⟨fun _ h100 => by omega, fun _ o' tok hg μ4 h4 r4 => ?_⟩⟩
      cases ey
      have at4 := r4 _ at3 ne_di ne_dl
      refine wp_dput (wp_var rfl (wp_var rfl (wp_op (wp_str (wp_cb (wp_cons (wp_var rfl (wp_nil (wc_str hlog ?_)))))))))
      rw [ez]
      rw [show (((toString ((i : Nat) : Int) : String) : Str).cps.toList) = numX i from rfl]
      refine wr_addS (sz_le (by rw [List.length_singleton]; omega)) ⟨p, R, _, _, rfl, rfl, rfl, at4, sz_lt (by omega), fun μ5 m5 o5 => ?_⟩
      have B' := B.step hlp m3 o3 h4 r4 m5 o5 tok (nk_put W.nk _ _) (fun z => by rw [lk_put, hg, W.lkk])
      refine ⟨hlt, o', past ++ [o], _, _, _, B', by rw [List.length_append, List.length_singleton]; omega, ?_, rfl⟩
      have := keys_le (z := [[122] ++ numX i]) tok.ok.wf W.ok.ok.wf fun z hz => by
        rw [hg] at hz
        split at hz
        case isTrue c => exact .inr (by rw [c]; exact List.mem_singleton_self _)
        case isFalse => exact .inl hz
      rw [List.length_singleton] at this
      omega
    · clear B hl hn
      rintro ρ' μ3' ⟨hi, o, past, R, ps, z7, B, hl, hn, rfl⟩
      have el : ((List.range ((n : Nat) : Int).toNat).map fun (i : Nat) => Dv.int (i : Nat)).length = n := by simp
      rw [el] at hl
      exact ⟨o, past, R, ps, _, B, by omega, rfl⟩
  clear B hl hn
  rintro ρ' μ3 ⟨o, past, R, ps, z7, B, hl, rfl⟩
  exact wp_ret (wp_var rfl (qk p R o past ps _ B.w (by omega) B.fr))
end
/-! ### what is told behind a deed -/
theorem rows_al (R : List Rw) (h : R.length ≤ 20000) : dOk (.lst (R.map encR)) = true ∧ dDep (.lst (R.map encR)) ≤ 3 := by
  have k1 : ∀ R : List Rw, dOkA (R.map encR) = true ∧ dDepA (R.map encR) ≤ 2 := fun R => by
    induction R with
    | nil => simp [dOkA, dDepA]
    | cons r R ih =>
      have e1 : dOk (encR r) = true := by simp [encR, dOk, dOkA]
      have e2 : dDep (encR r) = 2 := by simp [encR, dDep, dDepA]
      rw [List.map_cons, dOkA, dDepA, e1, ih.1, e2]
      exact ⟨rfl, Nat.max_le.mpr ⟨Nat.le_refl _, ih.2⟩⟩
  have := k1 R
  rw [dOk, dDep, this.1, List.length_map]
  exact ⟨by simp; omega, by omega⟩
theorem told_al (R : List Rw) (h : R.length ≤ 20000) : dOk (tolD (.lst (R.map encR))) = true ∧ dDep (tolD (.lst (R.map encR))) ≤ 4 := by
  obtain ⟨h1, h2⟩ := rows_al R h
  unfold tolD
  rw [dOk, dOkA, dOkA, dOkA, dOk, h1, dDep, dDepA, dDepA, dDepA]
  refine ⟨rfl, ?_⟩
  have : dDep (.str (tX "told")) = 1 := rfl
  rw [this]
  have := Nat.max_le.mpr ⟨(by omega : 1 ≤ 3), Nat.max_le.mpr ⟨h2, (by omega : 0 ≤ 3)⟩⟩
  omega
def kpD (L : List Rw) : Dv := .tup [.lst (L.map encR), .lst (L.map encR)]
def S__law_tells (C : Addr) : Spc := fun ds μ k ex => ∃ (a dx pt : Addr) (o : Option Tr) (past : List (Option Tr)) (p r : Addr) (R : List Rw) (ls : List Dv) (d : Dv), ds = [.ref a, d, .ref p, .ref r] ∧ TrA C a dx pt o past μ ∧ TrOk o ∧ past.length ≤ 1000000 ∧ Tq d ∧ Pd p R (namesO o) μ ∧ (r, DCell.lst ls) ∈ μ ∧ ls.length ≤ 1000 ∧ r ≠ pt ∧
  ∀ μ' ls', (ls' = ls ∨ ls' = ls ++ [kpD (namesO o)]) → (r, DCell.lst ls') ∈ μ' → Ot μ (r, .lst ls) μ' → k (.bl true) μ'
theorem word_told : tX "told" = ("told" : Str).cps.toList := rfl
section
variable {P : Program} {w : World} {K : PySem.W.Frag} {mg : Str → Option Value} {base : Heap} {k : Nat}
theorem scN__law_tells : FnScope ["_law_trail", "_law_start", "_law_plain", "_law_kept", "_law_due_here", "_law_name", "_law_got", "_law_all_of", "_law_again"] ["_law_trail", "_law_start", "_law_plain", "_law_kept"] (defScope s__law_tells) := ⟨rfl, rfl, rfl, by decide +kernel, rfl, by decide +kernel, by decide +kernel⟩
theorem ok__law_tells {f : Addr} {fd : FuncData} (F : Fun K "_law_tells" "_law_tells" s__law_tells f fd) {C_Trail : Addr} (O_Trail : OCls K mg "Trail" C_Trail) (D__law_alike : Df P w K mg base k "_law_alike" ["_law_told", "_law_due_here"] (S__law_alike 250)) (M_len : mg "len" = none) (D__law_tried : Df P w K mg base k "_law_tried" ["_law_trail", "_law_way", "_law_one", "_law_other", "_law_number"] (S__law_tried C_Trail)) (M_list : mg "list" = none) (D_Trail_told : DfM P w K mg base k C_Trail "told" ["self", "beginning"] (S_Trail_told C_Trail)) (D__law_named : Df P w K mg base k "_law_named" ["_law_thing"] S__law_named) (M_sorted : mg "sorted" = none) : FnD P w K mg base (k + 1) f fd ["_law_trail", "_law_start", "_law_plain", "_law_kept"] (spOf K mg 4 (S__law_tells C_Trail)) := by
  refine okD F scN__law_tells (fun cdv A outer s H E hr => ⟨_, (pss_cons (ps_set (i := 4) scN__law_tells.nd rfl (Or.inl rfl) (pe_tup (pa_cons pe_str (pa_cons pe_bl pa_nil))))
      (pss_cons (ps_if (pt_val (pe_dfK D__law_named ⟨rfl, rfl, rfl, rfl, rfl⟩ hr (takes_of rfl rfl rfl rfl) rfl (pa_cons (pv 1) pa_nil))) (pss_one (ps_set (i := 4) scN__law_tells.nd rfl (Or.inl rfl) (pe_tup (pa_cons pe_str (pa_cons (pe_lc (own := [("_law_name", 5)]) (g := gName 5) rfl scN__law_tells.nd (pi_seqK (K := K) rfl (pe_callB (call_sortedDD hr rfl) (by rfl) M_sorted (by decide +kernel) (pa_cons (pv 2) pa_nil))) (blkOk_by (own := [("_law_name", 5)]) (N := ["_law_trail", "_law_start", "_law_plain", "_law_kept", "_law_due_here", "_law_name", "_law_got", "_law_all_of", "_law_again"]) (sc := defScope s__law_tells) (by decide +kernel)) (fun _ _ _ _ _ => pg_name (i := 5) scN__law_tells.nd rfl (Or.inl rfl)) (fun _ _ _ _ _ => (pts_one (pt_cmpR (op_eqK (K := K) rfl hr.units) (pe_slice (sl_K (K := K) rfl) (pv 5) po_none (po_some (pe_callB (call_lenK (K := K) rfl) (by rfl) M_len PySem.boot_len (pa_cons (pv 1) pa_nil)))) (pv 1) (nomark _)))) (fun _ _ _ _ _ => (pe_tup (pa_cons (pv 5) (pa_cons (pe_dget hr.u1 (pv 2) (pv 5) (fun _ _ => rfl)) pa_nil))))) pa_nil))))) pss_nil)
      (pss_cons (ps_set (i := 6) scN__law_tells.nd rfl (Or.inl rfl) (pe_dfK D__law_tried ⟨rfl, rfl, rfl, rfl, rfl⟩ hr (takes_of rfl rfl rfl rfl) rfl (pa_cons (pv 0) (pa_cons pe_int (pa_cons (pv 1) (pa_cons pe_non (pa_cons pe_int pa_nil)))))))
      (pss_cons (ps_if (PW.pt (pw_or (pt_not (pt_val (pe_dfK D__law_alike ⟨rfl, rfl, rfl, rfl, rfl⟩ hr (takes_of rfl rfl rfl rfl) rfl (pa_cons (pv 6) (pa_cons (pv 4) pa_nil))))) (pw_or1 (pt_cmpR (op_neK (K := K) rfl hr.units) (pe_ix (ix_K (K := K) rfl) (pv 4) pe_int (fun _ _ => rfl)) pe_str (nomark _))))) (pss_one (ps_ret (pe_and (pe_cmpR (op_neK (K := K) rfl hr.units) (pe_ix (ix_K (K := K) rfl) (pv 4) pe_int (fun _ _ => rfl)) pe_str (nomark _)) (pe_one (pe_dfK D__law_alike ⟨rfl, rfl, rfl, rfl, rfl⟩ hr (takes_of rfl rfl rfl rfl) rfl (pa_cons (pv 6) (pa_cons (pv 4) pa_nil))))))) pss_nil)
      (pss_cons (ps_expr (pe_bm PySem.F.plainAttrs_list PySem.F.slot_list_append PySem.F.type_list_append mt_append (pe_ix (ix_K (K := K) rfl) (pv 6) pe_int (fun _ _ => rfl)) (pa_cons (pe_tup (pa_cons pe_str (pa_cons pe_int pa_nil))) pa_nil)))
      (pss_cons (ps_set (i := 7) scN__law_tells.nd rfl (Or.inl rfl) (pe_mthD O_Trail.cl D_Trail_told ⟨rfl, rfl, rfl, rfl, rfl⟩ hr (takes_of rfl rfl rfl rfl) (pv 0) (pa_cons pe_str pa_nil)))
      (pss_cons (ps_expr (pe_bm PySem.F.plainAttrs_list PySem.F.slot_list_append PySem.F.type_list_append mt_append (pv 3) (pa_cons (pe_tup (pa_cons (pv 7) (pa_cons (pe_callTy (call_lstK (K := K) rfl) (by rfl) M_list (by decide +kernel) (pa_cons (pv 7) pa_nil)) pa_nil))) pa_nil)))
      (pss_cons (ps_set (i := 8) scN__law_tells.nd rfl (Or.inl rfl) (pe_dfK D__law_tried ⟨rfl, rfl, rfl, rfl, rfl⟩ hr (takes_of rfl rfl rfl rfl) rfl (pa_cons (pv 0) (pa_cons pe_int (pa_cons (pv 1) (pa_cons pe_non (pa_cons pe_int pa_nil)))))))
      (pss_cons (ps_if (PW.pt (pw_or (pt_cmpR (op_neK (K := K) rfl hr.units) (pe_callB (call_lenK (K := K) rfl) (by rfl) M_len PySem.boot_len (pa_cons (pv 7) pa_nil)) (pe_callB call_lenD (by rfl) M_len PySem.boot_len (pa_cons (pv 2) pa_nil)) (nomark _)) (pw_or1 (pt_not (pt_val (pe_dfK D__law_alike ⟨rfl, rfl, rfl, rfl, rfl⟩ hr (takes_of rfl rfl rfl rfl) rfl (pa_cons (pv 8) (pa_cons (pv 4) pa_nil)))))))) (pss_one (ps_ret pe_bl)) pss_nil)
      (pss_one (ps_ret (pe_dfK D__law_alike ⟨rfl, rfl, rfl, rfl, rfl⟩ hr (takes_of rfl rfl rfl rfl) rfl (pa_cons (pe_ix (ix_K (K := K) rfl) (pv 6) pe_int (fun _ _ => rfl)) (pa_cons (pe_op (op_addK (K := K) rfl) (pe_ix (ix_K (K := K) rfl) (pv 4) pe_int (fun _ _ => rfl)) (pe_lst (pa_cons (pe_tup (pa_cons pe_str (pa_cons pe_int pa_nil))) pa_nil))) pa_nil)))))))))))))), ?_⟩)
  try dsimp only [cxOf]
  intro H0 ds μ kk ex hW h
  obtain ⟨a, dx, pt, o, past, p, r, R, ls, d, rfl, hA, hO, hn, hd, hp, hr, hls, hrp, q⟩ := h
  have e0 : (("" : Str).cps.toList) = [] := by decide +kernel
  have ew : ("no name" : Str).cps.toList = wordN 0 := word0.symm
  have hN := hO.n
  have hRl : R.length = (namesO o).length := hp.pm.length_eq
  walk_at "env"
  refine wp_seq (wp_set (wp_tup (wp_cons (wp_str (wp_cons (wp_bl (wp_nil ⟨sz_le (by simp), ?_⟩)))))))
  rw [ew]
  walk_at "set"
  have qs : kk (.bl true) μ := q μ ls (.inl rfl) hr (fun c hc _ => hc)
  rcases (show nmD d = none ∨ ∃ x, nmD d = some x by cases nmD d <;> simp) with e1 | ⟨x, e1⟩
  · -- no name
    refine wp_seq (wp_if (wp_test (wp_call hW (wp_cons (wp_var rfl (wp_nil ⟨rfl, d, rfl, hd, _, rfl, ?_⟩))))))
    rw [show (nmD d).isSome = false by rw [e1]; rfl]
    refine iteF (wp_next ?_)
    refine wp_seq (wp_set (wp_call hW ?_))
    refine wp_cons (wp_var rfl (wp_cons (wp_int (wp_cons (wp_var rfl (wp_cons (wp_non (wp_cons (wp_int (wp_nil ?_))))))))))
    refine ⟨rfl, a, dx, pt, o, past, 6, 0, d, .non, rfl, hA, hO, hn, .inr (.inl ⟨rfl, hd, fun _ => ?_, (fun x e => by rw [e1] at e; cases e)⟩)⟩
    walk_at "set"
    have al : Al μ (refD 0) (.tup [.str (wordN 0), .bl true]) := .same _
    refine wp_if (wp_or (wp_not (wp_test (wp_call hW ?_))))
    refine wp_cons (wp_var rfl (wp_cons (wp_var rfl (wp_nil ⟨rfl, _, _, rfl, al, rfl, by decide, ?_⟩))))
    refine ⟨_, rfl, iteF ?_⟩
    have hw : wordN 0 ≠ ("told" : Str).cps.toList := by decide +kernel
    refine wp_test (wp_op (wp_op (wp_var rfl (wp_int (wr_ixT (d := .str (wordN 0)) rfl (wp_str (wr_neS ⟨_, rfl, ?_⟩)))))))
    refine iteND (fun _ => ?_) (fun c => absurd c hw)
    refine wp_ret (wp_andV (wp_op (wp_op (wp_var rfl (wp_int (wr_ixT (d := .str (wordN 0)) rfl (wp_str (wr_neS ⟨_, rfl, ?_⟩))))))))
    refine iteND (fun _ => ?_) (fun c => absurd c hw)
    refine wp_call hW ?_
    exact wp_cons (wp_var rfl (wp_cons (wp_var rfl (wp_nil ⟨rfl, _, _, rfl, al, rfl, by decide, qs⟩))))
  · -- a name
    obtain ⟨rfl, hxb⟩ := nmD_some e1
    have hxl := nameB_len hxb
    refine wp_seq (wp_if (wp_test (wp_call hW (wp_cons (wp_var rfl (wp_nil ⟨rfl, _, rfl, hd, _, rfl, ?_⟩))))))
    rw [show (nmD (.str x)).isSome = true by rw [e1]; rfl]
    refine iteT ?_
    refine wp_set (wp_tup (wp_cons (wp_str (wp_cons (wp_lcM (wi_seq (wp_cb (wp_cons (wp_var rfl (wp_nil (wc_sortD (.inl hp.at_) (by omega) hp.ks.1 hp.ks.2 ⟨_, .inl rfl, ?_⟩)))))))))))
    rw [map_kst]
    have hGL : (grp (namesO o) x).length ≤ 100 := Nat.le_trans (List.length_filter_le _ _) hN
    refine ⟨(grp (namesO o) x).map encR, ⟨Rw, namesO o, fun r => decide (x <+: r.1), encR, fun r => .str r.1, rfl, sz_le (by omega), fun r hr μ' _ => ?_, fun r hr _ μ' hs => ?_, rfl⟩, ?_⟩
    · have hl := hp.len r hr
      walk_at "set"
      walk_at "r"
      rw [cutL_to, take_pre]
      exact ⟨rfl, rfl⟩
    · walk_at "set"
      refine wp_tup (wp_cons (wp_var rfl (wp_cons (wp_dget (wp_var rfl (wp_var rfl ⟨p, R, r.1, r.2, rfl, rfl, .inl (hs _ hp.at_), hp.row hr, wp_nil ⟨sz_le (by simp), rfl, rfl⟩⟩))))))
    refine wp_nil ⟨sz_le (by simp), ?_⟩
    rw [← word_told]
    walk_at "set"
    -- told once
    refine wp_seq (wp_set (wp_call hW ?_))
    refine wp_cons (wp_var rfl (wp_cons (wp_int (wp_cons (wp_var rfl (wp_cons (wp_non (wp_cons (wp_int (wp_nil ?_))))))))))
    refine ⟨rfl, a, dx, pt, o, past, 6, 0, _, .non, rfl, hA, hO, hn, .inr (.inl ⟨rfl, hd, (fun z => by rw [e1] at z; cases z), fun x' ex q1 => ?_⟩)⟩
    rw [e1] at ex
    cases ex
    generalize hrows : (grp (namesO o) x).map encR = rows at *
    have hrl : rows.length ≤ 100 := by rw [← hrows, List.length_map]; exact hGL
    obtain ⟨t1, t2⟩ := told_al (grp (namesO o) x) (by omega)
    rw [hrows] at t1 t2
    walk_at "set"
    refine wpS_nd fun nd1 => ?_
    have al : Al ((q1, DCell.lst rows) :: μ) (tolD (.ref q1)) (tolD (.lst rows)) := .pair (.same _) (.cel (isL_c List.mem_cons_self))
    refine wp_seq (wp_if (wp_or (wp_not (wp_test (wp_call hW ?_)))))
    refine wp_cons (wp_var rfl (wp_cons (wp_var rfl (wp_nil ⟨rfl, _, _, rfl, al, t1, Nat.le_trans t2 (by decide), ?_⟩))))
    refine ⟨_, rfl, iteF ?_⟩
    refine wp_test (wp_op (wp_op (wp_var rfl (wp_int (wr_ixT (d := .str (tX "told")) rfl (wp_str (wr_neS ⟨_, rfl, ?_⟩)))))))
    refine iteND (fun c => absurd word_told c) (fun _ => wp_next ?_)
    -- a row put to it
    refine wp_seq (wp_drop (wp_appM (wp_op (wp_var rfl (wp_int (wr_ixT (d := .ref q1) rfl ⟨q1, rows, rfl, List.mem_cons_self, ?_⟩))))))
    refine wp_tup (wp_cons (wp_str (wp_cons (wp_int (wp_nil ⟨sz_le (by simp), rows, List.mem_cons_self, sz_lt (by omega), fun μ2 m2 o2 => ?_⟩)))))
    rw [e0] at m2
    have mv : ∀ c ∈ μ, c ∈ μ2 := fun c hc => o2 c (List.mem_cons_of_mem _ hc) fun z => (List.nodup_cons.mp nd1).1 (by rw [z] at hc; exact List.mem_map_of_mem (f := (·.1)) hc)
    have hA2 : TrA C_Trail a dx pt o past μ2 := ⟨mv _ hA.ins, mv _ hA.lst⟩
    -- all of them
    refine wp_seq (wp_set (wp_cool (wp_mth hW (wp_var rfl ⟨a, dx, _, rfl, hA2.ins, lk_no _ _ (by decide +kernel) (by decide +kernel), wp_cons (wp_str (wp_nil ?_))⟩))))
    rw [e0]
    refine ⟨rfl, a, dx, pt, o, past, _, rfl, hA2, hO, thg_yes (by decide) fun x' ex q2 => ?_⟩
    cases ex
    rw [told_all]
    refine ⟨_, _, _, rfl, rfl, ?_⟩
    walk_at "set"
    refine wp_seq (wp_drop (wp_appM (wp_var rfl ⟨r, ls, rfl, mv _ hr, ?_⟩)))
    refine wp_tup (wp_cons (wp_var rfl (wp_cons (wp_cb (wp_cons (wp_var rfl (wp_nil (wc_lstL isL_d (wp_nil ?_))))))))) 
    refine ⟨sz_le (by simp), ls, mv _ hr, sz_lt (by omega), fun μ3 m3 o3 => ?_⟩
    have nr : ∀ {c : Addr × DCell}, c.1 ≠ r → c ≠ (r, DCell.lst ls) := fun h z => h (by rw [z])
    have hA3 : TrA C_Trail a dx pt o past μ3 := ⟨o3 _ hA2.ins ne_il, o3 _ hA2.lst (nr fun z => hrp z.symm)⟩
    have hp3 := o3 _ (mv _ hp.at_) ne_dl
    -- told again
    refine wp_seq (wp_set (wp_call hW ?_))
    refine wp_cons (wp_var rfl (wp_cons (wp_int (wp_cons (wp_var rfl (wp_cons (wp_non (wp_cons (wp_int (wp_nil ?_))))))))))
    refine ⟨rfl, a, dx, pt, o, past, 6, 0, _, .non, rfl, hA3, hO, hn, .inr (.inl ⟨rfl, hd, (fun z => by rw [e1] at z; cases z), fun x' ex q3 => ?_⟩)⟩
    rw [e1] at ex
    cases ex
    rw [hrows]
    walk_at "set"
    have al2 : Al ((q3, DCell.lst rows) :: μ3) (tolD (.ref q3)) (tolD (.lst rows)) := .pair (.same _) (.cel (isL_c List.mem_cons_self))
    refine wp_seq (wp_if (wp_or (wp_test (wp_op (wp_cb (wp_cons (wp_var rfl (wp_nil (wc_lenL isL_d ?_)))))))))
    refine wp_cb (wp_cons (wp_var rfl (wp_nil (wc_lenD (.inl (List.mem_cons_of_mem _ hp3)) (wr_neI ⟨_, rfl, ?_⟩)))))
    rw [List.length_map]
    refine iteND (fun c => absurd (by rw [hRl]) c) (fun _ => ?_)
    refine wp_not (wp_test (wp_call hW ?_))
    refine wp_cons (wp_var rfl (wp_cons (wp_var rfl (wp_nil ⟨rfl, _, _, rfl, al2, t1, Nat.le_trans t2 (by decide), ?_⟩))))
    refine ⟨_, rfl, iteF (wp_next ?_)⟩
    -- the first list as it is then
    have hq1 : (q1, DCell.lst (rows ++ [.tup [.str [], .int 0]])) ∈ (q3, DCell.lst rows) :: μ3 := List.mem_cons_of_mem _ (o3 _ m2 (nr fun z => (List.nodup_cons.mp nd1).1 (by rw [show q1 = r from z]; exact List.mem_map_of_mem (f := (·.1)) hr)))
    refine wp_ret (wp_call hW ?_)
    refine wp_cons (wp_op (wp_var rfl (wp_int (wr_ixT (d := .ref q1) rfl ?_))))
    refine wp_cons (wp_op (wp_op (wp_var rfl (wp_int (wr_ixT (d := .lst rows) rfl ?_)))))
    refine wp_lst (wp_cons (wp_tup (wp_cons (wp_str (wp_cons (wp_int (wp_nil ⟨sz_le (by simp), wp_nil ⟨sz_le (by simp), ?_⟩⟩)))))))
    rw [e0]
    refine wr_cat isL_d isL_d (sz_le (by simp; omega)) (wp_nil ?_)
    have ex : rows ++ [Dv.tup [.str [], .int 0]] = (grp (namesO o) x ++ [(([], 0) : Rw)]).map encR := by rw [List.map_append, hrows]; rfl
    obtain ⟨u1, u2⟩ := rows_al (grp (namesO o) x ++ [(([], 0) : Rw)]) (by rw [List.length_append, List.length_singleton]; omega)
    rw [← ex] at u1 u2
    refine ⟨rfl, .ref q1, _, rfl, .cel (isL_c hq1), u1, Nat.le_trans u2 (by decide), ?_⟩
    exact q _ _ (.inr rfl) (List.mem_cons_of_mem _ m3) fun c hc hne => List.mem_cons_of_mem _ (o3 c (mv c hc) hne)
end
/-! ### the law -/
def S_law : Spc := fun ds μ k ex => ∃ ns : List Int, ds = [.scr ns] ∧ ∀ μ', k (.bl true) μ'
def wayL : List Int := [0, 0, 0, 1, 2, 3, 3, 4, 4, 5]
theorem way_at {c : Int} : ∃ w : Int, atI (wayL.map Dv.int) (c % 10) = some (.int w) ∧ 0 ≤ w ∧ w ≤ 5 := by
  have b := emod_bd c (b := 10) (by decide)
  have : c % 10 = 0 ∨ c % 10 = 1 ∨ c % 10 = 2 ∨ c % 10 = 3 ∨ c % 10 = 4 ∨ c % 10 = 5 ∨ c % 10 = 6 ∨ c % 10 = 7 ∨ c % 10 = 8 ∨ c % 10 = 9 := by omega
  rcases this with e | e | e | e | e | e | e | e | e | e <;> rw [e]
  · exact ⟨0, rfl, by decide, by decide⟩
  · exact ⟨0, rfl, by decide, by decide⟩
  · exact ⟨0, rfl, by decide, by decide⟩
  · exact ⟨1, rfl, by decide, by decide⟩
  · exact ⟨2, rfl, by decide, by decide⟩
  · exact ⟨3, rfl, by decide, by decide⟩
  · exact ⟨3, rfl, by decide, by decide⟩
  · exact ⟨4, rfl, by decide, by decide⟩
  · exact ⟨4, rfl, by decide, by decide⟩
  · exact ⟨5, rfl, by decide, by decide⟩
theorem Wd.fr {C a dx pt q r : Addr} {o : Option Tr} {past : List (Option Tr)} {p : Addr} {R : List Rw} {ps : List Addr} {ls : List Dv} {μ μ' : DMem} (h : Wd C a dx pt q o past p R ps μ) (h1 : r ≠ pt) (h2 : r ≠ q) (f : Ot μ (r, .lst ls) μ') : Wd C a dx pt q o past p R ps μ' :=
  ⟨⟨f _ h.tr.ins ne_il, f _ h.tr.lst (ne_a h1.symm)⟩, h.ok, h.oks, f _ h.at_ ne_dl, h.nk, h.lkk, f _ h.qq (ne_a h2.symm), h.len, fun z hz => let ⟨R1, r1, r2, r3⟩ := h.pp z hz; ⟨R1, f _ r1 ne_dl, r2, r3⟩, h.qpt⟩
theorem Wd.up {C a dx pt q : Addr} {o : Option Tr} {past : List (Option Tr)} {p : Addr} {R : List Rw} {ps : List Addr} {μ μ' : DMem} (h : Wd C a dx pt q o past p R ps μ) (f : ∀ c ∈ μ, c ∈ μ') : Wd C a dx pt q o past p R ps μ' :=
  ⟨⟨f _ h.tr.ins, f _ h.tr.lst⟩, h.ok, h.oks, f _ h.at_, h.nk, h.lkk, f _ h.qq, h.len, fun z hz => let ⟨R1, r1, r2, r3⟩ := h.pp z hz; ⟨R1, f _ r1, r2, r3⟩, h.qpt⟩
/-- a deed done: the plain dict of before is put to the past, another one stands in its place -/
theorem Wd.deed {C a dx pt q : Addr} {o o' : Option Tr} {past : List (Option Tr)} {p g : Addr} {R R' : List Rw} {ps : List Addr} {μ μ3 μ4 : DMem} (h : Wd C a dx pt q o past p R ps μ) (hg : (g, DCell.dct (R'.map dR)) ∈ μ) (nk' : Nk R') (lk' : ∀ z, lk R' z = getO o' z) (tok : TrOk o')
    (m3 : (q, DCell.lst (ps.map Dv.ref ++ [Dv.ref p])) ∈ μ3) (o3 : Ot μ (q, .lst (ps.map Dv.ref)) μ3) (h4 : TrA C a dx pt o' (past ++ [o]) μ4) (r4 : Rs C a dx pt o past μ3 μ4) : Wd C a dx pt q o' (past ++ [o]) g R' (ps ++ [p]) μ4 := by
  refine ⟨h4, tok, fun y hy => ?_, r4 _ (o3 _ hg ne_dl) ne_di ne_dl, nk', lk', ?_, by rw [List.length_append, List.length_append, h.len]; rfl, fun z hz => ?_, h.qpt⟩
  · rcases List.mem_append.mp hy with hy | hy
    · exact h.oks y hy
    · rw [List.mem_singleton.mp hy]; exact h.ok
  · rw [List.map_append]
    exact r4 _ m3 ne_li (ne_a h.qpt)
  · rw [List.zip_append h.len] at hz
    rcases List.mem_append.mp hz with hz | hz
    · obtain ⟨R1, r1, r2, r3⟩ := h.pp z hz
      exact ⟨R1, r4 _ (o3 _ r1 ne_dl) ne_di ne_dl, r2, r3⟩
    · have ez : z = (p, o) := by simpa using hz
      subst ez
      exact ⟨R, r4 _ (o3 _ h.at_ ne_dl) ne_di ne_dl, h.nk, h.lkk⟩
/-- the last deed taken back -/
theorem Wd.back {C a dx pt q : Addr} {o y : Option Tr} {past : List (Option Tr)} {p l : Addr} {R : List Rw} {ps : List Addr} {μ μ3 μ4 : DMem} (h : Wd C a dx pt q o (past ++ [y]) p R (ps ++ [l]) μ)
    (m3 : (q, DCell.lst (ps.map Dv.ref)) ∈ μ3) (o3 : Ot μ (q, .lst (ps.map Dv.ref ++ [Dv.ref l])) μ3) (h4 : TrA C a dx pt y past μ4) (r4 : Rs C a dx pt o (past ++ [y]) μ3 μ4) : ∃ R', Wd C a dx pt q y past l R' ps μ4 := by
  have hlen : ps.length = past.length := by
    have := h.len
    rw [List.length_append, List.length_append, List.length_singleton, List.length_singleton] at this
    omega
  have ez : (ps ++ [l]).zip (past ++ [y]) = ps.zip past ++ [(l, y)] := by rw [List.zip_append hlen]; rfl
  have hpp := h.pp
  rw [ez] at hpp
  obtain ⟨R1, r1, r2, r3⟩ := hpp (l, y) (by simp)
  refine ⟨R1, h4, h.oks y (by simp), fun z hz => h.oks z (List.mem_append_left _ hz), r4 _ (o3 _ r1 ne_dl) ne_di ne_dl, r2, r3, r4 _ m3 ne_li (ne_a h.qpt), hlen, fun z hz => ?_, h.qpt⟩
  obtain ⟨R2, s1, s2, s3⟩ := hpp z (List.mem_append_left _ hz)
  exact ⟨R2, r4 _ (o3 _ s1 ne_dl) ne_di ne_dl, s2, s3⟩
/-- .. and what was told -/
structure Lw (C a dx pt q r : Addr) (o : Option Tr) (past : List (Option Tr)) (p : Addr) (R : List Rw) (ps : List Addr) (ls : List Dv) (μ : DMem) : Prop where
  w : Wd C a dx pt q o past p R ps μ
  kp : (r, DCell.lst ls) ∈ μ
  kk : ∀ d ∈ ls, ∃ L : List Rw, d = kpD L ∧ L.length ≤ 100
  rpt : r ≠ pt
  rq : r ≠ q
theorem wr_inT {K : PySem.W.Frag} {H0 : Hp} {ρ : DEnv} {μ : DMem} {k : Dv → DMem → Prop} {p : Addr} {R : List Rw} {d : Dv} (ht : Tq d) (h : IsDc μ p R) (q0 : k (.bl false) μ) (q1 : ∀ x v, d = .str x → lk R x = some v → k (.bl true) μ) : wpR K H0 (rInD false) d (.ref p) ρ μ k := by
  have st : ∀ x : Tx, d = .str x → wpR K H0 (rInD false) d (.ref p) ρ μ k := fun x e => by
    subst e
    refine wr_inD h ?_
    cases e : lk R x with
    | none => exact q0
    | some v => exact q1 x v rfl e
  rcases ht with ⟨x, e, _, _⟩ | e | e | e | e
  · exact st x e
  · exact st _ e
  · exact st _ e
  · subst e; exact wr_inDN h q0
  · subst e; exact wr_inDI h q0
theorem due_any {p : Addr} {μ : DMem} {k : Dv → DMem → Prop} {o : Out} (h : ∀ d μ', (∀ c ∈ μ, c ∈ μ') → k d μ') : DueK p μ k o := by
  cases o with
  | no n => exact fun μ' hs => h _ _ hs
  | yes a f => exact fun μ' g R' hs _ _ _ => h _ _ hs
theorem word_not (n : Nat) : wordN n ≠ tX "told" := by
  match n with
  | 0 => decide +kernel
  | 1 => decide +kernel
  | 2 => decide +kernel
  | 3 => decide +kernel
  | 4 => decide +kernel
  | n + 5 => exact (show wordOf "NothingDone" ≠ tX "told" from by decide +kernel)
theorem tol_al (a : Option Int) : dOk (tolD (encI a)) = true ∧ dDep (tolD (encI a)) ≤ 2 := by cases a <;> exact ⟨rfl, Nat.le_refl _⟩
theorem ref_al (n : Nat) : dOk (refD n) = true ∧ dDep (refD n) ≤ 2 := ⟨rfl, Nat.le_refl _⟩
theorem isEmpty_map' {α β : Type} (l : List α) (f : α → β) : (l.map f).isEmpty = l.isEmpty := by cases l <;> rfl
theorem take2 {A B D : Dv} : cutL [A, B, D] none (some (2 : Int)) = [A, B] := by
  rw [show (2 : Int) = ((2 : Nat) : Int) from rfl, cutL_to]
  rfl
section
variable {P : Program} {w : World} {K : PySem.W.Frag} {mg : Str → Option Value} {base : Heap} {k : Nat}
theorem scN_law : FnScope ["_law_script", "_law_trail", "_law_past", "_law_kept", "_law_begin", "_law_more", "_law_word", "_law_plain", "_law_first", "_law_size", "_law_at", "_law_cell", "_law_held", "_law_way", "_law_one", "_law_other", "_law_number", "_law_due_here", "_law_start", "_law_pair"] ["_law_script"] (defScope s_law) := ⟨rfl, rfl, rfl, by decide +kernel, rfl, by decide +kernel, by decide +kernel⟩
theorem ok_law {f : Addr} {fd : FuncData} (F : Fun K "law" "law" s_law f fd) {C_Trail : Addr} (O_Trail : OCls K mg "Trail" C_Trail) (hk2 : 2 ≤ k) (D__law_alike : Df P w K mg base k "_law_alike" ["_law_told", "_law_due_here"] (S__law_alike 250)) {t_MOST_NAMES : Tok} (G_MOST_NAMES : True ∧ mg "MOST_NAMES" = some (Value.int 100 t_MOST_NAMES)) (M_enumerate : mg "enumerate" = none) (M_len : mg "len" = none) (D_Trail_size : DfM P w K mg base k C_Trail "size" ["self"] (S_Trail_size C_Trail)) (D__law_tells : Df P w K mg base k "_law_tells" ["_law_trail", "_law_start", "_law_plain", "_law_kept"] (S__law_tells C_Trail)) (D__law_text_by : Df P w K mg base k "_law_text_by" ["_law_cell", "_law_held"] S__law_text_by) (M_sorted : mg "sorted" = none) (D__law_tried : Df P w K mg base k "_law_tried" ["_law_trail", "_law_way", "_law_one", "_law_other", "_law_number"] (S__law_tried C_Trail)) (D__law_due : Df P w K mg base k "_law_due" ["_law_plain", "_law_way", "_law_one", "_law_other", "_law_number"] S__law_due) (D__law_number_by : Df P w K mg base k "_law_number_by" ["_law_cell"] S__law_number_by) (D__law_other_by : Df P w K mg base k "_law_other_by" ["_law_cell", "_law_held"] S__law_other_by) (M_int : mg "int" = none) (D__law_first_deeds : Df P w K mg base k "_law_first_deeds" ["_law_begin", "_law_word"] S__law_first_deeds) (D__law_begun : Df P w K mg base k "_law_begun" ["_law_trail", "_law_past", "_law_way", "_law_word", "_law_more"] (S__law_begun C_Trail)) (D__law_word_by : Df P w K mg base k "_law_word_by" ["_law_cell", "_law_size"] S__law_word_by) (D__law_cell_at : Df P w K mg base k "_law_cell_at" ["_law_script", "_law_k"] S__law_cell_at) (D_Trail___init__ : DfM P w K mg base 1 C_Trail "__init__" ["self"] (S_Trail___init__ C_Trail)) : FnD P w K mg base (k + 1) f fd ["_law_script"] (spOf K mg 1 S_law) := by
  refine okD F scN_law (fun cdv A outer s H E hr => ⟨_, (pss_cons (ps_set (i := 1) scN_law.nd rfl (Or.inl rfl) (pe_mkD0 O_Trail D_Trail___init__ ⟨rfl, rfl, rfl, rfl, rfl⟩ (hr.mono hk2) (takes_of rfl rfl rfl rfl) rfl))
      (pss_cons (ps_set (i := 2) scN_law.nd rfl (Or.inl rfl) (pe_lst pa_nil))
      (pss_cons (ps_set (i := 3) scN_law.nd rfl (Or.inl rfl) (pe_lst pa_nil))
      (pss_cons (ps_set (i := 4) scN_law.nd rfl (Or.inl rfl) (pe_op op_modU (pe_dfK D__law_cell_at ⟨rfl, rfl, rfl, rfl, rfl⟩ hr (takes_of rfl rfl rfl rfl) rfl (pa_cons (pv 0) (pa_cons pe_int pa_nil))) pe_int))
      (pss_cons (ps_set (i := 5) scN_law.nd rfl (Or.inl rfl) (pe_op op_fdvU (pe_dfK D__law_cell_at ⟨rfl, rfl, rfl, rfl, rfl⟩ hr (takes_of rfl rfl rfl rfl) rfl (pa_cons (pv 0) (pa_cons pe_int pa_nil))) pe_int))
      (pss_cons (ps_set (i := 6) scN_law.nd rfl (Or.inl rfl) (pe_dfK D__law_word_by ⟨rfl, rfl, rfl, rfl, rfl⟩ hr (takes_of rfl rfl rfl rfl) rfl (pa_cons (pv 5) (pa_cons pe_int pa_nil))))
      (pss_cons (ps_set (i := 7) scN_law.nd rfl (Or.inl rfl) (pe_dfK D__law_begun ⟨rfl, rfl, rfl, rfl, rfl⟩ hr (takes_of rfl rfl rfl rfl) rfl (pa_cons (pv 1) (pa_cons (pv 2) (pa_cons (pv 4) (pa_cons (pv 6) (pa_cons (pe_op op_modU (pv 5) pe_int) pa_nil)))))))
      (pss_cons (ps_set (i := 8) scN_law.nd rfl (Or.inl rfl) (pe_dfK D__law_first_deeds ⟨rfl, rfl, rfl, rfl, rfl⟩ hr (takes_of rfl rfl rfl rfl) rfl (pa_cons (pv 4) (pa_cons (pv 6) pa_nil))))
      (pss_cons (ps_set (i := 9) scN_law.nd rfl (Or.inl rfl) (pe_ix (ix_K (K := K) rfl) (pe_lst (pa_cons pe_int (pa_cons pe_int pa_nil))) (pe_callTy call_intU (by rfl) M_int (by decide +kernel) (pa_cons (pe_cmpR (op_eqK (K := K) rfl hr.units) (pv 4) pe_int (nomark _)) pa_nil)) (fun _ _ => rfl)))
      (pss_cons (ps_for (passes_of rfl) rfl (pi_enumK (K := K) rfl rfl M_enumerate (pa_cons (pe_slice (sl_K (K := K) rfl) (pv 0) (po_some pe_int) (po_some (pe_op (op_addK (K := K) rfl) pe_int (pv 9)))) pa_nil)) (pg_tupK (K := K) rfl rfl (pgs_cons (pg_name (i := 10) scN_law.nd rfl (Or.inl rfl)) (pgs_cons (pg_name (i := 11) scN_law.nd rfl (Or.inl rfl)) pgs_nil))) (pss_cons (ps_set (i := 12) scN_law.nd rfl (Or.inl rfl) (pe_callB (call_sortedDD hr rfl) (by rfl) M_sorted (by decide +kernel) (pa_cons (pv 7) pa_nil)))
      (pss_cons (ps_set (i := 13) scN_law.nd rfl (Or.inl rfl) (pe_ix (ix_K (K := K) rfl) (pe_lst (pa_cons pe_int (pa_cons pe_int (pa_cons pe_int (pa_cons pe_int (pa_cons pe_int (pa_cons pe_int (pa_cons pe_int (pa_cons pe_int (pa_cons pe_int (pa_cons pe_int pa_nil))))))))))) (pe_op op_modU (pv 11) pe_int) (fun _ _ => rfl)))
      (pss_cons (ps_set (i := 14) scN_law.nd rfl (Or.inl rfl) (pe_dfK D__law_text_by ⟨rfl, rfl, rfl, rfl, rfl⟩ hr (takes_of rfl rfl rfl rfl) rfl (pa_cons (pe_op op_fdvU (pv 11) pe_int) (pa_cons (pv 12) pa_nil))))
      (pss_cons (ps_set (i := 15) scN_law.nd rfl (Or.inl rfl) (pe_dfK D__law_other_by ⟨rfl, rfl, rfl, rfl, rfl⟩ hr (takes_of rfl rfl rfl rfl) rfl (pa_cons (pv 11) (pa_cons (pv 12) pa_nil))))
      (pss_cons (ps_set (i := 16) scN_law.nd rfl (Or.inl rfl) (pe_dfK D__law_number_by ⟨rfl, rfl, rfl, rfl, rfl⟩ hr (takes_of rfl rfl rfl rfl) rfl (pa_cons (pe_op op_fdvU (pv 11) pe_int) pa_nil)))
      (pss_cons (ps_if (pt_cmpR op_ltU (pv 10) (pe_callB (call_lenK (K := K) rfl) (by rfl) M_len PySem.boot_len (pa_cons (pv 8) pa_nil)) (nomark _)) (pss_one (ps_asg (pe_ix (ix_K (K := K) rfl) (pv 8) (pv 10) (fun _ _ => rfl)) (pg_tup rfl (pgs_cons (pg_name (i := 13) scN_law.nd rfl (Or.inl rfl)) (pgs_cons (pg_name (i := 14) scN_law.nd rfl (Or.inl rfl)) (pgs_cons (pg_name (i := 15) scN_law.nd rfl (Or.inl rfl)) pgs_nil)))))) pss_nil)
      (pss_cons (ps_if (PW.pt (pw_and (pt_cmpR (op_inD hr.u1) (pv 14) (pv 7) (by rfl)) (pw_and1 (PW.pt (pw_or (pt_cmpR op_ltU (pv 10) (pe_callB (call_lenK (K := K) rfl) (by rfl) M_len PySem.boot_len (pa_cons (pv 8) pa_nil)) (nomark _)) (pw_or1 (pt_cmpR (op_eqK (K := K) rfl hr.units) (pe_op op_modU (pe_op op_fdvU (pv 11) pe_int) pe_int) pe_int (nomark _)))))))) (pss_one (ps_set (i := 16) scN_law.nd rfl (Or.inl rfl) (pe_dget hr.u1 (pv 7) (pv 14) (fun _ _ => rfl)))) pss_nil)
      (pss_cons (ps_set (i := 17) scN_law.nd rfl (Or.inl rfl) (pe_dfK D__law_due ⟨rfl, rfl, rfl, rfl, rfl⟩ hr (takes_of rfl rfl rfl rfl) rfl (pa_cons (pv 7) (pa_cons (pv 13) (pa_cons (pv 14) (pa_cons (pv 15) (pa_cons (pv 16) pa_nil)))))))
      (pss_cons (ps_if (pt_cmpR (op_eqK (K := K) rfl hr.units) (pv 13) pe_int (nomark _)) (pss_cons (ps_set (i := 17) scN_law.nd rfl (Or.inl rfl) (pe_tup (pa_cons pe_str (pa_cons pe_bl (pa_cons (pv 7) pa_nil)))))
      (pss_one (ps_if (pt_cmpR (op_neK (K := K) rfl hr.units) (pv 2) (pe_lst pa_nil) (nomark _)) (pss_one (ps_set (i := 17) scN_law.nd rfl (Or.inl rfl) (pe_tup (pa_cons pe_str (pa_cons pe_non (pa_cons (pe_bm0 PySem.F.plainAttrs_list PySem.F.slot_list_pop PySem.F.type_list_pop mt_pop (pv 2)) pa_nil)))))) pss_nil))) (pss_one (ps_if (pt_cmpR (op_eqK (K := K) rfl hr.units) (pe_ix (ix_K (K := K) rfl) (pv 17) pe_int (fun _ _ => rfl)) pe_str (nomark _)) (pss_one (ps_expr (pe_bm PySem.F.plainAttrs_list PySem.F.slot_list_append PySem.F.type_list_append mt_append (pv 2) (pa_cons (pv 7) pa_nil)))) pss_nil)))
      (pss_cons (ps_if (pt_not (pt_val (pe_dfK D__law_alike ⟨rfl, rfl, rfl, rfl, rfl⟩ hr (takes_of rfl rfl rfl rfl) rfl (pa_cons (pe_dfK D__law_tried ⟨rfl, rfl, rfl, rfl, rfl⟩ hr (takes_of rfl rfl rfl rfl) rfl (pa_cons (pv 1) (pa_cons (pv 13) (pa_cons (pv 14) (pa_cons (pv 15) (pa_cons (pv 16) pa_nil)))))) (pa_cons (pe_slice (sl_K (K := K) rfl) (pv 17) po_none (po_some pe_int)) pa_nil))))) (pss_one (ps_ret pe_bl)) pss_nil)
      (pss_cons (ps_set (i := 7) scN_law.nd rfl (Or.inl rfl) (pe_ix (ix_K (K := K) rfl) (pv 17) pe_int (fun _ _ => rfl)))
      (pss_cons (ps_set (i := 18) scN_law.nd rfl (Or.inl rfl) (pe_dfK D__law_text_by ⟨rfl, rfl, rfl, rfl, rfl⟩ hr (takes_of rfl rfl rfl rfl) rfl (pa_cons (pe_op op_modU (pe_op op_mulU (pv 11) pe_int) pe_int) (pa_cons (pe_callB (call_sortedDD hr rfl) (by rfl) M_sorted (by decide +kernel) (pa_cons (pv 7) pa_nil)) pa_nil))))
      (pss_cons (ps_if (PW.pt (pw_and (pt_cmpR (op_eqK (K := K) rfl hr.units) (pe_op op_modU (pe_op op_fdvU (pv 11) pe_int) pe_int) pe_int (nomark _)) (pw_and1 (pt_not (pt_val (pe_dfK D__law_alike ⟨rfl, rfl, rfl, rfl, rfl⟩ hr (takes_of rfl rfl rfl rfl) rfl (pa_cons (pe_mthD0 O_Trail.cl D_Trail_size ⟨rfl, rfl, rfl, rfl, rfl⟩ hr (takes_of rfl rfl rfl rfl) (pv 1)) (pa_cons (pe_callB call_lenD (by rfl) M_len PySem.boot_len (pa_cons (pv 7) pa_nil)) pa_nil)))))))) (pss_one (ps_ret pe_bl)) pss_nil)
      (pss_one (ps_if (PW.pt (pw_or (pt_not (pt_val (pe_dfK D__law_tells ⟨rfl, rfl, rfl, rfl, rfl⟩ hr (takes_of rfl rfl rfl rfl) rfl (pa_cons (pv 1) (pa_cons (pv 18) (pa_cons (pv 7) (pa_cons (pv 3) pa_nil))))))) (pw_or1 (pt_not (pt_val (pe_dfK D__law_alike ⟨rfl, rfl, rfl, rfl, rfl⟩ hr (takes_of rfl rfl rfl rfl) rfl (pa_cons (pe_mthD0 O_Trail.cl D_Trail_size ⟨rfl, rfl, rfl, rfl, rfl⟩ hr (takes_of rfl rfl rfl rfl) (pv 1)) (pa_cons (pe_callB call_lenD (by rfl) M_len PySem.boot_len (pa_cons (pv 7) pa_nil)) pa_nil)))))))) (pss_one (ps_ret pe_bl)) pss_nil))))))))))))))))
      (pss_one (ps_ret (pe_and (pe_cmpR (op_eqK (K := K) rfl hr.units) (pe_glob (v := .int 100) (by rfl) G_MOST_NAMES.2 ⟨_, rfl⟩) pe_int (nomark _)) (pe_one (pe_cmpR (op_eqK (K := K) rfl hr.units) (pe_lc (own := [("_law_pair", 19)]) (g := gName 19) rfl scN_law.nd (pi_seqK (K := K) rfl (pv 3)) (blkOk_by (own := [("_law_pair", 19)]) (N := ["_law_script", "_law_trail", "_law_past", "_law_kept", "_law_begin", "_law_more", "_law_word", "_law_plain", "_law_first", "_law_size", "_law_at", "_law_cell", "_law_held", "_law_way", "_law_one", "_law_other", "_law_number", "_law_due_here", "_law_start", "_law_pair"]) (sc := defScope s_law) (by decide +kernel)) (fun _ _ _ _ _ => pg_name (i := 19) scN_law.nd rfl (Or.inl rfl)) (fun _ _ _ _ _ => (pts_one (pt_not (pt_val (pe_dfK D__law_alike ⟨rfl, rfl, rfl, rfl, rfl⟩ hr takes0 rfl (pa_cons (pe_ix (ix_K (K := K) rfl) (pv 19) pe_int (fun _ _ => rfl)) (pa_cons (pe_ix (ix_K (K := K) rfl) (pv 19) pe_int (fun _ _ => rfl)) pa_nil))))))) (fun _ _ _ _ _ => (pv 19))) (pe_lst pa_nil) (nomark _)))))))))))))))), ?_⟩)
  try dsimp only [cxOf]
  intro H0 ds μ kk ex hW h
  obtain ⟨ns, rfl, qq⟩ := h
  walk_at "env"
  -- a trail, two lists
  refine wp_seq (wp_set (wp_mk hW (wp_nil ⟨rfl, fun a dx => ?_⟩)))
  refine ⟨a, dx, μ, rfl, rfl, fun pt => ⟨rfl, ?_⟩⟩
  walk_at "set"
  refine wp_seq (wp_set (wp_lstC (wp_nil ⟨sz_le (by simp), fun q => ?_⟩)))
  walk_at "set"
  refine wp_seq (wp_set (wp_lstC (wp_nil ⟨sz_le (by simp), fun r => ?_⟩)))
  walk_at "set"
  refine wpS_nd fun nd => ?_
  have nd' : ([r, q, pt, a, dx] : List Addr).Nodup := (List.nodup_append.mp (show (([r, q, pt, a, dx] : List Addr) ++ keys μ).Nodup from nd)).1
  simp only [List.nodup_cons, List.mem_cons, List.not_mem_nil, or_false, not_or] at nd'
  obtain ⟨⟨r1, r2, r3, _⟩, ⟨s1, _, _⟩, _⟩ := nd'
  have hA : TrA C_Trail a dx pt none [] ((r, .lst []) :: (q, .lst []) :: (pt, .lst []) :: (a, .ins C_Trail dx (tfs .non (.ref pt))) :: (dx, .own a) :: μ) := ⟨by simp [encO], by simp⟩
  have hq : (q, DCell.lst []) ∈ ((r, .lst []) :: (q, .lst []) :: (pt, .lst []) :: (a, .ins C_Trail dx (tfs .non (.ref pt))) :: (dx, .own a) :: μ) := by simp
  have hr : (r, DCell.lst []) ∈ ((r, .lst []) :: (q, .lst []) :: (pt, .lst []) :: (a, .ins C_Trail dx (tfs .non (.ref pt))) :: (dx, .own a) :: μ) := by simp
  clear nd
  generalize ((r, DCell.lst []) :: (q, .lst []) :: (pt, .lst []) :: (a, .ins C_Trail dx (tfs .non (.ref pt))) :: (dx, .own a) :: μ) = μ0 at hA hq hr
  -- how it begins
  refine wp_seq (wp_set (wp_op (wp_call hW ?_)))
  walk_at "r"
  refine ⟨rfl, ns, _, rfl, by decide, fun c0 => ?_⟩
  walk_at "r"
  refine wp_call hW ?_
  walk_at "r"
  refine ⟨rfl, ns, _, rfl, by decide, fun c1 => ?_⟩
  walk_at "r"
  refine wp_call hW ?_
  walk_at "r"
  refine ⟨rfl, _, _, rfl, by decide, by decide, fun x hx hxo => ?_⟩
  have hx' : x.length = 40 := by rw [hx]; rfl
  walk_at "set"
  generalize c0 % 8 = b0
  generalize c1 / 8 = m0
  have bm := emod_bd m0 (b := 4) (by decide)
  refine wp_seq (wp_set (wp_call hW ?_))
  walk_at "r"
  refine ⟨rfl, a, dx, pt, q, _, _, x, rfl, hA, hq, s1, hx', hxo, bm.1, by omega, fun p R o past ps μ1 W hl fr => ?_⟩
  have hr1 := fr _ hr r3 r2 r1
  walk_at "set"
  refine wp_seq (wp_set (wp_call hW ?_))
  walk_at "r"
  refine ⟨rfl, _, x, rfl, hx', hxo, fun F hF hFo => ?_⟩
  walk_at "set"
  refine wp_mid (fun ρ' μ' => μ' = μ1 ∧ ∃ N : Nat, N ≤ 40 ∧ ρ' = [some (.scr ns), some (.ref a), some (.ref q), some (.ref r), some (.int b0), some (.int m0), some (.str x), some (.ref p), some (.lst (F.map encF)), some (.int (N : Nat)), none, none, none, none, none, none, none, none, none, none]) ?_ ?_
  · walk_at "r"
    by_cases h1 : b0 = 1
    · rw [decide_eq_true h1]
      exact wr_ixL isL_d rfl ⟨rfl, 8, by decide, rfl⟩
    · rw [decide_eq_false h1]
      exact wr_ixL isL_d rfl ⟨rfl, 40, by decide, rfl⟩
  rintro ρ' μ' ⟨rfl, N, hN40, rfl⟩
  have hLw : Lw C_Trail a dx pt q r o past p R ps [] μ' := ⟨W, hr1, (fun d h => nomatch h), r2, r1⟩
  clear hA hq hr fr W hr1
  -- the deeds
  refine wp_mid (fun ρ' μ' => ∃ (o : Option Tr) (past : List (Option Tr)) (p : Addr) (R : List Rw) (ps : List Addr) (ls : List Dv) (z10 z11 z12 z13 z14 z15 z16 z17 z18 : Option Dv), Lw C_Trail a dx pt q r o past p R ps ls μ' ∧ ls.length ≤ 100 ∧ ρ' = [some (.scr ns), some (.ref a), some (.ref q), some (.ref r), some (.int b0), some (.int m0), some (.str x), some (.ref p), some (.lst (F.map encF)), some (.int (N : Nat)), z10, z11, z12, z13, z14, z15, z16, z17, z18, none]) ?_ ?_
  · refine wp_for2 (wi_enum ?_)
    walk_at "r"
    generalize hcs : cutL ns (some 1) (some (1 + (N : Int))) = cs
    have hcl : cs.length ≤ 40 := by
      rw [← hcs, show (1 : Int) + ((N : Nat) : Int) = ((1 + N : Nat) : Int) by omega, show (1 : Int) = ((1 : Nat) : Int) from rfl, cutL_mid, List.length_take]
      omega
    refine ⟨_, rfl, fun i ρ' μ' => i ≤ cs.length ∧ ∃ (o : Option Tr) (past : List (Option Tr)) (p : Addr) (R : List Rw) (ps : List Addr) (ls : List Dv) (z10 z11 z12 z13 z14 z15 z16 z17 z18 : Option Dv), Lw C_Trail a dx pt q r o past p R ps ls μ' ∧ past.length ≤ 100 + i ∧ ls.length ≤ i ∧ ρ' = [some (.scr ns), some (.ref a), some (.ref q), some (.ref r), some (.int b0), some (.int m0), some (.str x), some (.ref p), some (.lst (F.map encF)), some (.int (N : Nat)), z10, z11, z12, z13, z14, z15, z16, z17, z18, none], ⟨Nat.zero_le _, o, past, p, R, ps, [], _, _, _, _, _, _, _, _, _, hLw, hl, Nat.le_refl _, rfl⟩, ?_, ?_⟩
    · clear hLw hl
      rintro i d ρ' μ1 hd ⟨hi, o, past, p, R, ps, ls, z10, z11, z12, z13, z14, z15, z16, z17, z18, hw, hl, hls, rfl⟩
      rw [enumD_get, List.getElem?_map] at hd
      cases ec : cs[i]? with
      | none => rw [ec] at hd; cases hd
      | some c =>
      rw [ec] at hd
      cases hd
      have hlt : i < cs.length := (List.getElem?_eq_some_iff.mp ec).1
      refine ⟨_, _, rfl, ?_⟩
      rw [Nat.zero_add]
      walk_at "set"
      have W := hw.w
      have hO := W.ok
      have hN := hO.n
      have pd := W.pd
      have hRl : R.length = (namesO o).length := pd.pm.length_eq
      -- the names that are kept
      refine wp_seq (wp_set (wp_cb (wp_cons (wp_var rfl (wp_nil (wc_sortD (.inl W.at_) (by omega) pd.ks.1 pd.ks.2 ?_))))))
      walk_at "set"
      have hHl : ∀ h ∈ (namesO o).map (·.1), h.length ≤ 40 := fun h hh => by
        obtain ⟨r, hr, rfl⟩ := List.mem_map.mp hh
        exact pd.len r hr
      have hHc : ∀ h ∈ (namesO o).map (·.1), h.all okc = true := fun h hh => by
        obtain ⟨r, hr, rfl⟩ := List.mem_map.mp hh
        exact hO.sg _ (row_get hO hr)
      have hHn : ((namesO o).map (·.1)).length ≤ 1000 := by rw [List.length_map]; omega
      generalize hHH : (namesO o).map (·.1) = Hh at hHl hHc hHn
      -- the deed
      obtain ⟨way0, ew, w00, w01⟩ := way_at (c := c)
      have ewl : [Dv.int 0, .int 0, .int 0, .int 1, .int 2, .int 3, .int 3, .int 4, .int 4, .int 5] = wayL.map Dv.int := rfl
      refine wp_seq (wp_set (wp_op ?_))
      walk_at "r"
      rw [ewl]
      refine wr_ixL isL_d ew ?_
      walk_at "set"
      refine wp_seq (wp_set (wp_call hW ?_))
      walk_at "r"
      refine ⟨rfl, _, Hh, rfl, hHl, hHn, fun d10 hd10 => ?_⟩
      walk_at "set"
      refine wp_seq (wp_set (wp_call hW ?_))
      walk_at "r"
      refine ⟨rfl, _, Hh, rfl, hHl, hHn, fun d20 hd20 => ?_⟩
      walk_at "set"
      have t10 := hd10.tq hHc
      have t20 := hd20.tq hHc
      refine wp_seq (wp_set (wp_call hW ?_))
      walk_at "r"
      refine ⟨rfl, _, rfl, ?_⟩
      walk_at "set"
      -- a told one
      refine wp_mid (fun ρ' μ' => μ' = μ1 ∧ ∃ (way : Int) (d1 d2 : Dv) (v : Int), 0 ≤ way ∧ way ≤ 5 ∧ Tq d1 ∧ Tq d2 ∧ ρ' = [some (.scr ns), some (.ref a), some (.ref q), some (.ref r), some (.int b0), some (.int m0), some (.str x), some (.ref p), some (.lst (F.map encF)), some (.int (N : Nat)), some (.int (i : Nat)), some (.int c), some (.lst (Hh.map Dv.str)), some (.int way), some d1, some d2, some (.int v), z17, z18, none]) ?_ ?_
      · refine wp_if ?_
        walk_at "r"
        refine iteD (fun c1 => ?_) (fun c1 => ?_)
        · rw [List.length_map] at c1
          have hiF : i < F.length := by omega
          have eF : F[i]? = some F[i] := List.getElem?_eq_getElem hiF
          obtain ⟨f1, f2, f3, f4⟩ := hFo F[i] (List.getElem_mem hiF)
          generalize F[i] = ff at eF f1 f2 f3 f4
          refine wp_unpack (wp_op (wp_var rfl (wp_var rfl (wr_ixL (d := encF ff) isL_d (by rw [atV, List.getElem?_map, eF]; rfl) ?_))))
          refine ⟨_, rfl, rfl, fun H1 => wg_cons (wg_cons (wg_cons (wg_nil ?_)))⟩
          walk_at "set"
          exact ⟨rfl, ff.1, ff.2.1, ff.2.2, _, f1, by omega, f3, f4, rfl⟩
        · refine wp_next ?_
          exact ⟨rfl, way0, d10, d20, _, w00, w01, t10, t20, rfl⟩
      rintro ρ' μ' ⟨eμ, way, d1, d2, v0, w0, w5, t1, t2, rfl⟩
      obtain rfl : μ1 = μ' := eμ.symm
      clear t10 t20 hd10 hd20
      -- its number
      refine wp_mid (fun ρ' μ' => μ' = μ1 ∧ ∃ v : Int, ρ' = [some (.scr ns), some (.ref a), some (.ref q), some (.ref r), some (.int b0), some (.int m0), some (.str x), some (.ref p), some (.lst (F.map encF)), some (.int (N : Nat)), some (.int (i : Nat)), some (.int c), some (.lst (Hh.map Dv.str)), some (.int way), some d1, some d2, some (.int v), z17, z18, none]) ?_ ?_
      · refine wp_if (wp_and (wp_test (wp_op (wp_var rfl (wp_var rfl (wr_inT t1 (.inl W.at_) ⟨_, rfl, ?_⟩ fun y n ey en => ⟨_, rfl, ?_⟩))))))
        · refine iteF (iteF (wp_next ?_))
          exact ⟨rfl, v0, rfl⟩
        · subst ey
          refine iteT ?_
          refine wp_or ?_
          walk_at "r"
          refine iteD (fun _ => ?_) (fun _ => ?_)
          · refine iteT ?_
            refine wp_set (wp_dget (wp_var rfl (wp_var rfl ⟨p, R, y, n, rfl, rfl, .inl W.at_, en, ?_⟩)))
            exact ⟨rfl, n, rfl⟩
          · walk_at "r"
            refine iteD (fun _ => ?_) (fun _ => ?_)
            · refine wp_set (wp_dget (wp_var rfl (wp_var rfl ⟨p, R, y, n, rfl, rfl, .inl W.at_, en, ?_⟩)))
              exact ⟨rfl, n, rfl⟩
            · refine wp_next ?_
              exact ⟨rfl, v0, rfl⟩
      rintro ρ' μ' ⟨eμ, v, rfl⟩
      obtain rfl : μ1 = μ' := eμ.symm
      -- due, done, alike
      refine wp_mid4 (fun ρ' μ' => ∃ (o : Option Tr) (past' : List (Option Tr)) (p : Addr) (R : List Rw) (ps : List Addr) (z17 : Option Dv), Lw C_Trail a dx pt q r o past' p R ps ls μ' ∧ past'.length ≤ past.length + 1 ∧ ρ' = [some (.scr ns), some (.ref a), some (.ref q), some (.ref r), some (.int b0), some (.int m0), some (.str x), some (.ref p), some (.lst (F.map encF)), some (.int (N : Nat)), some (.int (i : Nat)), some (.int c), some (.lst (Hh.map Dv.str)), some (.int way), some d1, some d2, some (.int v), z17, z18, none]) ?_ ?_
      · refine wp_set (wp_call hW ?_)
        refine wp_cons (wp_var rfl (wp_cons (wp_var rfl (wp_cons (wp_var rfl (wp_cons (wp_var rfl (wp_cons (wp_var rfl (wp_nil ?_))))))))))
        refine ⟨rfl, p, R, namesO o, way, v, d1, d2, rfl, pd, w0, w5, t1, t2, ?_⟩
        by_cases c5 : way = 5
        · -- taken back
          subst c5
          refine due_any fun zd μ2 hs => ?_
          have W2 := W.up hs
          have kp2 := hs _ hw.kp
          walk_at "set"
          refine wp_if (wp_test (wp_op (wp_var rfl (wp_int (wr_eqI ⟨_, rfl, ?_⟩)))))
          refine iteD (fun _ => ?_) (fun z => absurd rfl z)
          refine wp_seq (wp_set (wp_tup (wp_cons (wp_str (wp_cons (wp_bl (wp_cons (wp_var rfl (wp_nil ⟨sz_le (by simp), ?_⟩)))))))))
          rw [← word5]
          walk_at "set"
          refine wp_if (wp_test (wp_op (wp_var rfl (wp_lst (wp_nil ⟨sz_le (by simp), wr_neN (isL_c W2.qq) isL_d ⟨_, rfl, ?_⟩⟩)))))
          rw [isEmpty_map']
          rcases List.eq_nil_or_concat ps with eps | ⟨ps', l, eps⟩
          · subst eps
            have epa : past = [] := List.length_eq_zero_iff.mp (by rw [← W.len]; rfl)
            subst epa
            refine iteF (wp_next ?_)
            refine wp_if (wp_not (wp_test (wp_call hW (wp_cons (wp_call hW ?_)))))
            refine wp_cons (wp_var rfl (wp_cons (wp_var rfl (wp_cons (wp_var rfl (wp_cons (wp_var rfl (wp_cons (wp_var rfl (wp_nil ?_))))))))))
            refine ⟨rfl, a, dx, pt, o, [], 5, v, d1, d2, rfl, W2.tr, hO, by simp, .inr (.inr ⟨rfl, fun _ => ?_, fun ps' o' e => by simp at e⟩)⟩
            refine wp_cons (wp_sl (wp_var rfl (wo_no (wo_part (wp_int ⟨_, rfl, wx_tup (wp_nil ?_)⟩)))))
            rw [take2]
            refine ⟨rfl, _, _, rfl, .same _, (ref_al 5).1, by decide, ?_⟩
            refine ⟨_, rfl, iteF (wp_next ?_)⟩
            refine wp_set (wp_op (wp_var rfl (wp_int (wr_ixT (d := .ref p) rfl ?_))))
            exact ⟨o, [], p, R, [], _, ⟨W2, kp2, hw.kk, hw.rpt, hw.rq⟩, by simp, rfl⟩
          · rw [List.concat_eq_append] at eps
            subst eps
            rcases List.eq_nil_or_concat past with epa | ⟨past', y, epa⟩
            · subst epa
              have := W.len
              simp at this
            rw [List.concat_eq_append] at epa
            subst epa
            have hne : (ps' ++ [l]).isEmpty = false := by cases ps' <;> rfl
            rw [hne]
            have hq2 := W2.qq
            rw [List.map_append] at hq2
            refine iteT ?_
            refine wp_set (wp_tup (wp_cons (wp_str (wp_cons (wp_non (wp_cons (wp_popM (wp_var rfl ⟨q, ps'.map Dv.ref, .ref l, rfl, hq2, fun μ3 m3 o3 => wp_nil ⟨sz_le (by simp), ?_⟩⟩))))))))
            rw [← word_told]
            walk_at "set"
            have tr3 : TrA C_Trail a dx pt o (past' ++ [y]) μ3 := ⟨o3 _ W2.tr.ins ne_il, o3 _ W2.tr.lst (ne_a fun z => W2.qpt z.symm)⟩
            refine wp_if (wp_not (wp_test (wp_call hW (wp_cons (wp_call hW ?_)))))
            refine wp_cons (wp_var rfl (wp_cons (wp_var rfl (wp_cons (wp_var rfl (wp_cons (wp_var rfl (wp_cons (wp_var rfl (wp_nil ?_))))))))))
            refine ⟨rfl, a, dx, pt, o, past' ++ [y], 5, v, d1, d2, rfl, tr3, hO, by omega, .inr (.inr ⟨rfl, (fun e => by simp at e), fun ps2 o2 e μ4 h4 r4 => ?_⟩)⟩
            obtain ⟨e1, e2⟩ := List.append_inj' e rfl
            cases e2
            subst e1
            obtain ⟨R', W4⟩ := W2.back m3 o3 h4 r4
            have kp4 := r4 _ (o3 _ kp2 (ne_a hw.rq)) ne_li (ne_a hw.rpt)
            refine wp_cons (wp_sl (wp_var rfl (wo_no (wo_part (wp_int ⟨_, rfl, wx_tup (wp_nil ?_)⟩)))))
            rw [take2]
            refine ⟨rfl, _, _, rfl, .same _, (tol_al none).1, by decide, ?_⟩
            refine ⟨_, rfl, iteF (wp_next ?_)⟩
            refine wp_set (wp_op (wp_var rfl (wp_int (wr_ixT (d := .ref l) rfl ?_))))
            exact ⟨y, past', l, R', ps', _, ⟨W4, kp4, hw.kk, hw.rpt, hw.rq⟩, by rw [List.length_append, List.length_singleton]; omega, rfl⟩
        · -- a deed
          have w4 : way ≤ 4 := by omega
          cases hD : dueO (namesO o) way d1 d2 v with
          | no n =>
            refine fun μ2 hs => ?_
            have W2 := W.up hs
            have kp2 := hs _ hw.kp
            walk_at "set"
            refine wp_if (wp_test (wp_op (wp_var rfl (wp_int (wr_eqI ⟨_, rfl, ?_⟩)))))
            refine iteD (fun z => absurd z c5) (fun _ => ?_)
            refine wp_if (wp_test (wp_op (wp_op (wp_var rfl (wp_int (wr_ixT (d := .str (wordN n)) rfl (wp_str (wr_eqS ⟨_, rfl, ?_⟩))))))))
            rw [← word_told]
            refine iteD (fun z => absurd z (word_not n)) (fun _ => wp_next ?_)
            refine wp_if (wp_not (wp_test (wp_call hW (wp_cons (wp_call hW ?_)))))
            refine wp_cons (wp_var rfl (wp_cons (wp_var rfl (wp_cons (wp_var rfl (wp_cons (wp_var rfl (wp_cons (wp_var rfl (wp_nil ?_))))))))))
            refine ⟨rfl, a, dx, pt, o, past, way, v, d1, d2, rfl, W2.tr, hO, by omega, .inl ⟨w0, w4, t1, t2, ?_⟩⟩
            rw [hD]
            refine wp_cons (wp_sl (wp_var rfl (wo_no (wo_part (wp_int ⟨_, rfl, wx_tup (wp_nil ?_)⟩)))))
            rw [take2]
            refine ⟨rfl, _, _, rfl, .same _, (ref_al n).1, Nat.le_trans (ref_al n).2 (by decide), ?_⟩
            refine ⟨_, rfl, iteF (wp_next ?_)⟩
            refine wp_set (wp_op (wp_var rfl (wp_int (wr_ixT (d := .ref p) rfl ?_))))
            exact ⟨o, past, p, R, ps, _, ⟨W2, kp2, hw.kk, hw.rpt, hw.rq⟩, by omega, rfl⟩
          | yes a' f' =>
            refine fun μ2 g R' hs hg nk' lk' => ?_
            have W2 := W.up hs
            have kp2 := hs _ hw.kp
            walk_at "set"
            refine wp_if (wp_test (wp_op (wp_var rfl (wp_int (wr_eqI ⟨_, rfl, ?_⟩)))))
            refine iteD (fun z => absurd z c5) (fun _ => ?_)
            refine wp_if (wp_test (wp_op (wp_op (wp_var rfl (wp_int (wr_ixT (d := .str (tX "told")) rfl (wp_str (wr_eqS ⟨_, rfl, ?_⟩))))))))
            rw [← word_told]
            refine iteD (fun _ => ?_) (fun z => absurd rfl z)
            refine wp_drop (wp_appM (wp_var rfl ⟨q, _, rfl, W2.qq, wp_var rfl ⟨_, W2.qq, sz_lt (by rw [List.length_map, W2.len]; omega), fun μ3 m3 o3 => ?_⟩⟩))
            have tr3 : TrA C_Trail a dx pt o past μ3 := ⟨o3 _ W2.tr.ins ne_il, o3 _ W2.tr.lst (ne_a fun z => W2.qpt z.symm)⟩
            refine wp_if (wp_not (wp_test (wp_call hW (wp_cons (wp_call hW ?_)))))
            refine wp_cons (wp_var rfl (wp_cons (wp_var rfl (wp_cons (wp_var rfl (wp_cons (wp_var rfl (wp_cons (wp_var rfl (wp_nil ?_))))))))))
            refine ⟨rfl, a, dx, pt, o, past, way, v, d1, d2, rfl, tr3, hO, by omega, .inl ⟨w0, w4, t1, t2, ?_⟩⟩
            rw [hD]
            refine fun o' tok hg' μ4 h4 r4 => ?_
            have W4 := W2.deed hg nk' (fun z => by rw [lk', hg']) tok m3 o3 h4 r4
            have kp4 := r4 _ (o3 _ kp2 (ne_a hw.rq)) ne_li (ne_a hw.rpt)
            refine wp_cons (wp_sl (wp_var rfl (wo_no (wo_part (wp_int ⟨_, rfl, wx_tup (wp_nil ?_)⟩)))))
            rw [take2]
            refine ⟨rfl, _, _, rfl, .same _, (tol_al a').1, Nat.le_trans (tol_al a').2 (by decide), ?_⟩
            refine ⟨_, rfl, iteF (wp_next ?_)⟩
            refine wp_set (wp_op (wp_var rfl (wp_int (wr_ixT (d := .ref g) rfl ?_))))
            exact ⟨o', past ++ [o], g, R', ps ++ [p], _, ⟨W4, kp4, hw.kk, hw.rpt, hw.rq⟩, by rw [List.length_append, List.length_singleton]; omega, rfl⟩
      clear W hO hN pd hRl hHl hHc hHn hw
      rintro ρ' μ2 ⟨o', past', p', R', ps', z17', hw, hl', rfl⟩
      have W := hw.w
      have hO := W.ok
      have hN := hO.n
      have pd := W.pd
      have hRl : R'.length = (namesO o').length := pd.pm.length_eq
      have hHl : ∀ h ∈ (namesO o').map (·.1), h.length ≤ 40 := fun h hh => by
        obtain ⟨r, hr, rfl⟩ := List.mem_map.mp hh
        exact pd.len r hr
      have hHc : ∀ h ∈ (namesO o').map (·.1), h.all okc = true := fun h hh => by
        obtain ⟨r, hr, rfl⟩ := List.mem_map.mp hh
        exact hO.sg _ (row_get hO hr)
      have hHn : ((namesO o').map (·.1)).length ≤ 1000 := by rw [List.length_map]; omega
      -- a drawn beginning
      refine wp_seq (wp_set (wp_call hW (wp_cons (wp_op (wp_op ?_)))))
      walk_at "r"
      refine wc_sortD (.inl W.at_) (by omega) pd.ks.1 pd.ks.2 ?_
      refine wp_nil ?_
      refine ⟨rfl, _, (namesO o').map (·.1), rfl, hHl, hHn, fun d3 hd3 => ?_⟩
      have t3 := hd3.tq hHc
      walk_at "set"
      -- how many
      have sz : ∀ {ρ : DEnv} {μ' : DMem} {kb : Bool → DMem → Prop} {Wx : WX} {exx : Str → DEnv → DMem → Prop}, Wok K H0 mg Wx exx → ρ[1]? = some (some (.ref a)) → ρ[7]? = some (some (.ref p')) → Wd C_Trail a dx pt q o' past' p' R' ps' μ' → kb false μ' →
          wpT K H0 (tNot (tTest (tCallS (spOf K mg 2 (S__law_alike 250)) (WE Wx) (tCons (tMthS C_Trail "size" (spOf K mg 1 (S_Trail_size C_Trail)) (WE Wx) (tVar 1) tNil) (tCons (tCB rLenD (tCons (tVar 7) tNil)) tNil))))) ρ μ' kb := fun {ρ μ' kb Wx exx} hWx h1 h7 Wm hk => by
        refine wp_not (wp_test (wp_call hWx (wp_cons (wp_mth hWx (wp_var h1 ⟨a, dx, _, rfl, Wm.tr.ins, lk_no _ _ (by decide +kernel) (by decide +kernel), wp_nil ⟨rfl, a, dx, pt, o', past', rfl, Wm.tr, Wm.ok, ?_⟩⟩)))))
        refine wp_cons (wp_cb (wp_cons (wp_var h7 (wp_nil (wc_lenD (.inl Wm.at_) (wp_nil ?_))))))
        rw [hRl]
        refine ⟨rfl, _, _, rfl, .same _, rfl, (show 1 ≤ 250 by decide), ?_⟩
        exact ⟨_, rfl, hk⟩
      refine wp_mid (fun ρ' μ' => μ' = μ2 ∧ ρ' = [some (.scr ns), some (.ref a), some (.ref q), some (.ref r), some (.int b0), some (.int m0), some (.str x), some (.ref p'), some (.lst (F.map encF)), some (.int (N : Nat)), some (.int (i : Nat)), some (.int c), some (.lst (Hh.map Dv.str)), some (.int way), some d1, some d2, some (.int v), z17', some d3, none]) ?_ ?_
      · refine wp_if (wp_and ?_)
        walk_at "r"
        refine iteD (fun _ => ?_) (fun _ => ?_)
        · exact sz hW rfl rfl W (iteF (wp_next ⟨rfl, rfl⟩))
        · refine iteF (wp_next ?_)
          exact ⟨rfl, rfl⟩
      rintro ρ' μ' ⟨eμ, rfl⟩
      obtain rfl : μ2 = μ' := eμ.symm
      -- what is told
      refine wp_if (wp_or (wp_not (wp_test (wp_call hW ?_))))
      refine wp_cons (wp_var rfl (wp_cons (wp_var rfl (wp_cons (wp_var rfl (wp_cons (wp_var rfl (wp_nil ?_))))))))
      refine ⟨rfl, a, dx, pt, o', past', p', r, R', ls, d3, rfl, W.tr, hO, by omega, t3, pd, hw.kp, by omega, hw.rpt, fun μ3 ls' e3 m3 o3 => ?_⟩
      refine ⟨_, rfl, iteF ?_⟩
      have W3 := W.fr hw.rpt hw.rq o3
      refine sz hW rfl rfl W3 (iteF (wp_next ?_))
      refine ⟨hlt, o', past', p', R', ps', ls', _, _, _, _, _, _, _, _, _, ⟨W3, m3, fun d hd => ?_, hw.rpt, hw.rq⟩, by omega, ?_, rfl⟩
      · rcases e3 with e3 | e3 <;> rw [e3] at hd
        · exact hw.kk d hd
        · rcases List.mem_append.mp hd with hd | hd
          · exact hw.kk d hd
          · exact ⟨namesO o', List.mem_singleton.mp hd, hN⟩
      · rcases e3 with e3 | e3 <;> rw [e3]
        · omega
        · rw [List.length_append, List.length_singleton]; omega
    · clear hLw hl
      rintro ρ' μ1 ⟨hi, o, past, p, R, ps, ls, z10, z11, z12, z13, z14, z15, z16, z17, z18, hw, hl, hls, rfl⟩
      exact ⟨o, past, p, R, ps, ls, z10, z11, z12, z13, z14, z15, z16, z17, z18, hw, by omega, rfl⟩
  clear hLw hl
  rintro ρ' μ1 ⟨o, past, p, R, ps, ls, z10, z11, z12, z13, z14, z15, z16, z17, z18, hw, hls, rfl⟩
  have hkp := hw.kp
  have hkk := hw.kk
  clear hw
  obtain ⟨μa, μb, rfl⟩ := List.append_of_mem hkp
  refine wp_frz (i := 3) μa μb rfl rfl ?_
  walk_at "set"
  refine wp_ret (wp_andV (wp_op (wp_int (wp_int (wr_eqI ⟨_, rfl, iteT ?_⟩)))))
  refine wp_op (wp_lc (wi_seq (wp_var rfl ⟨ls, .inl rfl, [], ⟨Dv, ls, fun _ => false, id, id, (List.map_id _).symm, sz_le (by omega), fun d hd μ' => ?_, (fun d hd z => nomatch z), ?_⟩, ?_⟩)))
  · obtain ⟨L, rfl, hL⟩ := hkk d hd
    obtain ⟨u1, u2⟩ := rows_al L (by omega)
    walk_at "set"
    refine wp_not (wp_test (wp_call wok0 ?_))
    refine wp_cons (wp_op (wp_var rfl (wp_int (wr_ixT (d := .lst (L.map encR)) rfl ?_))))
    refine wp_cons (wp_op (wp_var rfl (wp_int (wr_ixT (d := .lst (L.map encR)) rfl (wp_nil ?_)))))
    refine ⟨rfl, _, _, rfl, .same _, u1, Nat.le_trans u2 (by decide), ?_⟩
    exact ⟨_, rfl, rfl, rfl⟩
  · rw [List.filter_eq_nil_iff.mpr fun _ _ => by decide]
    rfl
  · refine wp_lst (wp_nil ⟨sz_le (by simp), wr_eqN isL_d isL_d ?_⟩)
    exact qq _
end
theorem law_of (ns : List Int) (_hl : ns.length ≤ 63) {ex : Str → DMem → Prop} : S_law [.scr ns] [] (fun d _ => d = .bl true) ex := ⟨ns, rfl, fun _ => rfl⟩
/-- an error class of the text as the laws ask it: raised, caught by its own name, a TrailError and a ValueError -/
structure Err (K : PySem.W.Frag) (mg : Str → Option Value) (x : Str) (C T : Addr) : Prop where
  rz : RaiseOk K mg x C
  ec : ExcC K C
  kt : PySem.W.kitOne K (.ref C) (.ref T) = some true
  kv : PySem.W.kitOne K (.ref C) (.type "ValueError") = some true
  ex : PySem.W.exmOne K (.ref C) (.ref C) = some true
/-- what a suite asks of the error that it holds -/
theorem wp_asked {K : PySem.W.Frag} {mg : Str → Option Value} {H0 : Hp} {ρ : DEnv} {μ : DMem} {x : Str} {C T a : Addr} {i : Nat} {P : Post} (Er : Err K mg x C T) (hi : ρ[i]? = some (some (.ref a))) (q : P.rt (.bl true) μ) :
    wpS K H0 (tRet (tAndV (tCB (rIsS K (.ref C) none a) (tCons (tVar i) (tCons (tC (.ref T)) tNil))) (tCB (rIsS K (.ref C) none a) (tCons (tVar i) (tCons (tC (.ty "ValueError")) tNil))))) ρ μ P := by
  refine wp_ret (wp_andV (wp_isS Er.ec (cv := .ref T) (fun u h => h) Er.kt hi ?_))
  refine ⟨true, rfl, iteT ?_⟩
  exact wp_isS Er.ec (cv := .type "ValueError") (fun u h => h) Er.kv hi q
theorem Df.zero {P : Program} {w : World} {K : PySem.W.Frag} {mg : Str → Option Value} {base : Heap} {k : Nat} {x qual : Str} {st : Stmt} {f : Addr} {fd : FuncData} {ps : List Str} {S : Spc} (F : Fun K x qual st f fd) (hm : mg x = some (.ref f)) (b : Binds K fd ps []) (h : ∀ ds μ kk ex, ¬ S ds μ kk ex) : Df P w K mg base k x ps S :=
  ⟨f, fd, ⟨fun vs H Q E ⟨ds, μ, kk, ex, _, _, _, z, _⟩ => absurd z (h ds μ kk ex), fun A outer s H args us vs Q E _ _ _ _ ⟨ds, μ, kk, ex, _, _, _, z, _⟩ => absurd z (h ds μ kk ex)⟩, hm, F.kp, b⟩
/-- what the law promises -/
def spLaw (K : PySem.W.Frag) : Sp := fun vs H Q _ => ∃ (a : Addr) (ns : List Int), vs = [.ref a] ∧ SqL K H a (ns.map V.int) ∧ ns.length ≤ 63 ∧ ∀ H', Q (.bl true) H'
theorem law_end {P : Program} {w : World} {K : PySem.W.Frag} {mg : Str → Option Value} {base : Heap} {k j : Nat} {f : Addr} {fd : FuncData} (hj : k + 3 ≤ 3 * j) (hj2 : 5 * k + 50 ≤ 16 * j) (F0 : FnD P w K mg base k f fd ["_law_script"] (spOf K mg 1 S_law)) : FnOk P w K mg base (L2.CX P w) j f fd ["_law_script"] (spLaw K) := by
  have F := F0.ok hj hj2
  have q : ∀ vs H Q E, spLaw K vs H Q E → spOf K mg 1 S_law vs H Q E := fun vs H Q E ⟨a, ns, e, hS, hl, hQ⟩ => by
    subst e
    refine ⟨[.scr ns], [], fun d _ => d = .bl true, fun _ _ => False, rfl, .cons (.scr (by show SqL K (hid H []) a _; rw [hid_nil]; exact hS)) .nil, ⟨.nil, fun _ h => nomatch h⟩, law_of ns hl, fun d μ' v H' hd M g r => ?_, fun _ _ _ _ z => z.elim⟩
    subst hd
    rw [r.bl_inv]
    exact hQ H'
  exact ⟨fun vs H Q E z => F.len vs H Q E (q vs H Q E z), fun A outer s H args us vs Q E hr h1 h2 h3 z => F.run A outer s H args us vs Q E hr h1 h2 h3 (q _ _ _ _ z)⟩
theorem no_law_raise {l : PySem.W.OpenLaw} : ∀ (w : World) (H : Hp) (s : Shared) (e : Value) (s' : Shared), L2.CX l.prog w [] H s (fun _ _ _ => False) e s' → False := fun w H s e s' h => by
  obtain ⟨_, _, _, _, _, _, _, _, _, _, _, _, z⟩ := h
  exact z.elim
theorem all_mk {l : PySem.W.OpenLaw} {w : World} {K : PySem.W.Frag} {h : Heap} {mg : Str → Option Value} {fa f0 f1 f2 f3 f4 f5 f6 f7 f8 f9 f10 f11 f12 f13 f14 f15 f16 f17 f18 f19 f20 f21 f22 f23 f24 f25 f26 f27 f28 f29 f30 f31 f32 f33 f34 f35 f36 f37 f38 f39 f40 f41 f42 f43 f44 f45 f46 f47 f48 f49 f50 : Addr} (X : K.In h) (G : h.Ns mainGlobals mg) (hfa : mg "law" = some (.ref fa))
    {od0 an0 od1 an1 od2 an2 od3 an3 od4 an4 od5 an5 od6 an6 od7 an7 od8 an8 od9 an9 od10 an10 od11 an11 od12 an12 od13 an13 od14 an14 od15 an15 od16 an16 od17 an17 od18 an18 od19 an19 od20 an20 od21 an21 od22 an22 od23 an23 od24 an24 od25 an25 od26 an26 od27 an27 od28 an28 od29 an29 od30 an30 od31 an31 od32 an32 od33 an33 od34 an34 od35 an35 od36 an36 od37 an37 od38 an38 od39 an39 od40 an40 od41 an41 od42 an42 od43 an43 od44 an44 od45 an45 od46 an46 od47 an47 od48 an48 od49 an49 od50 an50 : Option Addr} {sl0 sl1 sl2 sl3 sl4 sl5 sl6 sl7 sl8 sl9 sl10 sl11 sl12 sl13 sl14 sl15 sl16 sl17 sl18 sl19 sl20 sl21 sl22 sl23 sl24 sl25 sl26 sl27 sl28 sl29 sl30 sl31 sl32 sl33 sl34 sl35 sl36 sl37 sl38 sl39 sl40 sl41 sl42 sl43 sl44 sl45 sl46 sl47 sl48 sl49 sl50 : Array (Option Value)} {oc0 kV0 dc0 pm0 cd0 ct0 oc1 kV1 dc1 pm1 cd1 ct1 oc2 kV2 dc2 pm2 cd2 ct2 oc3 kV3 dc3 pm3 cd3 ct3 oc4 kV4 dc4 pm4 cd4 ct4 oc5 kV5 dc5 pm5 cd5 ct5 oc6 kV6 dc6 pm6 cd6 ct6 oc7 kV7 dc7 pm7 cd7 ct7 oc8 kV8 dc8 pm8 cd8 ct8 oc9 kV9 dc9 pm9 cd9 ct9 oc10 kV10 dc10 pm10 cd10 ct10 oc11 kV11 dc11 pm11 cd11 ct11 oc12 kV12 dc12 pm12 cd12 ct12 oc13 kV13 dc13 pm13 cd13 ct13 oc14 kV14 dc14 pm14 cd14 ct14 oc15 kV15 dc15 pm15 cd15 ct15 oc16 kV16 dc16 pm16 cd16 ct16 oc17 kV17 dc17 pm17 cd17 ct17 oc18 kV18 dc18 pm18 cd18 ct18 oc19 kV19 dc19 pm19 cd19 ct19 oc20 kV20 dc20 pm20 cd20 ct20 oc21 kV21 dc21 pm21 cd21 ct21 oc22 kV22 dc22 pm22 cd22 ct22 oc23 kV23 dc23 pm23 cd23 ct23 oc24 kV24 dc24 pm24 cd24 ct24 oc25 kV25 dc25 pm25 cd25 ct25 oc26 kV26 dc26 pm26 cd26 ct26 oc27 kV27 dc27 pm27 cd27 ct27 oc28 kV28 dc28 pm28 cd28 ct28 oc29 kV29 dc29 pm29 cd29 ct29 oc30 kV30 dc30 pm30 cd30 ct30 oc31 kV31 dc31 pm31 cd31 ct31 oc32 kV32 dc32 pm32 cd32 ct32 oc33 kV33 dc33 pm33 cd33 ct33 oc34 kV34 dc34 pm34 cd34 ct34 oc35 kV35 dc35 pm35 cd35 ct35 oc36 kV36 dc36 pm36 cd36 ct36 oc37 kV37 dc37 pm37 cd37 ct37 oc38 kV38 dc38 pm38 cd38 ct38 oc39 kV39 dc39 pm39 cd39 ct39 oc40 kV40 dc40 pm40 cd40 ct40 oc41 kV41 dc41 pm41 cd41 ct41 oc42 kV42 dc42 pm42 cd42 ct42 oc43 kV43 dc43 pm43 cd43 ct43 oc44 kV44 dc44 pm44 cd44 ct44 oc45 kV45 dc45 pm45 cd45 ct45 oc46 kV46 dc46 pm46 cd46 ct46 oc47 kV47 dc47 pm47 cd47 ct47 oc48 kV48 dc48 pm48 cd48 ct48 oc49 kV49 dc49 pm49 cd49 ct49 oc50 kV50 dc50 pm50 cd50 ct50 : Value}
    {C_NotThere C_Taken C_NoName C_Trail C_NothingDone C_TooMany C_TooLong C_NoNote C_TrailError : Addr}
    {t_MOST_SIGNS t_MOST_NAMES : Tok}
    (a0 : PySem.W.nsIn K mainGlobals "rest" = some (some (.ref f0))) (l0 : K.lookup f0 = some ⟨oc0, od0, .func (PySem.W.fnOf "rest" "rest" (defArgs s_rest) (defBody s_rest) (defScope s_rest) .none kV0 dc0 pm0 an0 cd0 ct0), sl0⟩) (c0 : PySem.W.codeIn K cd0 "rest" = true) (k0 : PySem.W.keepIn K (.ref f0) = true)
    (a1 : PySem.W.nsIn K mainGlobals "branch_of" = some (some (.ref f1))) (l1 : K.lookup f1 = some ⟨oc1, od1, .func (PySem.W.fnOf "branch_of" "branch_of" (defArgs s_branch_of) (defBody s_branch_of) (defScope s_branch_of) .none kV1 dc1 pm1 an1 cd1 ct1), sl1⟩) (c1 : PySem.W.codeIn K cd1 "branch_of" = true) (k1 : PySem.W.keepIn K (.ref f1) = true)
    (a2 : PySem.W.nsIn K mainGlobals "with_branch" = some (some (.ref f2))) (l2 : K.lookup f2 = some ⟨oc2, od2, .func (PySem.W.fnOf "with_branch" "with_branch" (defArgs s_with_branch) (defBody s_with_branch) (defScope s_with_branch) .none kV2 dc2 pm2 an2 cd2 ct2), sl2⟩) (c2 : PySem.W.codeIn K cd2 "with_branch" = true) (k2 : PySem.W.keepIn K (.ref f2) = true)
    (a3 : PySem.W.nsIn K mainGlobals "knot_of" = some (some (.ref f3))) (l3 : K.lookup f3 = some ⟨oc3, od3, .func (PySem.W.fnOf "knot_of" "knot_of" (defArgs s_knot_of) (defBody s_knot_of) (defScope s_knot_of) .none kV3 dc3 pm3 an3 cd3 ct3), sl3⟩) (c3 : PySem.W.codeIn K cd3 "knot_of" = true) (k3 : PySem.W.keepIn K (.ref f3) = true)
    (a4 : PySem.W.nsIn K mainGlobals "found" = some (some (.ref f4))) (l4 : K.lookup f4 = some ⟨oc4, od4, .func (PySem.W.fnOf "found" "found" (defArgs s_found) (defBody s_found) (defScope s_found) .none kV4 dc4 pm4 an4 cd4 ct4), sl4⟩) (c4 : PySem.W.codeIn K cd4 "found" = true) (k4 : PySem.W.keepIn K (.ref f4) = true)
    (a5 : PySem.W.nsIn K mainGlobals "thinned" = some (some (.ref f5))) (l5 : K.lookup f5 = some ⟨oc5, od5, .func (PySem.W.fnOf "thinned" "thinned" (defArgs s_thinned) (defBody s_thinned) (defScope s_thinned) .none kV5 dc5 pm5 an5 cd5 ct5), sl5⟩) (c5 : PySem.W.codeIn K cd5 "thinned" = true) (k5 : PySem.W.keepIn K (.ref f5) = true)
    (a6 : PySem.W.nsIn K mainGlobals "without" = some (some (.ref f6))) (l6 : K.lookup f6 = some ⟨oc6, od6, .func (PySem.W.fnOf "without" "without" (defArgs s_without) (defBody s_without) (defScope s_without) .none kV6 dc6 pm6 an6 cd6 ct6), sl6⟩) (c6 : PySem.W.codeIn K cd6 "without" = true) (k6 : PySem.W.keepIn K (.ref f6) = true)
    (a7 : PySem.W.nsIn K mainGlobals "common" = some (some (.ref f7))) (l7 : K.lookup f7 = some ⟨oc7, od7, .func (PySem.W.fnOf "common" "common" (defArgs s_common) (defBody s_common) (defScope s_common) .none kV7 dc7 pm7 an7 cd7 ct7), sl7⟩) (c7 : PySem.W.codeIn K cd7 "common" = true) (k7 : PySem.W.keepIn K (.ref f7) = true)
    (a8 : PySem.W.nsIn K mainGlobals "behind" = some (some (.ref f8))) (l8 : K.lookup f8 = some ⟨oc8, od8, .func (PySem.W.fnOf "behind" "behind" (defArgs s_behind) (defBody s_behind) (defScope s_behind) .none kV8 dc8 pm8 an8 cd8 ct8), sl8⟩) (c8 : PySem.W.codeIn K cd8 "behind" = true) (k8 : PySem.W.keepIn K (.ref f8) = true)
    (a9 : PySem.W.nsIn K mainGlobals "branches_behind" = some (some (.ref f9))) (l9 : K.lookup f9 = some ⟨oc9, od9, .func (PySem.W.fnOf "branches_behind" "branches_behind" (defArgs s_branches_behind) (defBody s_branches_behind) (defScope s_branches_behind) .none kV9 dc9 pm9 an9 cd9 ct9), sl9⟩) (c9 : PySem.W.codeIn K cd9 "branches_behind" = true) (k9 : PySem.W.keepIn K (.ref f9) = true)
    (a10 : PySem.W.nsIn K mainGlobals "joined" = some (some (.ref f10))) (l10 : K.lookup f10 = some ⟨oc10, od10, .func (PySem.W.fnOf "joined" "joined" (defArgs s_joined) (defBody s_joined) (defScope s_joined) .none kV10 dc10 pm10 an10 cd10 ct10), sl10⟩) (c10 : PySem.W.codeIn K cd10 "joined" = true) (k10 : PySem.W.keepIn K (.ref f10) = true)
    (a11 : PySem.W.nsIn K mainGlobals "names" = some (some (.ref f11))) (l11 : K.lookup f11 = some ⟨oc11, od11, .func (PySem.W.fnOf "names" "names" (defArgs s_names) (defBody s_names) (defScope s_names) .none kV11 dc11 pm11 an11 cd11 ct11), sl11⟩) (c11 : PySem.W.codeIn K cd11 "names" = true) (k11 : PySem.W.keepIn K (.ref f11) = true)
    (a12 : PySem.W.nsIn K mainGlobals "cut" = some (some (.ref f12))) (l12 : K.lookup f12 = some ⟨oc12, od12, .func (PySem.W.fnOf "cut" "cut" (defArgs s_cut) (defBody s_cut) (defScope s_cut) .none kV12 dc12 pm12 an12 cd12 ct12), sl12⟩) (c12 : PySem.W.codeIn K cd12 "cut" = true) (k12 : PySem.W.keepIn K (.ref f12) = true)
    (a13 : PySem.W.nsIn K mainGlobals "ahead" = some (some (.ref f13))) (l13 : K.lookup f13 = some ⟨oc13, od13, .func (PySem.W.fnOf "ahead" "ahead" (defArgs s_ahead) (defBody s_ahead) (defScope s_ahead) .none kV13 dc13 pm13 an13 cd13 ct13), sl13⟩) (c13 : PySem.W.codeIn K cd13 "ahead" = true) (k13 : PySem.W.keepIn K (.ref f13) = true)
    (a14 : PySem.W.nsIn K mainGlobals "moved" = some (some (.ref f14))) (l14 : K.lookup f14 = some ⟨oc14, od14, .func (PySem.W.fnOf "moved" "moved" (defArgs s_moved) (defBody s_moved) (defScope s_moved) .none kV14 dc14 pm14 an14 cd14 ct14), sl14⟩) (c14 : PySem.W.codeIn K cd14 "moved" = true) (k14 : PySem.W.keepIn K (.ref f14) = true)
    (a15 : PySem.W.nsIn K mainGlobals "copied" = some (some (.ref f15))) (l15 : K.lookup f15 = some ⟨oc15, od15, .func (PySem.W.fnOf "copied" "copied" (defArgs s_copied) (defBody s_copied) (defScope s_copied) .none kV15 dc15 pm15 an15 cd15 ct15), sl15⟩) (c15 : PySem.W.codeIn K cd15 "copied" = true) (k15 : PySem.W.keepIn K (.ref f15) = true)
    (a16 : PySem.W.nsIn K mainGlobals "put" = some (some (.ref f16))) (l16 : K.lookup f16 = some ⟨oc16, od16, .func (PySem.W.fnOf "put" "put" (defArgs s_put) (defBody s_put) (defScope s_put) .none kV16 dc16 pm16 an16 cd16 ct16), sl16⟩) (c16 : PySem.W.codeIn K cd16 "put" = true) (k16 : PySem.W.keepIn K (.ref f16) = true)
    (a17 : PySem.W.nsIn K mainGlobals "under" = some (some (.ref f17))) (l17 : K.lookup f17 = some ⟨oc17, od17, .func (PySem.W.fnOf "under" "under" (defArgs s_under) (defBody s_under) (defScope s_under) .none kV17 dc17 pm17 an17 cd17 ct17), sl17⟩) (c17 : PySem.W.codeIn K cd17 "under" = true) (k17 : PySem.W.keepIn K (.ref f17) = true)
    (a18 : PySem.W.nsIn K mainGlobals "many" = some (some (.ref f18))) (l18 : K.lookup f18 = some ⟨oc18, od18, .func (PySem.W.fnOf "many" "many" (defArgs s_many) (defBody s_many) (defScope s_many) .none kV18 dc18 pm18 an18 cd18 ct18), sl18⟩) (c18 : PySem.W.codeIn K cd18 "many" = true) (k18 : PySem.W.keepIn K (.ref f18) = true)
    (a19 : PySem.W.nsIn K mainGlobals "is_sign" = some (some (.ref f19))) (l19 : K.lookup f19 = some ⟨oc19, od19, .func (PySem.W.fnOf "is_sign" "is_sign" (defArgs s_is_sign) (defBody s_is_sign) (defScope s_is_sign) .none kV19 dc19 pm19 an19 cd19 ct19), sl19⟩) (c19 : PySem.W.codeIn K cd19 "is_sign" = true) (k19 : PySem.W.keepIn K (.ref f19) = true)
    (a20 : PySem.W.nsIn K mainGlobals "is_name" = some (some (.ref f20))) (l20 : K.lookup f20 = some ⟨oc20, od20, .func (PySem.W.fnOf "is_name" "is_name" (defArgs s_is_name) (defBody s_is_name) (defScope s_is_name) .none kV20 dc20 pm20 an20 cd20 ct20), sl20⟩) (c20 : PySem.W.codeIn K cd20 "is_name" = true) (k20 : PySem.W.keepIn K (.ref f20) = true)
    (a21 : PySem.W.nsIn K mainGlobals "need_name" = some (some (.ref f21))) (l21 : K.lookup f21 = some ⟨oc21, od21, .func (PySem.W.fnOf "need_name" "need_name" (defArgs s_need_name) (defBody s_need_name) (defScope s_need_name) .none kV21 dc21 pm21 an21 cd21 ct21), sl21⟩) (c21 : PySem.W.codeIn K cd21 "need_name" = true) (k21 : PySem.W.keepIn K (.ref f21) = true)
    (a22 : PySem.W.findIn K (.ref C_Trail) "__init__" = some (some (.ref f22))) (i22 : PySem.W.isFn K (.ref f22) = true) (l22 : K.lookup f22 = some ⟨oc22, od22, .func (PySem.W.fnOf "__init__" "Trail.__init__" (defArgs s_Trail___init__) (defBody s_Trail___init__) (defScope s_Trail___init__) .none kV22 dc22 pm22 an22 cd22 ct22), sl22⟩) (c22 : PySem.W.codeIn K cd22 "Trail.__init__" = true) (k22 : PySem.W.keepIn K (.ref f22) = true)
    (a23 : PySem.W.findIn K (.ref C_Trail) "do" = some (some (.ref f23))) (i23 : PySem.W.isFn K (.ref f23) = true) (l23 : K.lookup f23 = some ⟨oc23, od23, .func (PySem.W.fnOf "do" "Trail.do" (defArgs s_Trail_do) (defBody s_Trail_do) (defScope s_Trail_do) .none kV23 dc23 pm23 an23 cd23 ct23), sl23⟩) (c23 : PySem.W.codeIn K cd23 "Trail.do" = true) (k23 : PySem.W.keepIn K (.ref f23) = true)
    (a24 : PySem.W.findIn K (.ref C_Trail) "tree" = some (some (.ref f24))) (i24 : PySem.W.isFn K (.ref f24) = true) (l24 : K.lookup f24 = some ⟨oc24, od24, .func (PySem.W.fnOf "tree" "Trail.tree" (defArgs s_Trail_tree) (defBody s_Trail_tree) (defScope s_Trail_tree) .none kV24 dc24 pm24 an24 cd24 ct24), sl24⟩) (c24 : PySem.W.codeIn K cd24 "Trail.tree" = true) (k24 : PySem.W.keepIn K (.ref f24) = true)
    (a25 : PySem.W.findIn K (.ref C_Trail) "size" = some (some (.ref f25))) (i25 : PySem.W.isFn K (.ref f25) = true) (l25 : K.lookup f25 = some ⟨oc25, od25, .func (PySem.W.fnOf "size" "Trail.size" (defArgs s_Trail_size) (defBody s_Trail_size) (defScope s_Trail_size) .none kV25 dc25 pm25 an25 cd25 ct25), sl25⟩) (c25 : PySem.W.codeIn K cd25 "Trail.size" = true) (k25 : PySem.W.keepIn K (.ref f25) = true)
    (a26 : PySem.W.findIn K (.ref C_Trail) "told" = some (some (.ref f26))) (i26 : PySem.W.isFn K (.ref f26) = true) (l26 : K.lookup f26 = some ⟨oc26, od26, .func (PySem.W.fnOf "told" "Trail.told" (defArgs s_Trail_told) (defBody s_Trail_told) (defScope s_Trail_told) .none kV26 dc26 pm26 an26 cd26 ct26), sl26⟩) (c26 : PySem.W.codeIn K cd26 "Trail.told" = true) (k26 : PySem.W.keepIn K (.ref f26) = true)
    (a27 : PySem.W.findIn K (.ref C_Trail) "back" = some (some (.ref f27))) (i27 : PySem.W.isFn K (.ref f27) = true) (l27 : K.lookup f27 = some ⟨oc27, od27, .func (PySem.W.fnOf "back" "Trail.back" (defArgs s_Trail_back) (defBody s_Trail_back) (defScope s_Trail_back) .none kV27 dc27 pm27 an27 cd27 ct27), sl27⟩) (c27 : PySem.W.codeIn K cd27 "Trail.back" = true) (k27 : PySem.W.keepIn K (.ref f27) = true)
    (a28 : PySem.W.findIn K (.ref C_Trail) "keep" = some (some (.ref f28))) (i28 : PySem.W.isFn K (.ref f28) = true) (l28 : K.lookup f28 = some ⟨oc28, od28, .func (PySem.W.fnOf "keep" "Trail.keep" (defArgs s_Trail_keep) (defBody s_Trail_keep) (defScope s_Trail_keep) .none kV28 dc28 pm28 an28 cd28 ct28), sl28⟩) (c28 : PySem.W.codeIn K cd28 "Trail.keep" = true) (k28 : PySem.W.keepIn K (.ref f28) = true)
    (a29 : PySem.W.findIn K (.ref C_Trail) "drop" = some (some (.ref f29))) (i29 : PySem.W.isFn K (.ref f29) = true) (l29 : K.lookup f29 = some ⟨oc29, od29, .func (PySem.W.fnOf "drop" "Trail.drop" (defArgs s_Trail_drop) (defBody s_Trail_drop) (defScope s_Trail_drop) .none kV29 dc29 pm29 an29 cd29 ct29), sl29⟩) (c29 : PySem.W.codeIn K cd29 "Trail.drop" = true) (k29 : PySem.W.keepIn K (.ref f29) = true)
    (a30 : PySem.W.findIn K (.ref C_Trail) "prune" = some (some (.ref f30))) (i30 : PySem.W.isFn K (.ref f30) = true) (l30 : K.lookup f30 = some ⟨oc30, od30, .func (PySem.W.fnOf "prune" "Trail.prune" (defArgs s_Trail_prune) (defBody s_Trail_prune) (defScope s_Trail_prune) .none kV30 dc30 pm30 an30 cd30 ct30), sl30⟩) (c30 : PySem.W.codeIn K cd30 "Trail.prune" = true) (k30 : PySem.W.keepIn K (.ref f30) = true)
    (a31 : PySem.W.nsIn K mainGlobals "need_branch" = some (some (.ref f31))) (l31 : K.lookup f31 = some ⟨oc31, od31, .func (PySem.W.fnOf "need_branch" "need_branch" (defArgs s_need_branch) (defBody s_need_branch) (defScope s_need_branch) .none kV31 dc31 pm31 an31 cd31 ct31), sl31⟩) (c31 : PySem.W.codeIn K cd31 "need_branch" = true) (k31 : PySem.W.keepIn K (.ref f31) = true)
    (a32 : PySem.W.findIn K (.ref C_Trail) "move" = some (some (.ref f32))) (i32 : PySem.W.isFn K (.ref f32) = true) (l32 : K.lookup f32 = some ⟨oc32, od32, .func (PySem.W.fnOf "move" "Trail.move" (defArgs s_Trail_move) (defBody s_Trail_move) (defScope s_Trail_move) .none kV32 dc32 pm32 an32 cd32 ct32), sl32⟩) (c32 : PySem.W.codeIn K cd32 "Trail.move" = true) (k32 : PySem.W.keepIn K (.ref f32) = true)
    (a33 : PySem.W.findIn K (.ref C_Trail) "graft" = some (some (.ref f33))) (i33 : PySem.W.isFn K (.ref f33) = true) (l33 : K.lookup f33 = some ⟨oc33, od33, .func (PySem.W.fnOf "graft" "Trail.graft" (defArgs s_Trail_graft) (defBody s_Trail_graft) (defScope s_Trail_graft) .none kV33 dc33 pm33 an33 cd33 ct33), sl33⟩) (c33 : PySem.W.codeIn K cd33 "Trail.graft" = true) (k33 : PySem.W.keepIn K (.ref f33) = true)
    (a34 : PySem.W.nsIn K mainGlobals "_law_cell_at" = some (some (.ref f34))) (l34 : K.lookup f34 = some ⟨oc34, od34, .func (PySem.W.fnOf "_law_cell_at" "_law_cell_at" (defArgs s__law_cell_at) (defBody s__law_cell_at) (defScope s__law_cell_at) .none kV34 dc34 pm34 an34 cd34 ct34), sl34⟩) (c34 : PySem.W.codeIn K cd34 "_law_cell_at" = true) (k34 : PySem.W.keepIn K (.ref f34) = true)
    (a35 : PySem.W.nsIn K mainGlobals "_law_whole" = some (some (.ref f35))) (l35 : K.lookup f35 = some ⟨oc35, od35, .func (PySem.W.fnOf "_law_whole" "_law_whole" (defArgs s__law_whole) (defBody s__law_whole) (defScope s__law_whole) .none kV35 dc35 pm35 an35 cd35 ct35), sl35⟩) (c35 : PySem.W.codeIn K cd35 "_law_whole" = true) (k35 : PySem.W.keepIn K (.ref f35) = true)
    (a36 : PySem.W.nsIn K mainGlobals "_law_sign_by" = some (some (.ref f36))) (l36 : K.lookup f36 = some ⟨oc36, od36, .func (PySem.W.fnOf "_law_sign_by" "_law_sign_by" (defArgs s__law_sign_by) (defBody s__law_sign_by) (defScope s__law_sign_by) .none kV36 dc36 pm36 an36 cd36 ct36), sl36⟩) (c36 : PySem.W.codeIn K cd36 "_law_sign_by" = true) (k36 : PySem.W.keepIn K (.ref f36) = true)
    (a37 : PySem.W.nsIn K mainGlobals "_law_word_by" = some (some (.ref f37))) (l37 : K.lookup f37 = some ⟨oc37, od37, .func (PySem.W.fnOf "_law_word_by" "_law_word_by" (defArgs s__law_word_by) (defBody s__law_word_by) (defScope s__law_word_by) .none kV37 dc37 pm37 an37 cd37 ct37), sl37⟩) (c37 : PySem.W.codeIn K cd37 "_law_word_by" = true) (k37 : PySem.W.keepIn K (.ref f37) = true)
    (a38 : PySem.W.nsIn K mainGlobals "_law_number_by" = some (some (.ref f38))) (l38 : K.lookup f38 = some ⟨oc38, od38, .func (PySem.W.fnOf "_law_number_by" "_law_number_by" (defArgs s__law_number_by) (defBody s__law_number_by) (defScope s__law_number_by) .none kV38 dc38 pm38 an38 cd38 ct38), sl38⟩) (c38 : PySem.W.codeIn K cd38 "_law_number_by" = true) (k38 : PySem.W.keepIn K (.ref f38) = true)
    (a39 : PySem.W.nsIn K mainGlobals "_law_alike" = some (some (.ref f39))) (l39 : K.lookup f39 = some ⟨oc39, od39, .func (PySem.W.fnOf "_law_alike" "_law_alike" (defArgs s__law_alike) (defBody s__law_alike) (defScope s__law_alike) .none kV39 dc39 pm39 an39 cd39 ct39), sl39⟩) (c39 : PySem.W.codeIn K cd39 "_law_alike" = true) (k39 : PySem.W.keepIn K (.ref f39) = true)
    (a40 : PySem.W.nsIn K mainGlobals "_law_text_by" = some (some (.ref f40))) (l40 : K.lookup f40 = some ⟨oc40, od40, .func (PySem.W.fnOf "_law_text_by" "_law_text_by" (defArgs s__law_text_by) (defBody s__law_text_by) (defScope s__law_text_by) .none kV40 dc40 pm40 an40 cd40 ct40), sl40⟩) (c40 : PySem.W.codeIn K cd40 "_law_text_by" = true) (k40 : PySem.W.keepIn K (.ref f40) = true)
    (a41 : PySem.W.nsIn K mainGlobals "_law_other_by" = some (some (.ref f41))) (l41 : K.lookup f41 = some ⟨oc41, od41, .func (PySem.W.fnOf "_law_other_by" "_law_other_by" (defArgs s__law_other_by) (defBody s__law_other_by) (defScope s__law_other_by) .none kV41 dc41 pm41 an41 cd41 ct41), sl41⟩) (c41 : PySem.W.codeIn K cd41 "_law_other_by" = true) (k41 : PySem.W.keepIn K (.ref f41) = true)
    (a42 : PySem.W.nsIn K mainGlobals "_law_word_of" = some (some (.ref f42))) (l42 : K.lookup f42 = some ⟨oc42, od42, .func (PySem.W.fnOf "_law_word_of" "_law_word_of" (defArgs s__law_word_of) (defBody s__law_word_of) (defScope s__law_word_of) .none kV42 dc42 pm42 an42 cd42 ct42), sl42⟩) (c42 : PySem.W.codeIn K cd42 "_law_word_of" = true) (k42 : PySem.W.keepIn K (.ref f42) = true)
    (a43 : PySem.W.nsIn K mainGlobals "_law_named" = some (some (.ref f43))) (l43 : K.lookup f43 = some ⟨oc43, od43, .func (PySem.W.fnOf "_law_named" "_law_named" (defArgs s__law_named) (defBody s__law_named) (defScope s__law_named) .none kV43 dc43 pm43 an43 cd43 ct43), sl43⟩) (c43 : PySem.W.codeIn K cd43 "_law_named" = true) (k43 : PySem.W.keepIn K (.ref f43) = true)
    (a44 : PySem.W.nsIn K mainGlobals "_law_tried" = some (some (.ref f44))) (l44 : K.lookup f44 = some ⟨oc44, od44, .func (PySem.W.fnOf "_law_tried" "_law_tried" (defArgs s__law_tried) (defBody s__law_tried) (defScope s__law_tried) .none kV44 dc44 pm44 an44 cd44 ct44), sl44⟩) (c44 : PySem.W.codeIn K cd44 "_law_tried" = true) (k44 : PySem.W.keepIn K (.ref f44) = true)
    (a45 : PySem.W.nsIn K mainGlobals "_law_branch" = some (some (.ref f45))) (l45 : K.lookup f45 = some ⟨oc45, od45, .func (PySem.W.fnOf "_law_branch" "_law_branch" (defArgs s__law_branch) (defBody s__law_branch) (defScope s__law_branch) .none kV45 dc45 pm45 an45 cd45 ct45), sl45⟩) (c45 : PySem.W.codeIn K cd45 "_law_branch" = true) (k45 : PySem.W.keepIn K (.ref f45) = true)
    (a46 : PySem.W.nsIn K mainGlobals "_law_due" = some (some (.ref f46))) (l46 : K.lookup f46 = some ⟨oc46, od46, .func (PySem.W.fnOf "_law_due" "_law_due" (defArgs s__law_due) (defBody s__law_due) (defScope s__law_due) .none kV46 dc46 pm46 an46 cd46 ct46), sl46⟩) (c46 : PySem.W.codeIn K cd46 "_law_due" = true) (k46 : PySem.W.keepIn K (.ref f46) = true)
    (a47 : PySem.W.nsIn K mainGlobals "_law_first_deeds" = some (some (.ref f47))) (l47 : K.lookup f47 = some ⟨oc47, od47, .func (PySem.W.fnOf "_law_first_deeds" "_law_first_deeds" (defArgs s__law_first_deeds) (defBody s__law_first_deeds) (defScope s__law_first_deeds) .none kV47 dc47 pm47 an47 cd47 ct47), sl47⟩) (c47 : PySem.W.codeIn K cd47 "_law_first_deeds" = true) (k47 : PySem.W.keepIn K (.ref f47) = true)
    (a48 : PySem.W.nsIn K mainGlobals "_law_begun" = some (some (.ref f48))) (l48 : K.lookup f48 = some ⟨oc48, od48, .func (PySem.W.fnOf "_law_begun" "_law_begun" (defArgs s__law_begun) (defBody s__law_begun) (defScope s__law_begun) .none kV48 dc48 pm48 an48 cd48 ct48), sl48⟩) (c48 : PySem.W.codeIn K cd48 "_law_begun" = true) (k48 : PySem.W.keepIn K (.ref f48) = true)
    (a49 : PySem.W.nsIn K mainGlobals "_law_tells" = some (some (.ref f49))) (l49 : K.lookup f49 = some ⟨oc49, od49, .func (PySem.W.fnOf "_law_tells" "_law_tells" (defArgs s__law_tells) (defBody s__law_tells) (defScope s__law_tells) .none kV49 dc49 pm49 an49 cd49 ct49), sl49⟩) (c49 : PySem.W.codeIn K cd49 "_law_tells" = true) (k49 : PySem.W.keepIn K (.ref f49) = true)
    (a50 : PySem.W.nsIn K mainGlobals "law" = some (some (.ref f50))) (l50 : K.lookup f50 = some ⟨oc50, od50, .func (PySem.W.fnOf "law" "law" (defArgs s_law) (defBody s_law) (defScope s_law) .none kV50 dc50 pm50 an50 cd50 ct50), sl50⟩) (c50 : PySem.W.codeIn K cd50 "law" = true) (k50 : PySem.W.keepIn K (.ref f50) = true)
    (z_len : PySem.W.nsIn K mainGlobals "len" = some none)
    (z_tuple : PySem.W.nsIn K mainGlobals "tuple" = some none)
    (z_ord : PySem.W.nsIn K mainGlobals "ord" = some none)
    (z_isinstance : PySem.W.nsIn K mainGlobals "isinstance" = some none)
    (z_str : PySem.W.nsIn K mainGlobals "str" = some none)
    (z_bool : PySem.W.nsIn K mainGlobals "bool" = some none)
    (z_int : PySem.W.nsIn K mainGlobals "int" = some none)
    (z_range : PySem.W.nsIn K mainGlobals "range" = some none)
    (z_list : PySem.W.nsIn K mainGlobals "list" = some none)
    (z_ValueError : PySem.W.nsIn K mainGlobals "ValueError" = some none)
    (z_max : PySem.W.nsIn K mainGlobals "max" = some none)
    (z_sorted : PySem.W.nsIn K mainGlobals "sorted" = some none)
    (z_dict : PySem.W.nsIn K mainGlobals "dict" = some none)
    (z_enumerate : PySem.W.nsIn K mainGlobals "enumerate" = some none)
    (n_MOST_SIGNS : PySem.W.nsIn K mainGlobals "MOST_SIGNS" = some (some (.int 40 t_MOST_SIGNS)))
    (n_MOST_NAMES : PySem.W.nsIn K mainGlobals "MOST_NAMES" = some (some (.int 100 t_MOST_NAMES)))
    (g_NotThere : PySem.W.nsIn K mainGlobals "NotThere" = some (some (.ref C_NotThere)))
    (g_Taken : PySem.W.nsIn K mainGlobals "Taken" = some (some (.ref C_Taken)))
    (g_NoName : PySem.W.nsIn K mainGlobals "NoName" = some (some (.ref C_NoName)))
    (g_Trail : PySem.W.nsIn K mainGlobals "Trail" = some (some (.ref C_Trail)))
    (g_NothingDone : PySem.W.nsIn K mainGlobals "NothingDone" = some (some (.ref C_NothingDone)))
    (g_TooMany : PySem.W.nsIn K mainGlobals "TooMany" = some (some (.ref C_TooMany)))
    (g_TooLong : PySem.W.nsIn K mainGlobals "TooLong" = some (some (.ref C_TooLong)))
    (g_NoNote : PySem.W.nsIn K mainGlobals "NoNote" = some (some (.ref C_NoNote)))
    (g_TrailError : PySem.W.nsIn K mainGlobals "TrailError" = some (some (.ref C_TrailError)))
    (o0_Trail : PySem.W.plainGet K C_Trail Str.empty = true)
    (o1_Trail : PySem.W.hasDictIn K C_Trail = true)
    (o2_Trail : PySem.W.plainOver K C_Trail = true)
    (o3_Trail : PySem.W.findIn K (.ref C_Trail) "__setattr__" = some (some (.builtin "object.__setattr__")))
    (o4_Trail : PySem.W.makesIn K C_Trail = true)
    (o5_Trail : PySem.W.keepIn K (.ref C_Trail) = true)
    (q_past : PySem.W.findIn K (.ref C_Trail) "past" = some none)
    (q_grown : PySem.W.findIn K (.ref C_Trail) "grown" = some none)
    (e0_NoName : PySem.W.excIn K C_NoName [.type "ValueError", .type "Exception", .type "BaseException", .type "object"] "ValueError.__new__" = true)
    (e1_NoName : PySem.W.keepIn K (.ref C_NoName) = true)
    (e2_NoName : PySem.W.subIn K (.ref C_NoName) (.type "BaseException") = some true)
    (e3_NoName : PySem.W.typeIn K (.ref C_NoName) = some (.type "type"))
    (e4_NoName : PySem.W.findIn K (.ref C_NoName) "__getattribute__" = some (some (.builtin "BaseException.__getattribute__")))
    (e5_NoName : PySem.W.findIn K (.ref C_NoName) "__getattr__" = some none)
    (e6_NoName : PySem.W.hasDictIn K C_NoName = true)
    (e7_NoName : PySem.W.findIn K (.ref C_NoName) "__class__" = some (some (.builtin "object.__class__")))
    (e8_NoName : PySem.W.mroIn K C_NoName (.type "object") = some true)
    (e9_NoName : PySem.W.kitOne K (.ref C_NoName) (.ref C_TrailError) = some true)
    (e10_NoName : PySem.W.kitOne K (.ref C_NoName) (.type "ValueError") = some true)
    (e11_NoName : PySem.W.exmOne K (.ref C_NoName) (.ref C_NoName) = some true)
    (e0_NotThere : PySem.W.excIn K C_NotThere [.type "ValueError", .type "Exception", .type "BaseException", .type "object"] "ValueError.__new__" = true)
    (e1_NotThere : PySem.W.keepIn K (.ref C_NotThere) = true)
    (e2_NotThere : PySem.W.subIn K (.ref C_NotThere) (.type "BaseException") = some true)
    (e3_NotThere : PySem.W.typeIn K (.ref C_NotThere) = some (.type "type"))
    (e4_NotThere : PySem.W.findIn K (.ref C_NotThere) "__getattribute__" = some (some (.builtin "BaseException.__getattribute__")))
    (e5_NotThere : PySem.W.findIn K (.ref C_NotThere) "__getattr__" = some none)
    (e6_NotThere : PySem.W.hasDictIn K C_NotThere = true)
    (e7_NotThere : PySem.W.findIn K (.ref C_NotThere) "__class__" = some (some (.builtin "object.__class__")))
    (e8_NotThere : PySem.W.mroIn K C_NotThere (.type "object") = some true)
    (e9_NotThere : PySem.W.kitOne K (.ref C_NotThere) (.ref C_TrailError) = some true)
    (e10_NotThere : PySem.W.kitOne K (.ref C_NotThere) (.type "ValueError") = some true)
    (e11_NotThere : PySem.W.exmOne K (.ref C_NotThere) (.ref C_NotThere) = some true)
    (e0_Taken : PySem.W.excIn K C_Taken [.type "ValueError", .type "Exception", .type "BaseException", .type "object"] "ValueError.__new__" = true)
    (e1_Taken : PySem.W.keepIn K (.ref C_Taken) = true)
    (e2_Taken : PySem.W.subIn K (.ref C_Taken) (.type "BaseException") = some true)
    (e3_Taken : PySem.W.typeIn K (.ref C_Taken) = some (.type "type"))
    (e4_Taken : PySem.W.findIn K (.ref C_Taken) "__getattribute__" = some (some (.builtin "BaseException.__getattribute__")))
    (e5_Taken : PySem.W.findIn K (.ref C_Taken) "__getattr__" = some none)
    (e6_Taken : PySem.W.hasDictIn K C_Taken = true)
    (e7_Taken : PySem.W.findIn K (.ref C_Taken) "__class__" = some (some (.builtin "object.__class__")))
    (e8_Taken : PySem.W.mroIn K C_Taken (.type "object") = some true)
    (e9_Taken : PySem.W.kitOne K (.ref C_Taken) (.ref C_TrailError) = some true)
    (e10_Taken : PySem.W.kitOne K (.ref C_Taken) (.type "ValueError") = some true)
    (e11_Taken : PySem.W.exmOne K (.ref C_Taken) (.ref C_Taken) = some true)
    (e0_TooLong : PySem.W.excIn K C_TooLong [.type "ValueError", .type "Exception", .type "BaseException", .type "object"] "ValueError.__new__" = true)
    (e1_TooLong : PySem.W.keepIn K (.ref C_TooLong) = true)
    (e2_TooLong : PySem.W.subIn K (.ref C_TooLong) (.type "BaseException") = some true)
    (e3_TooLong : PySem.W.typeIn K (.ref C_TooLong) = some (.type "type"))
    (e4_TooLong : PySem.W.findIn K (.ref C_TooLong) "__getattribute__" = some (some (.builtin "BaseException.__getattribute__")))
    (e5_TooLong : PySem.W.findIn K (.ref C_TooLong) "__getattr__" = some none)
    (e6_TooLong : PySem.W.hasDictIn K C_TooLong = true)
    (e7_TooLong : PySem.W.findIn K (.ref C_TooLong) "__class__" = some (some (.builtin "object.__class__")))
    (e8_TooLong : PySem.W.mroIn K C_TooLong (.type "object") = some true)
    (e9_TooLong : PySem.W.kitOne K (.ref C_TooLong) (.ref C_TrailError) = some true)
    (e10_TooLong : PySem.W.kitOne K (.ref C_TooLong) (.type "ValueError") = some true)
    (e11_TooLong : PySem.W.exmOne K (.ref C_TooLong) (.ref C_TooLong) = some true)
    (e0_TooMany : PySem.W.excIn K C_TooMany [.type "ValueError", .type "Exception", .type "BaseException", .type "object"] "ValueError.__new__" = true)
    (e1_TooMany : PySem.W.keepIn K (.ref C_TooMany) = true)
    (e2_TooMany : PySem.W.subIn K (.ref C_TooMany) (.type "BaseException") = some true)
    (e3_TooMany : PySem.W.typeIn K (.ref C_TooMany) = some (.type "type"))
    (e4_TooMany : PySem.W.findIn K (.ref C_TooMany) "__getattribute__" = some (some (.builtin "BaseException.__getattribute__")))
    (e5_TooMany : PySem.W.findIn K (.ref C_TooMany) "__getattr__" = some none)
    (e6_TooMany : PySem.W.hasDictIn K C_TooMany = true)
    (e7_TooMany : PySem.W.findIn K (.ref C_TooMany) "__class__" = some (some (.builtin "object.__class__")))
    (e8_TooMany : PySem.W.mroIn K C_TooMany (.type "object") = some true)
    (e9_TooMany : PySem.W.kitOne K (.ref C_TooMany) (.ref C_TrailError) = some true)
    (e10_TooMany : PySem.W.kitOne K (.ref C_TooMany) (.type "ValueError") = some true)
    (e11_TooMany : PySem.W.exmOne K (.ref C_TooMany) (.ref C_TooMany) = some true)
    (e0_NothingDone : PySem.W.excIn K C_NothingDone [.type "ValueError", .type "Exception", .type "BaseException", .type "object"] "ValueError.__new__" = true)
    (e1_NothingDone : PySem.W.keepIn K (.ref C_NothingDone) = true)
    (e2_NothingDone : PySem.W.subIn K (.ref C_NothingDone) (.type "BaseException") = some true)
    (e3_NothingDone : PySem.W.typeIn K (.ref C_NothingDone) = some (.type "type"))
    (e4_NothingDone : PySem.W.findIn K (.ref C_NothingDone) "__getattribute__" = some (some (.builtin "BaseException.__getattribute__")))
    (e5_NothingDone : PySem.W.findIn K (.ref C_NothingDone) "__getattr__" = some none)
    (e6_NothingDone : PySem.W.hasDictIn K C_NothingDone = true)
    (e7_NothingDone : PySem.W.findIn K (.ref C_NothingDone) "__class__" = some (some (.builtin "object.__class__")))
    (e8_NothingDone : PySem.W.mroIn K C_NothingDone (.type "object") = some true)
    (e9_NothingDone : PySem.W.kitOne K (.ref C_NothingDone) (.ref C_TrailError) = some true)
    (e10_NothingDone : PySem.W.kitOne K (.ref C_NothingDone) (.type "ValueError") = some true)
    (e11_NothingDone : PySem.W.exmOne K (.ref C_NothingDone) (.ref C_NothingDone) = some true)
    (u_NoName_NotThere : PySem.W.exmOne K (.ref C_NoName) (.ref C_NotThere) = some false)
    (u_NoName_Taken : PySem.W.exmOne K (.ref C_NoName) (.ref C_Taken) = some false)
    (u_NoName_TooLong : PySem.W.exmOne K (.ref C_NoName) (.ref C_TooLong) = some false)
    (u_NoName_TooMany : PySem.W.exmOne K (.ref C_NoName) (.ref C_TooMany) = some false)
    (u_NoName_NothingDone : PySem.W.exmOne K (.ref C_NoName) (.ref C_NothingDone) = some false)
    (u_NotThere_NoName : PySem.W.exmOne K (.ref C_NotThere) (.ref C_NoName) = some false)
    (u_NotThere_Taken : PySem.W.exmOne K (.ref C_NotThere) (.ref C_Taken) = some false)
    (u_NotThere_TooLong : PySem.W.exmOne K (.ref C_NotThere) (.ref C_TooLong) = some false)
    (u_NotThere_TooMany : PySem.W.exmOne K (.ref C_NotThere) (.ref C_TooMany) = some false)
    (u_NotThere_NothingDone : PySem.W.exmOne K (.ref C_NotThere) (.ref C_NothingDone) = some false)
    (u_Taken_NoName : PySem.W.exmOne K (.ref C_Taken) (.ref C_NoName) = some false)
    (u_Taken_NotThere : PySem.W.exmOne K (.ref C_Taken) (.ref C_NotThere) = some false)
    (u_Taken_TooLong : PySem.W.exmOne K (.ref C_Taken) (.ref C_TooLong) = some false)
    (u_Taken_TooMany : PySem.W.exmOne K (.ref C_Taken) (.ref C_TooMany) = some false)
    (u_Taken_NothingDone : PySem.W.exmOne K (.ref C_Taken) (.ref C_NothingDone) = some false)
    (u_TooLong_NoName : PySem.W.exmOne K (.ref C_TooLong) (.ref C_NoName) = some false)
    (u_TooLong_NotThere : PySem.W.exmOne K (.ref C_TooLong) (.ref C_NotThere) = some false)
    (u_TooLong_Taken : PySem.W.exmOne K (.ref C_TooLong) (.ref C_Taken) = some false)
    (u_TooLong_TooMany : PySem.W.exmOne K (.ref C_TooLong) (.ref C_TooMany) = some false)
    (u_TooLong_NothingDone : PySem.W.exmOne K (.ref C_TooLong) (.ref C_NothingDone) = some false)
    (u_TooMany_NoName : PySem.W.exmOne K (.ref C_TooMany) (.ref C_NoName) = some false)
    (u_TooMany_NotThere : PySem.W.exmOne K (.ref C_TooMany) (.ref C_NotThere) = some false)
    (u_TooMany_Taken : PySem.W.exmOne K (.ref C_TooMany) (.ref C_Taken) = some false)
    (u_TooMany_TooLong : PySem.W.exmOne K (.ref C_TooMany) (.ref C_TooLong) = some false)
    (u_TooMany_NothingDone : PySem.W.exmOne K (.ref C_TooMany) (.ref C_NothingDone) = some false)
    (u_NothingDone_NoName : PySem.W.exmOne K (.ref C_NothingDone) (.ref C_NoName) = some false)
    (u_NothingDone_NotThere : PySem.W.exmOne K (.ref C_NothingDone) (.ref C_NotThere) = some false)
    (u_NothingDone_Taken : PySem.W.exmOne K (.ref C_NothingDone) (.ref C_Taken) = some false)
    (u_NothingDone_TooLong : PySem.W.exmOne K (.ref C_NothingDone) (.ref C_TooLong) = some false)
    (u_NothingDone_TooMany : PySem.W.exmOne K (.ref C_NothingDone) (.ref C_TooMany) = some false)
    (w_NoName : PySem.W.exmOne K (.ref C_NoName) (.ref C_TrailError) = some true)
    (w_NotThere : PySem.W.exmOne K (.ref C_NotThere) (.ref C_TrailError) = some true)
    (w_Taken : PySem.W.exmOne K (.ref C_Taken) (.ref C_TrailError) = some true)
    (w_TooLong : PySem.W.exmOne K (.ref C_TooLong) (.ref C_TrailError) = some true)
    (w_TooMany : PySem.W.exmOne K (.ref C_TooMany) (.ref C_TrailError) = some true)
    (w_NothingDone : PySem.W.exmOne K (.ref C_NothingDone) (.ref C_TrailError) = some true)
    (y_NoName_NoName : PySem.W.kitOne K (.ref C_NoName) (.ref C_NoName) = some true)
    (y_NoName_NotThere : PySem.W.kitOne K (.ref C_NoName) (.ref C_NotThere) = some false)
    (y_NoName_TooLong : PySem.W.kitOne K (.ref C_NoName) (.ref C_TooLong) = some false)
    (y_NoName_Taken : PySem.W.kitOne K (.ref C_NoName) (.ref C_Taken) = some false)
    (y_NoName_TooMany : PySem.W.kitOne K (.ref C_NoName) (.ref C_TooMany) = some false)
    (y_NoName_NothingDone : PySem.W.kitOne K (.ref C_NoName) (.ref C_NothingDone) = some false)
    (y_NoName_NoNote : PySem.W.kitOne K (.ref C_NoName) (.ref C_NoNote) = some false)
    (y_NotThere_NoName : PySem.W.kitOne K (.ref C_NotThere) (.ref C_NoName) = some false)
    (y_NotThere_NotThere : PySem.W.kitOne K (.ref C_NotThere) (.ref C_NotThere) = some true)
    (y_NotThere_TooLong : PySem.W.kitOne K (.ref C_NotThere) (.ref C_TooLong) = some false)
    (y_NotThere_Taken : PySem.W.kitOne K (.ref C_NotThere) (.ref C_Taken) = some false)
    (y_NotThere_TooMany : PySem.W.kitOne K (.ref C_NotThere) (.ref C_TooMany) = some false)
    (y_NotThere_NothingDone : PySem.W.kitOne K (.ref C_NotThere) (.ref C_NothingDone) = some false)
    (y_NotThere_NoNote : PySem.W.kitOne K (.ref C_NotThere) (.ref C_NoNote) = some false)
    (y_Taken_NoName : PySem.W.kitOne K (.ref C_Taken) (.ref C_NoName) = some false)
    (y_Taken_NotThere : PySem.W.kitOne K (.ref C_Taken) (.ref C_NotThere) = some false)
    (y_Taken_TooLong : PySem.W.kitOne K (.ref C_Taken) (.ref C_TooLong) = some false)
    (y_Taken_Taken : PySem.W.kitOne K (.ref C_Taken) (.ref C_Taken) = some true)
    (y_Taken_TooMany : PySem.W.kitOne K (.ref C_Taken) (.ref C_TooMany) = some false)
    (y_Taken_NothingDone : PySem.W.kitOne K (.ref C_Taken) (.ref C_NothingDone) = some false)
    (y_Taken_NoNote : PySem.W.kitOne K (.ref C_Taken) (.ref C_NoNote) = some false)
    (y_TooLong_NoName : PySem.W.kitOne K (.ref C_TooLong) (.ref C_NoName) = some false)
    (y_TooLong_NotThere : PySem.W.kitOne K (.ref C_TooLong) (.ref C_NotThere) = some false)
    (y_TooLong_TooLong : PySem.W.kitOne K (.ref C_TooLong) (.ref C_TooLong) = some true)
    (y_TooLong_Taken : PySem.W.kitOne K (.ref C_TooLong) (.ref C_Taken) = some false)
    (y_TooLong_TooMany : PySem.W.kitOne K (.ref C_TooLong) (.ref C_TooMany) = some false)
    (y_TooLong_NothingDone : PySem.W.kitOne K (.ref C_TooLong) (.ref C_NothingDone) = some false)
    (y_TooLong_NoNote : PySem.W.kitOne K (.ref C_TooLong) (.ref C_NoNote) = some false)
    (y_TooMany_NoName : PySem.W.kitOne K (.ref C_TooMany) (.ref C_NoName) = some false)
    (y_TooMany_NotThere : PySem.W.kitOne K (.ref C_TooMany) (.ref C_NotThere) = some false)
    (y_TooMany_TooLong : PySem.W.kitOne K (.ref C_TooMany) (.ref C_TooLong) = some false)
    (y_TooMany_Taken : PySem.W.kitOne K (.ref C_TooMany) (.ref C_Taken) = some false)
    (y_TooMany_TooMany : PySem.W.kitOne K (.ref C_TooMany) (.ref C_TooMany) = some true)
    (y_TooMany_NothingDone : PySem.W.kitOne K (.ref C_TooMany) (.ref C_NothingDone) = some false)
    (y_TooMany_NoNote : PySem.W.kitOne K (.ref C_TooMany) (.ref C_NoNote) = some false)
    (y_NothingDone_NoName : PySem.W.kitOne K (.ref C_NothingDone) (.ref C_NoName) = some false)
    (y_NothingDone_NotThere : PySem.W.kitOne K (.ref C_NothingDone) (.ref C_NotThere) = some false)
    (y_NothingDone_TooLong : PySem.W.kitOne K (.ref C_NothingDone) (.ref C_TooLong) = some false)
    (y_NothingDone_Taken : PySem.W.kitOne K (.ref C_NothingDone) (.ref C_Taken) = some false)
    (y_NothingDone_TooMany : PySem.W.kitOne K (.ref C_NothingDone) (.ref C_TooMany) = some false)
    (y_NothingDone_NothingDone : PySem.W.kitOne K (.ref C_NothingDone) (.ref C_NothingDone) = some true)
    (y_NothingDone_NoNote : PySem.W.kitOne K (.ref C_NothingDone) (.ref C_NoNote) = some false)
    (h_n : PySem.W.specialIn K (.builtin "object.__class__") "__get__" = some (some (.builtin "getset_descriptor.__get__"))) (h_t : PySem.W.takesIn K (.builtin "object.__class__") = some true)
    : ∃ fd : FuncData, (∀ (s : Shared) (v : Value), BindsTo s fd ⟨[v], []⟩ [("_law_script", v)]) ∧ ∀ base : Heap, K.In base → base.Ns mainGlobals mg → FnOk l.prog w K mg base (L2.CX l.prog w) 89 fa fd ["_law_script"] (spLaw K) := by
  have e := hfa.symm.trans (PySem.W.mg_of X G a50)
  cases e
  refine ⟨PySem.W.fnOf "law" "law" (defArgs s_law) (defBody s_law) (defScope s_law) .none kV50 dc50 pm50 an50 cd50 ct50, fun s v => .of_eq rfl, fun base _ _ => ?_⟩
  have M_len := PySem.W.mg_none_of X G z_len
  have M_tuple := PySem.W.mg_none_of X G z_tuple
  have M_ord := PySem.W.mg_none_of X G z_ord
  have M_isinstance := PySem.W.mg_none_of X G z_isinstance
  have M_str := PySem.W.mg_none_of X G z_str
  have M_bool := PySem.W.mg_none_of X G z_bool
  have M_int := PySem.W.mg_none_of X G z_int
  have M_range := PySem.W.mg_none_of X G z_range
  have M_list := PySem.W.mg_none_of X G z_list
  have M_ValueError := PySem.W.mg_none_of X G z_ValueError
  have M_max := PySem.W.mg_none_of X G z_max
  have M_sorted := PySem.W.mg_none_of X G z_sorted
  have M_dict := PySem.W.mg_none_of X G z_dict
  have M_enumerate := PySem.W.mg_none_of X G z_enumerate
  have G_MOST_SIGNS : True ∧ mg "MOST_SIGNS" = some (Value.int 40 t_MOST_SIGNS) := ⟨trivial, PySem.W.mg_of X G n_MOST_SIGNS⟩
  have G_MOST_NAMES : True ∧ mg "MOST_NAMES" = some (Value.int 100 t_MOST_NAMES) := ⟨trivial, PySem.W.mg_of X G n_MOST_NAMES⟩
  have G_NotThere := PySem.W.mg_of X G g_NotThere
  have G_Taken := PySem.W.mg_of X G g_Taken
  have G_NoName := PySem.W.mg_of X G g_NoName
  have G_Trail := PySem.W.mg_of X G g_Trail
  have G_NothingDone := PySem.W.mg_of X G g_NothingDone
  have G_TooMany := PySem.W.mg_of X G g_TooMany
  have G_TooLong := PySem.W.mg_of X G g_TooLong
  have G_NoNote := PySem.W.mg_of X G g_NoNote
  have G_TrailError := PySem.W.mg_of X G g_TrailError
  have Er_NoName : Err K mg "NoName" C_NoName C_TrailError := ⟨⟨e0_NoName, G_NoName, e1_NoName, e2_NoName, e3_NoName⟩, ⟨e4_NoName, e5_NoName, e2_NoName, e6_NoName, e7_NoName, h_n, h_t, e8_NoName⟩, e9_NoName, e10_NoName, e11_NoName⟩
  have Er_NotThere : Err K mg "NotThere" C_NotThere C_TrailError := ⟨⟨e0_NotThere, G_NotThere, e1_NotThere, e2_NotThere, e3_NotThere⟩, ⟨e4_NotThere, e5_NotThere, e2_NotThere, e6_NotThere, e7_NotThere, h_n, h_t, e8_NotThere⟩, e9_NotThere, e10_NotThere, e11_NotThere⟩
  have Er_Taken : Err K mg "Taken" C_Taken C_TrailError := ⟨⟨e0_Taken, G_Taken, e1_Taken, e2_Taken, e3_Taken⟩, ⟨e4_Taken, e5_Taken, e2_Taken, e6_Taken, e7_Taken, h_n, h_t, e8_Taken⟩, e9_Taken, e10_Taken, e11_Taken⟩
  have Er_TooLong : Err K mg "TooLong" C_TooLong C_TrailError := ⟨⟨e0_TooLong, G_TooLong, e1_TooLong, e2_TooLong, e3_TooLong⟩, ⟨e4_TooLong, e5_TooLong, e2_TooLong, e6_TooLong, e7_TooLong, h_n, h_t, e8_TooLong⟩, e9_TooLong, e10_TooLong, e11_TooLong⟩
  have Er_TooMany : Err K mg "TooMany" C_TooMany C_TrailError := ⟨⟨e0_TooMany, G_TooMany, e1_TooMany, e2_TooMany, e3_TooMany⟩, ⟨e4_TooMany, e5_TooMany, e2_TooMany, e6_TooMany, e7_TooMany, h_n, h_t, e8_TooMany⟩, e9_TooMany, e10_TooMany, e11_TooMany⟩
  have Er_NothingDone : Err K mg "NothingDone" C_NothingDone C_TrailError := ⟨⟨e0_NothingDone, G_NothingDone, e1_NothingDone, e2_NothingDone, e3_NothingDone⟩, ⟨e4_NothingDone, e5_NothingDone, e2_NothingDone, e6_NothingDone, e7_NothingDone, h_n, h_t, e8_NothingDone⟩, e9_NothingDone, e10_NothingDone, e11_NothingDone⟩
  have WT : ∀ x ∈ (["NoName", "NotThere", "Taken", "TooLong", "TooMany", "NothingDone"] : List Str), ∀ C : Addr, mg x = some (.ref C) → PySem.W.exmOne K (.ref C) (.ref C_TrailError) = some true := fun x hx C hm => by
    rcases List.mem_cons.mp hx with rfl | hx
    · rw [G_NoName] at hm
      cases hm
      exact w_NoName
    rcases List.mem_cons.mp hx with rfl | hx
    · rw [G_NotThere] at hm
      cases hm
      exact w_NotThere
    rcases List.mem_cons.mp hx with rfl | hx
    · rw [G_Taken] at hm
      cases hm
      exact w_Taken
    rcases List.mem_cons.mp hx with rfl | hx
    · rw [G_TooLong] at hm
      cases hm
      exact w_TooLong
    rcases List.mem_cons.mp hx with rfl | hx
    · rw [G_TooMany] at hm
      cases hm
      exact w_TooMany
    rcases List.mem_cons.mp hx with rfl | hx
    · rw [G_NothingDone] at hm
      cases hm
      exact w_NothingDone
    exact absurd hx List.not_mem_nil
  have KW : ∀ x ∈ excs, ∀ C : Addr, mg x = some (.ref C) → KwOk K C x [("NoName", C_NoName), ("NotThere", C_NotThere), ("TooLong", C_TooLong), ("Taken", C_Taken), ("TooMany", C_TooMany), ("NothingDone", C_NothingDone), ("NoNote", C_NoNote)] := fun x hx C hm => by
    rcases List.mem_cons.mp hx with rfl | hx
    · rw [G_NoName] at hm
      cases hm
      refine ⟨Er_NoName.ec, Er_NoName.kv, fun q hq => ?_⟩
      rcases List.mem_cons.mp hq with rfl | hq
      · rw [y_NoName_NoName]; show some true = some (decide (("NoName" : Str) = "NoName")); decide +kernel
      rcases List.mem_cons.mp hq with rfl | hq
      · rw [y_NoName_NotThere]; show some false = some (decide (("NoName" : Str) = "NotThere")); decide +kernel
      rcases List.mem_cons.mp hq with rfl | hq
      · rw [y_NoName_TooLong]; show some false = some (decide (("NoName" : Str) = "TooLong")); decide +kernel
      rcases List.mem_cons.mp hq with rfl | hq
      · rw [y_NoName_Taken]; show some false = some (decide (("NoName" : Str) = "Taken")); decide +kernel
      rcases List.mem_cons.mp hq with rfl | hq
      · rw [y_NoName_TooMany]; show some false = some (decide (("NoName" : Str) = "TooMany")); decide +kernel
      rcases List.mem_cons.mp hq with rfl | hq
      · rw [y_NoName_NothingDone]; show some false = some (decide (("NoName" : Str) = "NothingDone")); decide +kernel
      rcases List.mem_cons.mp hq with rfl | hq
      · rw [y_NoName_NoNote]; show some false = some (decide (("NoName" : Str) = "NoNote")); decide +kernel
      exact absurd hq List.not_mem_nil
    rcases List.mem_cons.mp hx with rfl | hx
    · rw [G_NotThere] at hm
      cases hm
      refine ⟨Er_NotThere.ec, Er_NotThere.kv, fun q hq => ?_⟩
      rcases List.mem_cons.mp hq with rfl | hq
      · rw [y_NotThere_NoName]; show some false = some (decide (("NotThere" : Str) = "NoName")); decide +kernel
      rcases List.mem_cons.mp hq with rfl | hq
      · rw [y_NotThere_NotThere]; show some true = some (decide (("NotThere" : Str) = "NotThere")); decide +kernel
      rcases List.mem_cons.mp hq with rfl | hq
      · rw [y_NotThere_TooLong]; show some false = some (decide (("NotThere" : Str) = "TooLong")); decide +kernel
      rcases List.mem_cons.mp hq with rfl | hq
      · rw [y_NotThere_Taken]; show some false = some (decide (("NotThere" : Str) = "Taken")); decide +kernel
      rcases List.mem_cons.mp hq with rfl | hq
      · rw [y_NotThere_TooMany]; show some false = some (decide (("NotThere" : Str) = "TooMany")); decide +kernel
      rcases List.mem_cons.mp hq with rfl | hq
      · rw [y_NotThere_NothingDone]; show some false = some (decide (("NotThere" : Str) = "NothingDone")); decide +kernel
      rcases List.mem_cons.mp hq with rfl | hq
      · rw [y_NotThere_NoNote]; show some false = some (decide (("NotThere" : Str) = "NoNote")); decide +kernel
      exact absurd hq List.not_mem_nil
    rcases List.mem_cons.mp hx with rfl | hx
    · rw [G_Taken] at hm
      cases hm
      refine ⟨Er_Taken.ec, Er_Taken.kv, fun q hq => ?_⟩
      rcases List.mem_cons.mp hq with rfl | hq
      · rw [y_Taken_NoName]; show some false = some (decide (("Taken" : Str) = "NoName")); decide +kernel
      rcases List.mem_cons.mp hq with rfl | hq
      · rw [y_Taken_NotThere]; show some false = some (decide (("Taken" : Str) = "NotThere")); decide +kernel
      rcases List.mem_cons.mp hq with rfl | hq
      · rw [y_Taken_TooLong]; show some false = some (decide (("Taken" : Str) = "TooLong")); decide +kernel
      rcases List.mem_cons.mp hq with rfl | hq
      · rw [y_Taken_Taken]; show some true = some (decide (("Taken" : Str) = "Taken")); decide +kernel
      rcases List.mem_cons.mp hq with rfl | hq
      · rw [y_Taken_TooMany]; show some false = some (decide (("Taken" : Str) = "TooMany")); decide +kernel
      rcases List.mem_cons.mp hq with rfl | hq
      · rw [y_Taken_NothingDone]; show some false = some (decide (("Taken" : Str) = "NothingDone")); decide +kernel
      rcases List.mem_cons.mp hq with rfl | hq
      · rw [y_Taken_NoNote]; show some false = some (decide (("Taken" : Str) = "NoNote")); decide +kernel
      exact absurd hq List.not_mem_nil
    rcases List.mem_cons.mp hx with rfl | hx
    · rw [G_TooLong] at hm
      cases hm
      refine ⟨Er_TooLong.ec, Er_TooLong.kv, fun q hq => ?_⟩
      rcases List.mem_cons.mp hq with rfl | hq
      · rw [y_TooLong_NoName]; show some false = some (decide (("TooLong" : Str) = "NoName")); decide +kernel
      rcases List.mem_cons.mp hq with rfl | hq
      · rw [y_TooLong_NotThere]; show some false = some (decide (("TooLong" : Str) = "NotThere")); decide +kernel
      rcases List.mem_cons.mp hq with rfl | hq
      · rw [y_TooLong_TooLong]; show some true = some (decide (("TooLong" : Str) = "TooLong")); decide +kernel
      rcases List.mem_cons.mp hq with rfl | hq
      · rw [y_TooLong_Taken]; show some false = some (decide (("TooLong" : Str) = "Taken")); decide +kernel
      rcases List.mem_cons.mp hq with rfl | hq
      · rw [y_TooLong_TooMany]; show some false = some (decide (("TooLong" : Str) = "TooMany")); decide +kernel
      rcases List.mem_cons.mp hq with rfl | hq
      · rw [y_TooLong_NothingDone]; show some false = some (decide (("TooLong" : Str) = "NothingDone")); decide +kernel
      rcases List.mem_cons.mp hq with rfl | hq
      · rw [y_TooLong_NoNote]; show some false = some (decide (("TooLong" : Str) = "NoNote")); decide +kernel
      exact absurd hq List.not_mem_nil
    rcases List.mem_cons.mp hx with rfl | hx
    · rw [G_TooMany] at hm
      cases hm
      refine ⟨Er_TooMany.ec, Er_TooMany.kv, fun q hq => ?_⟩
      rcases List.mem_cons.mp hq with rfl | hq
      · rw [y_TooMany_NoName]; show some false = some (decide (("TooMany" : Str) = "NoName")); decide +kernel
      rcases List.mem_cons.mp hq with rfl | hq
      · rw [y_TooMany_NotThere]; show some false = some (decide (("TooMany" : Str) = "NotThere")); decide +kernel
      rcases List.mem_cons.mp hq with rfl | hq
      · rw [y_TooMany_TooLong]; show some false = some (decide (("TooMany" : Str) = "TooLong")); decide +kernel
      rcases List.mem_cons.mp hq with rfl | hq
      · rw [y_TooMany_Taken]; show some false = some (decide (("TooMany" : Str) = "Taken")); decide +kernel
      rcases List.mem_cons.mp hq with rfl | hq
      · rw [y_TooMany_TooMany]; show some true = some (decide (("TooMany" : Str) = "TooMany")); decide +kernel
      rcases List.mem_cons.mp hq with rfl | hq
      · rw [y_TooMany_NothingDone]; show some false = some (decide (("TooMany" : Str) = "NothingDone")); decide +kernel
      rcases List.mem_cons.mp hq with rfl | hq
      · rw [y_TooMany_NoNote]; show some false = some (decide (("TooMany" : Str) = "NoNote")); decide +kernel
      exact absurd hq List.not_mem_nil
    rcases List.mem_cons.mp hx with rfl | hx
    · rw [G_NothingDone] at hm
      cases hm
      refine ⟨Er_NothingDone.ec, Er_NothingDone.kv, fun q hq => ?_⟩
      rcases List.mem_cons.mp hq with rfl | hq
      · rw [y_NothingDone_NoName]; show some false = some (decide (("NothingDone" : Str) = "NoName")); decide +kernel
      rcases List.mem_cons.mp hq with rfl | hq
      · rw [y_NothingDone_NotThere]; show some false = some (decide (("NothingDone" : Str) = "NotThere")); decide +kernel
      rcases List.mem_cons.mp hq with rfl | hq
      · rw [y_NothingDone_TooLong]; show some false = some (decide (("NothingDone" : Str) = "TooLong")); decide +kernel
      rcases List.mem_cons.mp hq with rfl | hq
      · rw [y_NothingDone_Taken]; show some false = some (decide (("NothingDone" : Str) = "Taken")); decide +kernel
      rcases List.mem_cons.mp hq with rfl | hq
      · rw [y_NothingDone_TooMany]; show some false = some (decide (("NothingDone" : Str) = "TooMany")); decide +kernel
      rcases List.mem_cons.mp hq with rfl | hq
      · rw [y_NothingDone_NothingDone]; show some true = some (decide (("NothingDone" : Str) = "NothingDone")); decide +kernel
      rcases List.mem_cons.mp hq with rfl | hq
      · rw [y_NothingDone_NoNote]; show some false = some (decide (("NothingDone" : Str) = "NoNote")); decide +kernel
      exact absurd hq List.not_mem_nil
    exact absurd hx List.not_mem_nil
  have O_Trail : OCls K mg "Trail" C_Trail := ⟨⟨o0_Trail, o1_Trail, o2_Trail, o3_Trail⟩, G_Trail, o4_Trail, o5_Trail⟩
  have A_past : NoAttr K C_Trail "past" := q_past
  have A_grown : NoAttr K C_Trail "grown" := q_grown
  have F0 := fun_mk (st := s_rest) l0 c0 k0
  have b0 := F0.binds (ps := ["name", "beginning"]) fun _ _ _ _ _ _ us hl => match us, hl with | [_, _], _ => rfl
  have m0 := PySem.W.mg_of X G a0
  have D_rest : Df l.prog w K mg base 1 "rest" ["name", "beginning"] S_rest := Df.mk' F0 m0 b0 (ok_rest (k := 0) F0 M_len)
  have F1 := fun_mk (st := s_branch_of) l1 c1 k1
  have b1 := F1.binds (ps := ["branches", "sign"]) fun _ _ _ _ _ _ us hl => match us, hl with | [_, _], _ => rfl
  have m1 := PySem.W.mg_of X G a1
  have D_branch_of : Df l.prog w K mg base 1 "branch_of" ["branches", "sign"] S_branch_of := Df.mk' F1 m1 b1 (ok_branch_of (k := 0) F1 )
  have F2 := fun_mk (st := s_with_branch) l2 c2 k2
  have b2 := F2.binds (ps := ["branches", "sign", "tree"]) fun _ _ _ _ _ _ us hl => match us, hl with | [_, _, _], _ => rfl
  have m2 := PySem.W.mg_of X G a2
  have D_with_branch : Df l.prog w K mg base 1 "with_branch" ["branches", "sign", "tree"] S_with_branch := Df.mk' F2 m2 b2 (ok_with_branch (k := 0) F2 M_tuple)
  have F3 := fun_mk (st := s_knot_of) l3 c3 k3
  have b3 := F3.binds (ps := ["shared", "branches"]) fun _ _ _ _ _ _ us hl => match us, hl with | [_, _], _ => rfl
  have m3 := PySem.W.mg_of X G a3
  have D_knot_of : Df l.prog w K mg base 1 "knot_of" ["shared", "branches"] S_knot_of := Df.mk' F3 m3 b3 (ok_knot_of (k := 0) F3 M_len)
  have F4 := fun_mk (st := s_found) l4 c4 k4
  have b4 := F4.binds (ps := ["tree", "name"]) fun _ _ _ _ _ _ us hl => match us, hl with | [_, _], _ => rfl
  have m4 := PySem.W.mg_of X G a4
  have D_found : Df l.prog w K mg base 2 "found" ["tree", "name"] S_found := Df.mk' F4 m4 b4 (ok_found (k := 1) F4 (D_branch_of.mono (by decide)) (D_rest.mono (by decide)))
  have F5 := fun_mk (st := s_thinned) l5 c5 k5
  have b5 := F5.binds (ps := ["tree", "name"]) fun _ _ _ _ _ _ us hl => match us, hl with | [_, _], _ => rfl
  have m5 := PySem.W.mg_of X G a5
  have R5 : ∀ n, Df l.prog w K mg base (1 + n) "thinned" ["tree", "name"] (S_thinned n) := fun n => by
      induction n with
      | zero => exact Df.zero F5 m5 b5 zero_thinned
      | succ n ih => exact Df.mk' F5 m5 b5 (ok_thinned (k := 1 + n) F5 (D_knot_of.mono (by omega)) (D_with_branch.mono (by omega)) ih (D_branch_of.mono (by omega)) M_len)
  have D_thinned : Df l.prog w K mg base 84 "thinned" ["tree", "name"] (S_thinned 83) := R5 83
  have F6 := fun_mk (st := s_without) l6 c6 k6
  have b6 := F6.binds (ps := ["tree", "name"]) fun _ _ _ _ _ _ us hl => match us, hl with | [_, _], _ => rfl
  have m6 := PySem.W.mg_of X G a6
  have D_without : Df l.prog w K mg base 85 "without" ["tree", "name"] S_without := Df.mk' F6 m6 b6 (ok_without (k := 84) F6 (D_thinned.mono (by decide)) (D_found.mono (by decide)) Er_NotThere.rz)
  have F7 := fun_mk (st := s_common) l7 c7 k7
  have b7 := F7.binds (ps := ["one", "other"]) fun _ _ _ _ _ _ us hl => match us, hl with | [_, _], _ => rfl
  have m7 := PySem.W.mg_of X G a7
  have D_common : Df l.prog w K mg base 1 "common" ["one", "other"] S_common := Df.mk' F7 m7 b7 (ok_common (k := 0) F7 M_len)
  have F8 := fun_mk (st := s_behind) l8 c8 k8
  have b8 := F8.binds (ps := ["tree", "size"]) fun _ _ _ _ _ _ us hl => match us, hl with | [_, _], _ => rfl
  have m8 := PySem.W.mg_of X G a8
  have D_behind : Df l.prog w K mg base 1 "behind" ["tree", "size"] S_behind := Df.mk' F8 m8 b8 (ok_behind (k := 0) F8 )
  have F9 := fun_mk (st := s_branches_behind) l9 c9 k9
  have b9 := F9.binds (ps := ["tree", "size"]) fun _ _ _ _ _ _ us hl => match us, hl with | [_, _], _ => rfl
  have m9 := PySem.W.mg_of X G a9
  have D_branches_behind : Df l.prog w K mg base 2 "branches_behind" ["tree", "size"] S_branches_behind := Df.mk' F9 m9 b9 (ok_branches_behind (k := 1) F9 (D_behind.mono (by decide)) M_len)
  have F10 := fun_mk (st := s_joined) l10 c10 k10
  have b10 := F10.binds (ps := ["one", "other"]) fun _ _ _ _ _ _ us hl => match us, hl with | [_, _], _ => rfl
  have m10 := PySem.W.mg_of X G a10
  have R10 : ∀ n, Df l.prog w K mg base (2 + n) "joined" ["one", "other"] (S_joined n) := fun n => by
      induction n with
      | zero => exact Df.zero F10 m10 b10 zero_joined
      | succ n ih => exact Df.mk' F10 m10 b10 (ok_joined (k := 2 + n) F10 (D_branches_behind.mono (by omega)) M_len (D_with_branch.mono (by omega)) ih Er_Taken.rz (D_branch_of.mono (by omega)) (D_common.mono (by omega)))
  have D_joined : Df l.prog w K mg base 85 "joined" ["one", "other"] (S_joined 83) := R10 83
  have F11 := fun_mk (st := s_names) l11 c11 k11
  have b11 := F11.binds (ps := ["tree"]) fun _ _ _ _ _ _ us hl => match us, hl with | [_], _ => rfl
  have m11 := PySem.W.mg_of X G a11
  have R11 : ∀ n, Df l.prog w K mg base (1 + n) "names" ["tree"] (S_names n) := fun n => by
      induction n with
      | zero => exact Df.zero F11 m11 b11 zero_names
      | succ n ih => exact Df.mk' F11 m11 b11 (ok_names (k := 1 + n) F11 ih)
  have D_names : Df l.prog w K mg base 85 "names" ["tree"] (S_names 84) := R11 84
  have F12 := fun_mk (st := s_cut) l12 c12 k12
  have b12 := F12.binds (ps := ["tree", "beginning"]) fun _ _ _ _ _ _ us hl => match us, hl with | [_, _], _ => rfl
  have m12 := PySem.W.mg_of X G a12
  have R12 : ∀ n, Df l.prog w K mg base (1 + n) "cut" ["tree", "beginning"] (S_cut n) := fun n => by
      induction n with
      | zero => exact Df.zero F12 m12 b12 zero_cut
      | succ n ih => exact Df.mk' F12 m12 b12 (ok_cut (k := 1 + n) F12 (D_knot_of.mono (by omega)) (D_with_branch.mono (by omega)) ih (D_branch_of.mono (by omega)) M_len (D_common.mono (by omega)))
  have D_cut : Df l.prog w K mg base 85 "cut" ["tree", "beginning"] (S_cut 84) := R12 84
  have F13 := fun_mk (st := s_ahead) l13 c13 k13
  have b13 := F13.binds (ps := ["tree", "beginning"]) fun _ _ _ _ _ _ us hl => match us, hl with | [_, _], _ => rfl
  have m13 := PySem.W.mg_of X G a13
  have D_ahead : Df l.prog w K mg base 1 "ahead" ["tree", "beginning"] S_ahead := Df.mk' F13 m13 b13 (ok_ahead (k := 0) F13 )
  have F14 := fun_mk (st := s_moved) l14 c14 k14
  have b14 := F14.binds (ps := ["tree", "beginning", "other"]) fun _ _ _ _ _ _ us hl => match us, hl with | [_, _, _], _ => rfl
  have m14 := PySem.W.mg_of X G a14
  have D_moved : Df l.prog w K mg base 86 "moved" ["tree", "beginning", "other"] S_moved := Df.mk' F14 m14 b14 (ok_moved (k := 85) F14 (D_joined.mono (by decide)) (D_ahead.mono (by decide)) Er_NotThere.rz (D_cut.mono (by decide)))
  have F15 := fun_mk (st := s_copied) l15 c15 k15
  have b15 := F15.binds (ps := ["tree", "beginning", "other"]) fun _ _ _ _ _ _ us hl => match us, hl with | [_, _, _], _ => rfl
  have m15 := PySem.W.mg_of X G a15
  have D_copied : Df l.prog w K mg base 86 "copied" ["tree", "beginning", "other"] S_copied := Df.mk' F15 m15 b15 (ok_copied (k := 85) F15 (D_joined.mono (by decide)) (D_ahead.mono (by decide)) Er_NotThere.rz (D_cut.mono (by decide)))
  have F16 := fun_mk (st := s_put) l16 c16 k16
  have b16 := F16.binds (ps := ["tree", "name", "number"]) fun _ _ _ _ _ _ us hl => match us, hl with | [_, _, _], _ => rfl
  have m16 := PySem.W.mg_of X G a16
  have R16 : ∀ n, Df l.prog w K mg base (1 + n) "put" ["tree", "name", "number"] (S_put n) := fun n => by
      induction n with
      | zero => exact Df.zero F16 m16 b16 zero_put
      | succ n ih => exact Df.mk' F16 m16 b16 (ok_put (k := 1 + n) F16 (D_with_branch.mono (by omega)) ih (D_branch_of.mono (by omega)) M_len (D_behind.mono (by omega)) (D_common.mono (by omega)))
  have D_put : Df l.prog w K mg base 85 "put" ["tree", "name", "number"] (S_put 84) := R16 84
  have F17 := fun_mk (st := s_under) l17 c17 k17
  have b17 := F17.binds (ps := ["tree", "beginning"]) fun _ _ _ _ _ _ us hl => match us, hl with | [_, _], _ => rfl
  have m17 := PySem.W.mg_of X G a17
  have D_under : Df l.prog w K mg base 86 "under" ["tree", "beginning"] S_under := Df.mk' F17 m17 b17 (ok_under (k := 85) F17 (D_names.mono (by decide)) (D_cut.mono (by decide)))
  have F18 := fun_mk (st := s_many) l18 c18 k18
  have b18 := F18.binds (ps := ["tree", "beginning"]) fun _ _ _ _ _ _ us hl => match us, hl with | [_, _], _ => rfl
  have m18 := PySem.W.mg_of X G a18
  have D_many : Df l.prog w K mg base 87 "many" ["tree", "beginning"] S_many := Df.mk' F18 m18 b18 (ok_many (k := 86) F18 M_len (D_under.mono (by decide)))
  have F19 := fun_mk (st := s_is_sign) l19 c19 k19
  have b19 := F19.binds (ps := ["sign"]) fun _ _ _ _ _ _ us hl => match us, hl with | [_], _ => rfl
  have m19 := PySem.W.mg_of X G a19
  have D_is_sign : Df l.prog w K mg base 1 "is_sign" ["sign"] S_is_sign := Df.mk' F19 m19 b19 (ok_is_sign (k := 0) F19 M_ord)
  have F20 := fun_mk (st := s_is_name) l20 c20 k20
  have b20 := F20.binds (ps := ["thing"]) fun _ _ _ _ _ _ us hl => match us, hl with | [_], _ => rfl
  have m20 := PySem.W.mg_of X G a20
  have D_is_name : Df l.prog w K mg base 2 "is_name" ["thing"] S_is_name := Df.mk' F20 m20 b20 (ok_is_name (k := 1) F20 (D_is_sign.mono (by decide)) M_len G_MOST_SIGNS M_isinstance M_str)
  have F21 := fun_mk (st := s_need_name) l21 c21 k21
  have b21 := F21.binds (ps := ["thing"]) fun _ _ _ _ _ _ us hl => match us, hl with | [_], _ => rfl
  have m21 := PySem.W.mg_of X G a21
  have D_need_name : Df l.prog w K mg base 3 "need_name" ["thing"] S_need_name := Df.mk' F21 m21 b21 (ok_need_name (k := 2) F21 (D_is_name.mono (by decide)) Er_NoName.rz)
  have F22 := fun_mk (st := s_Trail___init__) l22 c22 k22
  have b22 := F22.binds (ps := ["self"]) fun _ _ _ _ _ _ us hl => match us, hl with | [_], _ => rfl
  have m22 : Meth K C_Trail "__init__" f22 := ⟨a22, i22, k22⟩
  have D_Trail___init__ : DfM l.prog w K mg base 1 C_Trail "__init__" ["self"] (S_Trail___init__ C_Trail) := DfM.mk' F22 m22 b22 (ok_Trail___init__ (k := 0) F22 O_Trail A_past A_grown)
  have F23 := fun_mk (st := s_Trail_do) l23 c23 k23
  have b23 := F23.binds (ps := ["self", "tree"]) fun _ _ _ _ _ _ us hl => match us, hl with | [_, _], _ => rfl
  have m23 : Meth K C_Trail "do" f23 := ⟨a23, i23, k23⟩
  have D_Trail_do : DfM l.prog w K mg base 1 C_Trail "do" ["self", "tree"] (S_Trail_do C_Trail) := DfM.mk' F23 m23 b23 (ok_Trail_do (k := 0) F23 O_Trail A_grown A_past)
  have F24 := fun_mk (st := s_Trail_tree) l24 c24 k24
  have b24 := F24.binds (ps := ["self"]) fun _ _ _ _ _ _ us hl => match us, hl with | [_], _ => rfl
  have m24 : Meth K C_Trail "tree" f24 := ⟨a24, i24, k24⟩
  have D_Trail_tree : DfM l.prog w K mg base 1 C_Trail "tree" ["self"] (S_Trail_tree C_Trail) := DfM.mk' F24 m24 b24 (ok_Trail_tree (k := 0) F24 O_Trail A_grown)
  have F25 := fun_mk (st := s_Trail_size) l25 c25 k25
  have b25 := F25.binds (ps := ["self"]) fun _ _ _ _ _ _ us hl => match us, hl with | [_], _ => rfl
  have m25 : Meth K C_Trail "size" f25 := ⟨a25, i25, k25⟩
  have D_Trail_size : DfM l.prog w K mg base 88 C_Trail "size" ["self"] (S_Trail_size C_Trail) := DfM.mk' F25 m25 b25 (ok_Trail_size (k := 87) F25 O_Trail (D_many.mono (by decide)) A_grown)
  have F26 := fun_mk (st := s_Trail_told) l26 c26 k26
  have b26 := F26.binds (ps := ["self", "beginning"]) fun _ _ _ _ _ _ us hl => match us, hl with | [_, _], _ => rfl
  have m26 : Meth K C_Trail "told" f26 := ⟨a26, i26, k26⟩
  have D_Trail_told : DfM l.prog w K mg base 87 C_Trail "told" ["self", "beginning"] (S_Trail_told C_Trail) := DfM.mk' F26 m26 b26 (ok_Trail_told (k := 86) F26 O_Trail (D_under.mono (by decide)) A_grown (D_need_name.mono (by decide)))
  have F27 := fun_mk (st := s_Trail_back) l27 c27 k27
  have b27 := F27.binds (ps := ["self"]) fun _ _ _ _ _ _ us hl => match us, hl with | [_], _ => rfl
  have m27 : Meth K C_Trail "back" f27 := ⟨a27, i27, k27⟩
  have D_Trail_back : DfM l.prog w K mg base 1 C_Trail "back" ["self"] (S_Trail_back C_Trail) := DfM.mk' F27 m27 b27 (ok_Trail_back (k := 0) F27 O_Trail A_grown A_past Er_NothingDone.rz)
  have F28 := fun_mk (st := s_Trail_keep) l28 c28 k28
  have b28 := F28.binds (ps := ["self", "name", "number"]) fun _ _ _ _ _ _ us hl => match us, hl with | [_, _, _], _ => rfl
  have m28 : Meth K C_Trail "keep" f28 := ⟨a28, i28, k28⟩
  have D_Trail_keep : DfM l.prog w K mg base 89 C_Trail "keep" ["self", "name", "number"] (S_Trail_keep C_Trail) := DfM.mk' F28 m28 b28 (ok_Trail_keep (k := 88) F28 O_Trail (D_Trail_do.mono (by decide)) (D_put.mono (by decide)) A_grown (D_Trail_size.mono (by decide)) G_MOST_NAMES Er_TooMany.rz (D_found.mono (by decide)) (D_need_name.mono (by decide)))
  have F29 := fun_mk (st := s_Trail_drop) l29 c29 k29
  have b29 := F29.binds (ps := ["self", "name"]) fun _ _ _ _ _ _ us hl => match us, hl with | [_, _], _ => rfl
  have m29 : Meth K C_Trail "drop" f29 := ⟨a29, i29, k29⟩
  have D_Trail_drop : DfM l.prog w K mg base 86 C_Trail "drop" ["self", "name"] (S_Trail_drop C_Trail) := DfM.mk' F29 m29 b29 (ok_Trail_drop (k := 85) F29 O_Trail (D_Trail_do.mono (by decide)) (D_without.mono (by decide)) A_grown (D_found.mono (by decide)) (D_need_name.mono (by decide)))
  have F30 := fun_mk (st := s_Trail_prune) l30 c30 k30
  have b30 := F30.binds (ps := ["self", "beginning"]) fun _ _ _ _ _ _ us hl => match us, hl with | [_, _], _ => rfl
  have m30 : Meth K C_Trail "prune" f30 := ⟨a30, i30, k30⟩
  have D_Trail_prune : DfM l.prog w K mg base 86 C_Trail "prune" ["self", "beginning"] (S_Trail_prune C_Trail) := DfM.mk' F30 m30 b30 (ok_Trail_prune (k := 85) F30 O_Trail M_len (D_names.mono (by decide)) (D_Trail_do.mono (by decide)) Er_NotThere.rz (D_cut.mono (by decide)) A_grown (D_need_name.mono (by decide)))
  have F31 := fun_mk (st := s_need_branch) l31 c31 k31
  have b31 := F31.binds (ps := ["tree", "beginning", "other"]) fun _ _ _ _ _ _ us hl => match us, hl with | [_, _, _], _ => rfl
  have m31 := PySem.W.mg_of X G a31
  have D_need_branch : Df l.prog w K mg base 86 "need_branch" ["tree", "beginning", "other"] S_need_branch := Df.mk' F31 m31 b31 (ok_need_branch (k := 85) F31 (D_names.mono (by decide)) M_len G_MOST_SIGNS Er_TooLong.rz Er_NotThere.rz (D_cut.mono (by decide)) (D_need_name.mono (by decide)))
  have F32 := fun_mk (st := s_Trail_move) l32 c32 k32
  have b32 := F32.binds (ps := ["self", "beginning", "other"]) fun _ _ _ _ _ _ us hl => match us, hl with | [_, _, _], _ => rfl
  have m32 : Meth K C_Trail "move" f32 := ⟨a32, i32, k32⟩
  have D_Trail_move : DfM l.prog w K mg base 87 C_Trail "move" ["self", "beginning", "other"] (S_Trail_move C_Trail) := DfM.mk' F32 m32 b32 (ok_Trail_move (k := 86) F32 O_Trail M_len (D_names.mono (by decide)) (D_Trail_do.mono (by decide)) (D_moved.mono (by decide)) A_grown (D_need_branch.mono (by decide)))
  have F33 := fun_mk (st := s_Trail_graft) l33 c33 k33
  have b33 := F33.binds (ps := ["self", "beginning", "other"]) fun _ _ _ _ _ _ us hl => match us, hl with | [_, _, _], _ => rfl
  have m33 : Meth K C_Trail "graft" f33 := ⟨a33, i33, k33⟩
  have D_Trail_graft : DfM l.prog w K mg base 89 C_Trail "graft" ["self", "beginning", "other"] (S_Trail_graft C_Trail) := DfM.mk' F33 m33 b33 (ok_Trail_graft (k := 88) F33 O_Trail (D_Trail_do.mono (by decide)) (D_Trail_size.mono (by decide)) G_MOST_NAMES Er_TooMany.rz M_len (D_names.mono (by decide)) (D_copied.mono (by decide)) A_grown (D_need_branch.mono (by decide)))
  have F34 := fun_mk (st := s__law_cell_at) l34 c34 k34
  have b34 := F34.binds (ps := ["_law_script", "_law_k"]) fun _ _ _ _ _ _ us hl => match us, hl with | [_, _], _ => rfl
  have m34 := PySem.W.mg_of X G a34
  have D__law_cell_at : Df l.prog w K mg base 1 "_law_cell_at" ["_law_script", "_law_k"] S__law_cell_at := Df.mk' F34 m34 b34 (ok__law_cell_at (k := 0) F34 M_len)
  have F35 := fun_mk (st := s__law_whole) l35 c35 k35
  have b35 := F35.binds (ps := ["_law_told"]) fun _ _ _ _ _ _ us hl => match us, hl with | [_], _ => rfl
  have m35 := PySem.W.mg_of X G a35
  have D__law_whole : Df l.prog w K mg base 1 "_law_whole" ["_law_told"] S__law_whole := Df.mk' F35 m35 b35 (ok__law_whole (k := 0) F35 M_isinstance M_bool M_int)
  have F36 := fun_mk (st := s__law_sign_by) l36 c36 k36
  have b36 := F36.binds (ps := ["_law_cell"]) fun _ _ _ _ _ _ us hl => match us, hl with | [_], _ => rfl
  have m36 := PySem.W.mg_of X G a36
  have D__law_sign_by : Df l.prog w K mg base 1 "_law_sign_by" ["_law_cell"] S__law_sign_by := Df.mk' F36 m36 b36 (ok__law_sign_by (k := 0) F36 )
  have F37 := fun_mk (st := s__law_word_by) l37 c37 k37
  have b37 := F37.binds (ps := ["_law_cell", "_law_size"]) fun _ _ _ _ _ _ us hl => match us, hl with | [_, _], _ => rfl
  have m37 := PySem.W.mg_of X G a37
  have D__law_word_by : Df l.prog w K mg base 2 "_law_word_by" ["_law_cell", "_law_size"] S__law_word_by := Df.mk' F37 m37 b37 (ok__law_word_by (k := 1) F37 M_range (D__law_sign_by.mono (by decide)))
  have F38 := fun_mk (st := s__law_number_by) l38 c38 k38
  have b38 := F38.binds (ps := ["_law_cell"]) fun _ _ _ _ _ _ us hl => match us, hl with | [_], _ => rfl
  have m38 := PySem.W.mg_of X G a38
  have D__law_number_by : Df l.prog w K mg base 1 "_law_number_by" ["_law_cell"] S__law_number_by := Df.mk' F38 m38 b38 (ok__law_number_by (k := 0) F38 M_range)
  have F39 := fun_mk (st := s__law_alike) l39 c39 k39
  have b39 := F39.binds (ps := ["_law_told", "_law_due_here"]) fun _ _ _ _ _ _ us hl => match us, hl with | [_, _], _ => rfl
  have m39 := PySem.W.mg_of X G a39
  have R39 : ∀ n, Df l.prog w K mg base (1 + n) "_law_alike" ["_law_told", "_law_due_here"] (S__law_alike n) := fun n => by
      induction n with
      | zero => exact Df.zero F39 m39 b39 zero_alike
      | succ n ih => exact Df.mk' F39 m39 b39 (ok__law_alike (k := 1 + n) F39 M_range M_len ih M_isinstance M_list M_tuple M_int (D__law_whole.mono (by omega)) M_str)
  have D__law_alike : Df l.prog w K mg base 251 "_law_alike" ["_law_told", "_law_due_here"] (S__law_alike 250) := R39 250
  have F40 := fun_mk (st := s__law_text_by) l40 c40 k40
  have b40 := F40.binds (ps := ["_law_cell", "_law_held"]) fun _ _ _ _ _ _ us hl => match us, hl with | [_, _], _ => rfl
  have m40 := PySem.W.mg_of X G a40
  have D__law_text_by : Df l.prog w K mg base 3 "_law_text_by" ["_law_cell", "_law_held"] S__law_text_by := Df.mk' F40 m40 b40 (ok__law_text_by (k := 2) F40 M_len (D__law_word_by.mono (by decide)) M_int)
  have F41 := fun_mk (st := s__law_other_by) l41 c41 k41
  have b41 := F41.binds (ps := ["_law_cell", "_law_held"]) fun _ _ _ _ _ _ us hl => match us, hl with | [_, _], _ => rfl
  have m41 := PySem.W.mg_of X G a41
  have D__law_other_by : Df l.prog w K mg base 4 "_law_other_by" ["_law_cell", "_law_held"] S__law_other_by := Df.mk' F41 m41 b41 (ok__law_other_by (k := 3) F41 (D__law_text_by.mono (by decide)))
  have F42 := fun_mk (st := s__law_word_of) l42 c42 k42
  have b42 := F42.binds (ps := ["_law_e"]) fun _ _ _ _ _ _ us hl => match us, hl with | [_], _ => rfl
  have m42 := PySem.W.mg_of X G a42
  have D__law_word_of : DfE l.prog w K mg base 1 "_law_word_of" "_law_e" (S__law_word_of mg) := DfE.mk' F42 m42 b42 (ok__law_word_of (k := 0) F42 M_isinstance M_ValueError G_NoNote G_NothingDone G_TooMany G_Taken G_TooLong G_NotThere G_NoName KW)
  have F43 := fun_mk (st := s__law_named) l43 c43 k43
  have b43 := F43.binds (ps := ["_law_thing"]) fun _ _ _ _ _ _ us hl => match us, hl with | [_], _ => rfl
  have m43 := PySem.W.mg_of X G a43
  have D__law_named : Df l.prog w K mg base 1 "_law_named" ["_law_thing"] S__law_named := Df.mk' F43 m43 b43 (ok__law_named (k := 0) F43 M_len M_isinstance M_str)
  have F44 := fun_mk (st := s__law_tried) l44 c44 k44
  have b44 := F44.binds (ps := ["_law_trail", "_law_way", "_law_one", "_law_other", "_law_number"]) fun _ _ _ _ _ _ us hl => match us, hl with | [_, _, _, _, _], _ => rfl
  have m44 := PySem.W.mg_of X G a44
  have D__law_tried : Df l.prog w K mg base 90 "_law_tried" ["_law_trail", "_law_way", "_law_one", "_law_other", "_law_number"] (S__law_tried C_Trail) := Df.mk' F44 m44 b44 (ok__law_tried (k := 89) F44 O_Trail G_TrailError (D_Trail_back.mono (by decide)) (D_Trail_told.mono (by decide)) (D_Trail_graft.mono (by decide)) (D_Trail_move.mono (by decide)) (D_Trail_prune.mono (by decide)) (D_Trail_drop.mono (by decide)) (D_Trail_keep.mono (by decide)) (D__law_word_of.mono (by decide)) WT)
  have F45 := fun_mk (st := s__law_branch) l45 c45 k45
  have b45 := F45.binds (ps := ["_law_plain", "_law_one", "_law_other", "_law_stay"]) fun _ _ _ _ _ _ us hl => match us, hl with | [_, _, _, _], _ => rfl
  have m45 := PySem.W.mg_of X G a45
  have D__law_branch : Df l.prog w K mg base 1 "_law_branch" ["_law_plain", "_law_one", "_law_other", "_law_stay"] S__law_branch := Df.mk' F45 m45 b45 (ok__law_branch (k := 0) F45 M_len M_range M_max M_sorted)
  have F46 := fun_mk (st := s__law_due) l46 c46 k46
  have b46 := F46.binds (ps := ["_law_plain", "_law_way", "_law_one", "_law_other", "_law_number"]) fun _ _ _ _ _ _ us hl => match us, hl with | [_, _, _, _, _], _ => rfl
  have m46 := PySem.W.mg_of X G a46
  have D__law_due : Df l.prog w K mg base 2 "_law_due" ["_law_plain", "_law_way", "_law_one", "_law_other", "_law_number"] S__law_due := Df.mk' F46 m46 b46 (ok__law_due (k := 1) F46 M_len (D__law_branch.mono (by decide)) (D__law_named.mono (by decide)))
  have F47 := fun_mk (st := s__law_first_deeds) l47 c47 k47
  have b47 := F47.binds (ps := ["_law_begin", "_law_word"]) fun _ _ _ _ _ _ us hl => match us, hl with | [_, _], _ => rfl
  have m47 := PySem.W.mg_of X G a47
  have D__law_first_deeds : Df l.prog w K mg base 1 "_law_first_deeds" ["_law_begin", "_law_word"] S__law_first_deeds := Df.mk' F47 m47 b47 (ok__law_first_deeds (k := 0) F47 )
  have F48 := fun_mk (st := s__law_begun) l48 c48 k48
  have b48 := F48.binds (ps := ["_law_trail", "_law_past", "_law_way", "_law_word", "_law_more"]) fun _ _ _ _ _ _ us hl => match us, hl with | [_, _, _, _, _], _ => rfl
  have m48 := PySem.W.mg_of X G a48
  have D__law_begun : Df l.prog w K mg base 90 "_law_begun" ["_law_trail", "_law_past", "_law_way", "_law_word", "_law_more"] (S__law_begun C_Trail) := Df.mk' F48 m48 b48 (ok__law_begun (k := 89) F48 O_Trail M_range M_int M_str (D_Trail_keep.mono (by decide)) M_dict M_list (D_Trail_graft.mono (by decide)) M_len)
  have F49 := fun_mk (st := s__law_tells) l49 c49 k49
  have b49 := F49.binds (ps := ["_law_trail", "_law_start", "_law_plain", "_law_kept"]) fun _ _ _ _ _ _ us hl => match us, hl with | [_, _, _, _], _ => rfl
  have m49 := PySem.W.mg_of X G a49
  have D__law_tells : Df l.prog w K mg base 252 "_law_tells" ["_law_trail", "_law_start", "_law_plain", "_law_kept"] (S__law_tells C_Trail) := Df.mk' F49 m49 b49 (ok__law_tells (k := 251) F49 O_Trail (D__law_alike.mono (by decide)) M_len (D__law_tried.mono (by decide)) M_list (D_Trail_told.mono (by decide)) (D__law_named.mono (by decide)) M_sorted)
  have F50 := fun_mk (st := s_law) l50 c50 k50
  have b50 := F50.binds (ps := ["_law_script"]) fun _ _ _ _ _ _ us hl => match us, hl with | [_], _ => rfl
  have m50 := PySem.W.mg_of X G a50
  exact law_end (by decide) (by decide) (ok_law (k := 252) F50 O_Trail (by decide) (D__law_alike.mono (by decide)) G_MOST_NAMES M_enumerate M_len (D_Trail_size.mono (by decide)) (D__law_tells.mono (by decide)) (D__law_text_by.mono (by decide)) M_sorted (D__law_tried.mono (by decide)) (D__law_due.mono (by decide)) (D__law_number_by.mono (by decide)) (D__law_other_by.mono (by decide)) M_int (D__law_first_deeds.mono (by decide)) (D__law_begun.mono (by decide)) (D__law_word_by.mono (by decide)) (D__law_cell_at.mono (by decide)) (D_Trail___init__.mono (by decide)))
theorem law_walk {l : PySem.W.OpenLaw} {q : Program} {loose : List Str} {XP : (Str → Option Value) → Heap → Prop} {YP : World → Heap → Prop} {d : DefRec} {K : Params → PySem.W.Frag} (hn : l.most = some 63) (hdf : d.params.defaults = [])
    (hY : ∀ (w : World) (h : Heap), YP w h → (K w.params).In h)
    (F : ∀ (w : World) (mg : Str → Option Value) (fa : Addr) (h : Heap), (K w.params).In h → h.Ns mainGlobals mg → mg d.name = some (.ref fa) →
      ∃ fd : FuncData, (∀ (s : Shared) (u : Value), BindsTo s fd ⟨[u], []⟩ [("_law_script", u)]) ∧ ∀ base : Heap, (K w.params).In base → base.Ns mainGlobals mg → FnOk l.prog w (K w.params) mg base (L2.CX l.prog w) 89 fa fd ["_law_script"] (spLaw (K w.params))) :
    PySem.W.WalkO q loose XP YP l.row.toRowW d [] (fun f vs => PySem.call f vs) :=
  L2.walk_of (n := 63) (k := 89) (x := "_law_script") (CX := fun w => L2.CX l.prog w) (sp := fun w => spLaw (K w.params)) hn (by decide) hdf ⟨rfl, by decide, by decide⟩ hY F (fun _ _ a ns hl _ hS => ⟨a, ns, rfl, hS, hl, fun _ => rfl⟩) no_law_raise
end DL
open PySem PySem.W PyProof.Rows
set_option maxRecDepth 100000 in
set_option maxHeartbeats 0 in
theorem PySem.Challenge.cw_radixtrail_k12_whole_deeds_holds : PySem.Challenge.rw_radixtrail_k12_whole_deeds.Holds := by
  w_on; o_law; k_head; (case hw => w_witness2)
  k_fill
  refine DL.law_walk (l := PySem.Challenge.rw_radixtrail_k12_whole_deeds) rfl rfl (fun w h Y => PySem.W.kIn_of Y) ?F
  case F =>
    intro w mg fa h KX G hmg
    refine' DL.all_mk KX G hmg ?a0 ?l0 ?c0 ?k0 ?a1 ?l1 ?c1 ?k1 ?a2 ?l2 ?c2 ?k2 ?a3 ?l3 ?c3 ?k3 ?a4 ?l4 ?c4 ?k4 ?a5 ?l5 ?c5 ?k5 ?a6 ?l6 ?c6 ?k6 ?a7 ?l7 ?c7 ?k7 ?a8 ?l8 ?c8 ?k8 ?a9 ?l9 ?c9 ?k9 ?a10 ?l10 ?c10 ?k10 ?a11 ?l11 ?c11 ?k11 ?a12 ?l12 ?c12 ?k12 ?a13 ?l13 ?c13 ?k13 ?a14 ?l14 ?c14 ?k14 ?a15 ?l15 ?c15 ?k15 ?a16 ?l16 ?c16 ?k16 ?a17 ?l17 ?c17 ?k17 ?a18 ?l18 ?c18 ?k18 ?a19 ?l19 ?c19 ?k19 ?a20 ?l20 ?c20 ?k20 ?a21 ?l21 ?c21 ?k21 ?a22 ?i22 ?l22 ?c22 ?k22 ?a23 ?i23 ?l23 ?c23 ?k23 ?a24 ?i24 ?l24 ?c24 ?k24 ?a25 ?i25 ?l25 ?c25 ?k25 ?a26 ?i26 ?l26 ?c26 ?k26 ?a27 ?i27 ?l27 ?c27 ?k27 ?a28 ?i28 ?l28 ?c28 ?k28 ?a29 ?i29 ?l29 ?c29 ?k29 ?a30 ?i30 ?l30 ?c30 ?k30 ?a31 ?l31 ?c31 ?k31 ?a32 ?i32 ?l32 ?c32 ?k32 ?a33 ?i33 ?l33 ?c33 ?k33 ?a34 ?l34 ?c34 ?k34 ?a35 ?l35 ?c35 ?k35 ?a36 ?l36 ?c36 ?k36 ?a37 ?l37 ?c37 ?k37 ?a38 ?l38 ?c38 ?k38 ?a39 ?l39 ?c39 ?k39 ?a40 ?l40 ?c40 ?k40 ?a41 ?l41 ?c41 ?k41 ?a42 ?l42 ?c42 ?k42 ?a43 ?l43 ?c43 ?k43 ?a44 ?l44 ?c44 ?k44 ?a45 ?l45 ?c45 ?k45 ?a46 ?l46 ?c46 ?k46 ?a47 ?l47 ?c47 ?k47 ?a48 ?l48 ?c48 ?k48 ?a49 ?l49 ?c49 ?k49 ?a50 ?l50 ?c50 ?k50 ?z_len ?z_tuple ?z_ord ?z_isinstance ?z_str ?z_bool ?z_int ?z_range ?z_list ?z_ValueError ?z_max ?z_sorted ?z_dict ?z_enumerate ?n_MOST_SIGNS ?n_MOST_NAMES ?g_NotThere ?g_Taken ?g_NoName ?g_Trail ?g_NothingDone ?g_TooMany ?g_TooLong ?g_NoNote ?g_TrailError ?o0_Trail ?o1_Trail ?o2_Trail ?o3_Trail ?o4_Trail ?o5_Trail ?q_past ?q_grown ?e0_NoName ?e1_NoName ?e2_NoName ?e3_NoName ?e4_NoName ?e5_NoName ?e6_NoName ?e7_NoName ?e8_NoName ?e9_NoName ?e10_NoName ?e11_NoName ?e0_NotThere ?e1_NotThere ?e2_NotThere ?e3_NotThere ?e4_NotThere ?e5_NotThere ?e6_NotThere ?e7_NotThere ?e8_NotThere ?e9_NotThere ?e10_NotThere ?e11_NotThere ?e0_Taken ?e1_Taken ?e2_Taken ?e3_Taken ?e4_Taken ?e5_Taken ?e6_Taken ?e7_Taken ?e8_Taken ?e9_Taken ?e10_Taken ?e11_Taken ?e0_TooLong ?e1_TooLong ?e2_TooLong ?e3_TooLong ?e4_TooLong ?e5_TooLong ?e6_TooLong ?e7_TooLong ?e8_TooLong ?e9_TooLong ?e10_TooLong ?e11_TooLong ?e0_TooMany ?e1_TooMany ?e2_TooMany ?e3_TooMany ?e4_TooMany ?e5_TooMany ?e6_TooMany ?e7_TooMany ?e8_TooMany ?e9_TooMany ?e10_TooMany ?e11_TooMany ?e0_NothingDone ?e1_NothingDone ?e2_NothingDone ?e3_NothingDone ?e4_NothingDone ?e5_NothingDone ?e6_NothingDone ?e7_NothingDone ?e8_NothingDone ?e9_NothingDone ?e10_NothingDone ?e11_NothingDone ?u_NoName_NotThere ?u_NoName_Taken ?u_NoName_TooLong ?u_NoName_TooMany ?u_NoName_NothingDone ?u_NotThere_NoName ?u_NotThere_Taken ?u_NotThere_TooLong ?u_NotThere_TooMany ?u_NotThere_NothingDone ?u_Taken_NoName ?u_Taken_NotThere ?u_Taken_TooLong ?u_Taken_TooMany ?u_Taken_NothingDone ?u_TooLong_NoName ?u_TooLong_NotThere ?u_TooLong_Taken ?u_TooLong_TooMany ?u_TooLong_NothingDone ?u_TooMany_NoName ?u_TooMany_NotThere ?u_TooMany_Taken ?u_TooMany_TooLong ?u_TooMany_NothingDone ?u_NothingDone_NoName ?u_NothingDone_NotThere ?u_NothingDone_Taken ?u_NothingDone_TooLong ?u_NothingDone_TooMany ?w_NoName ?w_NotThere ?w_Taken ?w_TooLong ?w_TooMany ?w_NothingDone ?y_NoName_NoName ?y_NoName_NotThere ?y_NoName_TooLong ?y_NoName_Taken ?y_NoName_TooMany ?y_NoName_NothingDone ?y_NoName_NoNote ?y_NotThere_NoName ?y_NotThere_NotThere ?y_NotThere_TooLong ?y_NotThere_Taken ?y_NotThere_TooMany ?y_NotThere_NothingDone ?y_NotThere_NoNote ?y_Taken_NoName ?y_Taken_NotThere ?y_Taken_TooLong ?y_Taken_Taken ?y_Taken_TooMany ?y_Taken_NothingDone ?y_Taken_NoNote ?y_TooLong_NoName ?y_TooLong_NotThere ?y_TooLong_TooLong ?y_TooLong_Taken ?y_TooLong_TooMany ?y_TooLong_NothingDone ?y_TooLong_NoNote ?y_TooMany_NoName ?y_TooMany_NotThere ?y_TooMany_TooLong ?y_TooMany_Taken ?y_TooMany_TooMany ?y_TooMany_NothingDone ?y_TooMany_NoNote ?y_NothingDone_NoName ?y_NothingDone_NotThere ?y_NothingDone_TooLong ?y_NothingDone_Taken ?y_NothingDone_TooMany ?y_NothingDone_NothingDone ?y_NothingDone_NoNote ?h_n ?h_t
    (case g_NotThere => first | k_is | k_exc | rfl)
    (case g_Taken => first | k_is | k_exc | rfl)
    (case g_NoName => first | k_is | k_exc | rfl)
    (case g_Trail => first | k_is | k_exc | rfl)
    (case g_NothingDone => first | k_is | k_exc | rfl)
    (case g_TooMany => first | k_is | k_exc | rfl)
    (case g_TooLong => first | k_is | k_exc | rfl)
    (case g_NoNote => first | k_is | k_exc | rfl)
    (case g_TrailError => first | k_is | k_exc | rfl)
    (case a0 => first | k_is | k_exc | rfl)
    (case l0 => first | k_is | k_exc | rfl)
    (case a1 => first | k_is | k_exc | rfl)
    (case l1 => first | k_is | k_exc | rfl)
    (case a2 => first | k_is | k_exc | rfl)
    (case l2 => first | k_is | k_exc | rfl)
    (case a3 => first | k_is | k_exc | rfl)
    (case l3 => first | k_is | k_exc | rfl)
    (case a4 => first | k_is | k_exc | rfl)
    (case l4 => first | k_is | k_exc | rfl)
    (case a5 => first | k_is | k_exc | rfl)
    (case l5 => first | k_is | k_exc | rfl)
    (case a6 => first | k_is | k_exc | rfl)
    (case l6 => first | k_is | k_exc | rfl)
    (case a7 => first | k_is | k_exc | rfl)
    (case l7 => first | k_is | k_exc | rfl)
    (case a8 => first | k_is | k_exc | rfl)
    (case l8 => first | k_is | k_exc | rfl)
    (case a9 => first | k_is | k_exc | rfl)
    (case l9 => first | k_is | k_exc | rfl)
    (case a10 => first | k_is | k_exc | rfl)
    (case l10 => first | k_is | k_exc | rfl)
    (case a11 => first | k_is | k_exc | rfl)
    (case l11 => first | k_is | k_exc | rfl)
    (case a12 => first | k_is | k_exc | rfl)
    (case l12 => first | k_is | k_exc | rfl)
    (case a13 => first | k_is | k_exc | rfl)
    (case l13 => first | k_is | k_exc | rfl)
    (case a14 => first | k_is | k_exc | rfl)
    (case l14 => first | k_is | k_exc | rfl)
    (case a15 => first | k_is | k_exc | rfl)
    (case l15 => first | k_is | k_exc | rfl)
    (case a16 => first | k_is | k_exc | rfl)
    (case l16 => first | k_is | k_exc | rfl)
    (case a17 => first | k_is | k_exc | rfl)
    (case l17 => first | k_is | k_exc | rfl)
    (case a18 => first | k_is | k_exc | rfl)
    (case l18 => first | k_is | k_exc | rfl)
    (case a19 => first | k_is | k_exc | rfl)
    (case l19 => first | k_is | k_exc | rfl)
    (case a20 => first | k_is | k_exc | rfl)
    (case l20 => first | k_is | k_exc | rfl)
    (case a21 => first | k_is | k_exc | rfl)
    (case l21 => first | k_is | k_exc | rfl)
    (case a22 => first | k_is | k_exc | rfl)
    (case l22 => first | k_is | k_exc | rfl)
    (case a23 => first | k_is | k_exc | rfl)
    (case l23 => first | k_is | k_exc | rfl)
    (case a24 => first | k_is | k_exc | rfl)
    (case l24 => first | k_is | k_exc | rfl)
    (case a25 => first | k_is | k_exc | rfl)
    (case l25 => first | k_is | k_exc | rfl)
    (case a26 => first | k_is | k_exc | rfl)
    (case l26 => first | k_is | k_exc | rfl)
    (case a27 => first | k_is | k_exc | rfl)
    (case l27 => first | k_is | k_exc | rfl)
    (case a28 => first | k_is | k_exc | rfl)
    (case l28 => first | k_is | k_exc | rfl)
    (case a29 => first | k_is | k_exc | rfl)
    (case l29 => first | k_is | k_exc | rfl)
    (case a30 => first | k_is | k_exc | rfl)
    (case l30 => first | k_is | k_exc | rfl)
    (case a31 => first | k_is | k_exc | rfl)
    (case l31 => first | k_is | k_exc | rfl)
    (case a32 => first | k_is | k_exc | rfl)
    (case l32 => first | k_is | k_exc | rfl)
    (case a33 => first | k_is | k_exc | rfl)
    (case l33 => first | k_is | k_exc | rfl)
    (case a34 => first | k_is | k_exc | rfl)
    (case l34 => first | k_is | k_exc | rfl)
    (case a35 => first | k_is | k_exc | rfl)
    (case l35 => first | k_is | k_exc | rfl)
    (case a36 => first | k_is | k_exc | rfl)
    (case l36 => first | k_is | k_exc | rfl)
    (case a37 => first | k_is | k_exc | rfl)
    (case l37 => first | k_is | k_exc | rfl)
    (case a38 => first | k_is | k_exc | rfl)
    (case l38 => first | k_is | k_exc | rfl)
    (case a39 => first | k_is | k_exc | rfl)
    (case l39 => first | k_is | k_exc | rfl)
    (case a40 => first | k_is | k_exc | rfl)
    (case l40 => first | k_is | k_exc | rfl)
    (case a41 => first | k_is | k_exc | rfl)
    (case l41 => first | k_is | k_exc | rfl)
    (case a42 => first | k_is | k_exc | rfl)
    (case l42 => first | k_is | k_exc | rfl)
    (case a43 => first | k_is | k_exc | rfl)
    (case l43 => first | k_is | k_exc | rfl)
    (case a44 => first | k_is | k_exc | rfl)
    (case l44 => first | k_is | k_exc | rfl)
    (case a45 => first | k_is | k_exc | rfl)
    (case l45 => first | k_is | k_exc | rfl)
    (case a46 => first | k_is | k_exc | rfl)
    (case l46 => first | k_is | k_exc | rfl)
    (case a47 => first | k_is | k_exc | rfl)
    (case l47 => first | k_is | k_exc | rfl)
    (case a48 => first | k_is | k_exc | rfl)
    (case l48 => first | k_is | k_exc | rfl)
    (case a49 => first | k_is | k_exc | rfl)
    (case l49 => first | k_is | k_exc | rfl)
    (case a50 => first | k_is | k_exc | rfl)
    (case l50 => first | k_is | k_exc | rfl)
    (case z_len => first | k_is | k_exc | rfl)
    (case z_tuple => first | k_is | k_exc | rfl)
    (case z_ord => first | k_is | k_exc | rfl)
    (case z_isinstance => first | k_is | k_exc | rfl)
    (case z_str => first | k_is | k_exc | rfl)
    (case z_bool => first | k_is | k_exc | rfl)
    (case z_int => first | k_is | k_exc | rfl)
    (case z_range => first | k_is | k_exc | rfl)
    (case z_list => first | k_is | k_exc | rfl)
    (case z_ValueError => first | k_is | k_exc | rfl)
    (case z_max => first | k_is | k_exc | rfl)
    (case z_sorted => first | k_is | k_exc | rfl)
    (case z_dict => first | k_is | k_exc | rfl)
    (case z_enumerate => first | k_is | k_exc | rfl)
    (case n_MOST_SIGNS => first | k_is | k_exc | rfl)
    (case n_MOST_NAMES => first | k_is | k_exc | rfl)
    (case c0 => first | k_is | k_exc | rfl)
    (case k0 => first | k_is | k_exc | rfl)
    (case c1 => first | k_is | k_exc | rfl)
    (case k1 => first | k_is | k_exc | rfl)
    (case c2 => first | k_is | k_exc | rfl)
    (case k2 => first | k_is | k_exc | rfl)
    (case c3 => first | k_is | k_exc | rfl)
    (case k3 => first | k_is | k_exc | rfl)
    (case c4 => first | k_is | k_exc | rfl)
    (case k4 => first | k_is | k_exc | rfl)
    (case c5 => first | k_is | k_exc | rfl)
    (case k5 => first | k_is | k_exc | rfl)
    (case c6 => first | k_is | k_exc | rfl)
    (case k6 => first | k_is | k_exc | rfl)
    (case c7 => first | k_is | k_exc | rfl)
    (case k7 => first | k_is | k_exc | rfl)
    (case c8 => first | k_is | k_exc | rfl)
    (case k8 => first | k_is | k_exc | rfl)
    (case c9 => first | k_is | k_exc | rfl)
    (case k9 => first | k_is | k_exc | rfl)
    (case c10 => first | k_is | k_exc | rfl)
    (case k10 => first | k_is | k_exc | rfl)
    (case c11 => first | k_is | k_exc | rfl)
    (case k11 => first | k_is | k_exc | rfl)
    (case c12 => first | k_is | k_exc | rfl)
    (case k12 => first | k_is | k_exc | rfl)
    (case c13 => first | k_is | k_exc | rfl)
    (case k13 => first | k_is | k_exc | rfl)
    (case c14 => first | k_is | k_exc | rfl)
    (case k14 => first | k_is | k_exc | rfl)
    (case c15 => first | k_is | k_exc | rfl)
    (case k15 => first | k_is | k_exc | rfl)
    (case c16 => first | k_is | k_exc | rfl)
    (case k16 => first | k_is | k_exc | rfl)
    (case c17 => first | k_is | k_exc | rfl)
    (case k17 => first | k_is | k_exc | rfl)
    (case c18 => first | k_is | k_exc | rfl)
    (case k18 => first | k_is | k_exc | rfl)
    (case c19 => first | k_is | k_exc | rfl)
    (case k19 => first | k_is | k_exc | rfl)
    (case c20 => first | k_is | k_exc | rfl)
    (case k20 => first | k_is | k_exc | rfl)
    (case c21 => first | k_is | k_exc | rfl)
    (case k21 => first | k_is | k_exc | rfl)
    (case i22 => first | k_is | k_exc | rfl)
    (case c22 => first | k_is | k_exc | rfl)
    (case k22 => first | k_is | k_exc | rfl)
    (case i23 => first | k_is | k_exc | rfl)
    (case c23 => first | k_is | k_exc | rfl)
    (case k23 => first | k_is | k_exc | rfl)
    (case i24 => first | k_is | k_exc | rfl)
    (case c24 => first | k_is | k_exc | rfl)
    (case k24 => first | k_is | k_exc | rfl)
    (case i25 => first | k_is | k_exc | rfl)
    (case c25 => first | k_is | k_exc | rfl)
    (case k25 => first | k_is | k_exc | rfl)
    (case i26 => first | k_is | k_exc | rfl)
    (case c26 => first | k_is | k_exc | rfl)
    (case k26 => first | k_is | k_exc | rfl)
    (case i27 => first | k_is | k_exc | rfl)
    (case c27 => first | k_is | k_exc | rfl)
    (case k27 => first | k_is | k_exc | rfl)
    (case i28 => first | k_is | k_exc | rfl)
    (case c28 => first | k_is | k_exc | rfl)
    (case k28 => first | k_is | k_exc | rfl)
    (case i29 => first | k_is | k_exc | rfl)
    (case c29 => first | k_is | k_exc | rfl)
    (case k29 => first | k_is | k_exc | rfl)
    (case i30 => first | k_is | k_exc | rfl)
    (case c30 => first | k_is | k_exc | rfl)
    (case k30 => first | k_is | k_exc | rfl)
    (case c31 => first | k_is | k_exc | rfl)
    (case k31 => first | k_is | k_exc | rfl)
    (case i32 => first | k_is | k_exc | rfl)
    (case c32 => first | k_is | k_exc | rfl)
    (case k32 => first | k_is | k_exc | rfl)
    (case i33 => first | k_is | k_exc | rfl)
    (case c33 => first | k_is | k_exc | rfl)
    (case k33 => first | k_is | k_exc | rfl)
    (case c34 => first | k_is | k_exc | rfl)
    (case k34 => first | k_is | k_exc | rfl)
    (case c35 => first | k_is | k_exc | rfl)
    (case k35 => first | k_is | k_exc | rfl)
    (case c36 => first | k_is | k_exc | rfl)
    (case k36 => first | k_is | k_exc | rfl)
    (case c37 => first | k_is | k_exc | rfl)
    (case k37 => first | k_is | k_exc | rfl)
    (case c38 => first | k_is | k_exc | rfl)
    (case k38 => first | k_is | k_exc | rfl)
    (case c39 => first | k_is | k_exc | rfl)
    (case k39 => first | k_is | k_exc | rfl)
    (case c40 => first | k_is | k_exc | rfl)
    (case k40 => first | k_is | k_exc | rfl)
    (case c41 => first | k_is | k_exc | rfl)
    (case k41 => first | k_is | k_exc | rfl)
    (case c42 => first | k_is | k_exc | rfl)
    (case k42 => first | k_is | k_exc | rfl)
    (case c43 => first | k_is | k_exc | rfl)
    (case k43 => first | k_is | k_exc | rfl)
    (case c44 => first | k_is | k_exc | rfl)
    (case k44 => first | k_is | k_exc | rfl)
    (case c45 => first | k_is | k_exc | rfl)
    (case k45 => first | k_is | k_exc | rfl)
    (case c46 => first | k_is | k_exc | rfl)
    (case k46 => first | k_is | k_exc | rfl)
    (case c47 => first | k_is | k_exc | rfl)
    (case k47 => first | k_is | k_exc | rfl)
    (case c48 => first | k_is | k_exc | rfl)
    (case k48 => first | k_is | k_exc | rfl)
    (case c49 => first | k_is | k_exc | rfl)
    (case k49 => first | k_is | k_exc | rfl)
    (case c50 => first | k_is | k_exc | rfl)
    (case k50 => first | k_is | k_exc | rfl)
    (case o0_Trail => first | k_is | k_exc | rfl)
    (case o1_Trail => first | k_is | k_exc | rfl)
    (case o2_Trail => first | k_is | k_exc | rfl)
    (case o3_Trail => first | k_is | k_exc | rfl)
    (case o4_Trail => first | k_is | k_exc | rfl)
    (case o5_Trail => first | k_is | k_exc | rfl)
    (case q_past => first | k_is | k_exc | rfl)
    (case q_grown => first | k_is | k_exc | rfl)
    (case e0_NoName => first | k_is | k_exc | rfl)
    (case e1_NoName => first | k_is | k_exc | rfl)
    (case e2_NoName => first | k_is | k_exc | rfl)
    (case e3_NoName => first | k_is | k_exc | rfl)
    (case e4_NoName => first | k_is | k_exc | rfl)
    (case e5_NoName => first | k_is | k_exc | rfl)
    (case e6_NoName => first | k_is | k_exc | rfl)
    (case e7_NoName => first | k_is | k_exc | rfl)
    (case e8_NoName => first | k_is | k_exc | rfl)
    (case e9_NoName => first | k_is | k_exc | rfl)
    (case e10_NoName => first | k_is | k_exc | rfl)
    (case e11_NoName => first | k_is | k_exc | rfl)
    (case e0_NotThere => first | k_is | k_exc | rfl)
    (case e1_NotThere => first | k_is | k_exc | rfl)
    (case e2_NotThere => first | k_is | k_exc | rfl)
    (case e3_NotThere => first | k_is | k_exc | rfl)
    (case e4_NotThere => first | k_is | k_exc | rfl)
    (case e5_NotThere => first | k_is | k_exc | rfl)
    (case e6_NotThere => first | k_is | k_exc | rfl)
    (case e7_NotThere => first | k_is | k_exc | rfl)
    (case e8_NotThere => first | k_is | k_exc | rfl)
    (case e9_NotThere => first | k_is | k_exc | rfl)
    (case e10_NotThere => first | k_is | k_exc | rfl)
    (case e11_NotThere => first | k_is | k_exc | rfl)
    (case e0_Taken => first | k_is | k_exc | rfl)
    (case e1_Taken => first | k_is | k_exc | rfl)
    (case e2_Taken => first | k_is | k_exc | rfl)
    (case e3_Taken => first | k_is | k_exc | rfl)
    (case e4_Taken => first | k_is | k_exc | rfl)
    (case e5_Taken => first | k_is | k_exc | rfl)
    (case e6_Taken => first | k_is | k_exc | rfl)
    (case e7_Taken => first | k_is | k_exc | rfl)
    (case e8_Taken => first | k_is | k_exc | rfl)
    (case e9_Taken => first | k_is | k_exc | rfl)
    (case e10_Taken => first | k_is | k_exc | rfl)
    (case e11_Taken => first | k_is | k_exc | rfl)
    (case e0_TooLong => first | k_is | k_exc | rfl)
    (case e1_TooLong => first | k_is | k_exc | rfl)
    (case e2_TooLong => first | k_is | k_exc | rfl)
    (case e3_TooLong => first | k_is | k_exc | rfl)
    (case e4_TooLong => first | k_is | k_exc | rfl)
    (case e5_TooLong => first | k_is | k_exc | rfl)
    (case e6_TooLong => first | k_is | k_exc | rfl)
    (case e7_TooLong => first | k_is | k_exc | rfl)
    (case e8_TooLong => first | k_is | k_exc | rfl)
    (case e9_TooLong => first | k_is | k_exc | rfl)
    (case e10_TooLong => first | k_is | k_exc | rfl)
    (case e11_TooLong => first | k_is | k_exc | rfl)
    (case e0_TooMany => first | k_is | k_exc | rfl)
    (case e1_TooMany => first | k_is | k_exc | rfl)
    (case e2_TooMany => first | k_is | k_exc | rfl)
    (case e3_TooMany => first | k_is | k_exc | rfl)
    (case e4_TooMany => first | k_is | k_exc | rfl)
    (case e5_TooMany => first | k_is | k_exc | rfl)
    (case e6_TooMany => first | k_is | k_exc | rfl)
    (case e7_TooMany => first | k_is | k_exc | rfl)
    (case e8_TooMany => first | k_is | k_exc | rfl)
    (case e9_TooMany => first | k_is | k_exc | rfl)
    (case e10_TooMany => first | k_is | k_exc | rfl)
    (case e11_TooMany => first | k_is | k_exc | rfl)
    (case e0_NothingDone => first | k_is | k_exc | rfl)
    (case e1_NothingDone => first | k_is | k_exc | rfl)
    (case e2_NothingDone => first | k_is | k_exc | rfl)
    (case e3_NothingDone => first | k_is | k_exc | rfl)
    (case e4_NothingDone => first | k_is | k_exc | rfl)
    (case e5_NothingDone => first | k_is | k_exc | rfl)
    (case e6_NothingDone => first | k_is | k_exc | rfl)
    (case e7_NothingDone => first | k_is | k_exc | rfl)
    (case e8_NothingDone => first | k_is | k_exc | rfl)
    (case e9_NothingDone => first | k_is | k_exc | rfl)
    (case e10_NothingDone => first | k_is | k_exc | rfl)
    (case e11_NothingDone => first | k_is | k_exc | rfl)
    (case u_NoName_NotThere => first | k_is | k_exc | rfl)
    (case u_NoName_Taken => first | k_is | k_exc | rfl)
    (case u_NoName_TooLong => first | k_is | k_exc | rfl)
    (case u_NoName_TooMany => first | k_is | k_exc | rfl)
    (case u_NoName_NothingDone => first | k_is | k_exc | rfl)
    (case u_NotThere_NoName => first | k_is | k_exc | rfl)
    (case u_NotThere_Taken => first | k_is | k_exc | rfl)
    (case u_NotThere_TooLong => first | k_is | k_exc | rfl)
    (case u_NotThere_TooMany => first | k_is | k_exc | rfl)
    (case u_NotThere_NothingDone => first | k_is | k_exc | rfl)
    (case u_Taken_NoName => first | k_is | k_exc | rfl)
    (case u_Taken_NotThere => first | k_is | k_exc | rfl)
    (case u_Taken_TooLong => first | k_is | k_exc | rfl)
    (case u_Taken_TooMany => first | k_is | k_exc | rfl)
    (case u_Taken_NothingDone => first | k_is | k_exc | rfl)
    (case u_TooLong_NoName => first | k_is | k_exc | rfl)
    (case u_TooLong_NotThere => first | k_is | k_exc | rfl)
    (case u_TooLong_Taken => first | k_is | k_exc | rfl)
    (case u_TooLong_TooMany => first | k_is | k_exc | rfl)
    (case u_TooLong_NothingDone => first | k_is | k_exc | rfl)
    (case u_TooMany_NoName => first | k_is | k_exc | rfl)
    (case u_TooMany_NotThere => first | k_is | k_exc | rfl)
    (case u_TooMany_Taken => first | k_is | k_exc | rfl)
    (case u_TooMany_TooLong => first | k_is | k_exc | rfl)
    (case u_TooMany_NothingDone => first | k_is | k_exc | rfl)
    (case u_NothingDone_NoName => first | k_is | k_exc | rfl)
    (case u_NothingDone_NotThere => first | k_is | k_exc | rfl)
    (case u_NothingDone_Taken => first | k_is | k_exc | rfl)
    (case u_NothingDone_TooLong => first | k_is | k_exc | rfl)
    (case u_NothingDone_TooMany => first | k_is | k_exc | rfl)
    (case w_NoName => first | k_is | k_exc | rfl)
    (case w_NotThere => first | k_is | k_exc | rfl)
    (case w_Taken => first | k_is | k_exc | rfl)
    (case w_TooLong => first | k_is | k_exc | rfl)
    (case w_TooMany => first | k_is | k_exc | rfl)
    (case w_NothingDone => first | k_is | k_exc | rfl)
    (case y_NoName_NoName => first | k_is | k_exc | rfl)
    (case y_NoName_NotThere => first | k_is | k_exc | rfl)
    (case y_NoName_TooLong => first | k_is | k_exc | rfl)
    (case y_NoName_Taken => first | k_is | k_exc | rfl)
    (case y_NoName_TooMany => first | k_is | k_exc | rfl)
    (case y_NoName_NothingDone => first | k_is | k_exc | rfl)
    (case y_NoName_NoNote => first | k_is | k_exc | rfl)
    (case y_NotThere_NoName => first | k_is | k_exc | rfl)
    (case y_NotThere_NotThere => first | k_is | k_exc | rfl)
    (case y_NotThere_TooLong => first | k_is | k_exc | rfl)
    (case y_NotThere_Taken => first | k_is | k_exc | rfl)
    (case y_NotThere_TooMany => first | k_is | k_exc | rfl)
    (case y_NotThere_NothingDone => first | k_is | k_exc | rfl)
    (case y_NotThere_NoNote => first | k_is | k_exc | rfl)
    (case y_Taken_NoName => first | k_is | k_exc | rfl)
    (case y_Taken_NotThere => first | k_is | k_exc | rfl)
    (case y_Taken_TooLong => first | k_is | k_exc | rfl)
    (case y_Taken_Taken => first | k_is | k_exc | rfl)
    (case y_Taken_TooMany => first | k_is | k_exc | rfl)
    (case y_Taken_NothingDone => first | k_is | k_exc | rfl)
    (case y_Taken_NoNote => first | k_is | k_exc | rfl)
    (case y_TooLong_NoName => first | k_is | k_exc | rfl)
    (case y_TooLong_NotThere => first | k_is | k_exc | rfl)
    (case y_TooLong_TooLong => first | k_is | k_exc | rfl)
    (case y_TooLong_Taken => first | k_is | k_exc | rfl)
    (case y_TooLong_TooMany => first | k_is | k_exc | rfl)
    (case y_TooLong_NothingDone => first | k_is | k_exc | rfl)
    (case y_TooLong_NoNote => first | k_is | k_exc | rfl)
    (case y_TooMany_NoName => first | k_is | k_exc | rfl)
    (case y_TooMany_NotThere => first | k_is | k_exc | rfl)
    (case y_TooMany_TooLong => first | k_is | k_exc | rfl)
    (case y_TooMany_Taken => first | k_is | k_exc | rfl)
    (case y_TooMany_TooMany => first | k_is | k_exc | rfl)
    (case y_TooMany_NothingDone => first | k_is | k_exc | rfl)
    (case y_TooMany_NoNote => first | k_is | k_exc | rfl)
    (case y_NothingDone_NoName => first | k_is | k_exc | rfl)
    (case y_NothingDone_NotThere => first | k_is | k_exc | rfl)
    (case y_NothingDone_TooLong => first | k_is | k_exc | rfl)
    (case y_NothingDone_Taken => first | k_is | k_exc | rfl)
    (case y_NothingDone_TooMany => first | k_is | k_exc | rfl)
    (case y_NothingDone_NothingDone => first | k_is | k_exc | rfl)
    (case y_NothingDone_NoNote => first | k_is | k_exc | rfl)
    (case h_n => first | k_is | k_exc | rfl)
    (case h_t => first | k_is | k_exc | rfl)
#print axioms PySem.Challenge.cw_radixtrail_k12_whole_deeds_holds

