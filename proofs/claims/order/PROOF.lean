import PyProof.Rows.All
import Wide.All
import OpenK.AllK
import Wide.FinOn
import Open.SpecLaws
import KE.OsGo
import HandS.ForSpec
import HandS.ForMost
import PySem.Challenge.RW_threadrow_s03_order
set_option Elab.async false
set_option linter.all false
set_option maxRecDepth 100000
set_option maxHeartbeats 4000000
namespace TR
/-! ## lists -/
theorem getD_of {α : Type} {l : List α} {i : Nat} {x d : α} (h : l[i]? = some x) : l.getD i d = x := by
  rw [List.getD_eq_getElem?_getD, h]; rfl
theorem take_more {α : Type} {l : List α} {i : Nat} {x : α} (h : l[i]? = some x) : l.take (i + 1) = l.take i ++ [x] := by
  rw [List.take_add_one, h]; rfl
theorem drop_at {α : Type} {l : List α} {i : Nat} {x : α} (h : l[i]? = some x) : l.drop i = x :: l.drop (i + 1) := by
  obtain ⟨hi, e⟩ := List.getElem?_eq_some_iff.mp h
  rw [List.drop_eq_getElem_cons hi, e]
theorem getD_map {α β : Type} (f : α → β) (l : List α) {i : Nat} {d : α} {d' : β} (h : i < l.length) : (l.map f).getD i d' = f (l.getD i d) := by
  rw [List.getD_eq_getElem?_getD, List.getD_eq_getElem?_getD, List.getElem?_map, List.getElem?_eq_getElem h]; rfl

/-! ## bits -/
theorem and_eq_iff (a d : Nat) : (a &&& d == a) = true ↔ ∀ i, a.testBit i = true → d.testBit i = true := by
  rw [beq_iff_eq]
  constructor
  · intro h i hi
    have e := congrArg (fun n => n.testBit i) h
    simp only [Nat.testBit_and, hi, Bool.true_and] at e
    exact e
  · intro h
    apply Nat.eq_of_testBit_eq
    intro i
    rw [Nat.testBit_and]
    cases e : a.testBit i with
    | false => rfl
    | true => rw [h i e]; rfl
theorem testBit_lt {a j i : Nat} (h : a < 2 ^ j) (hi : a.testBit i = true) : i < j := by
  by_cases c : i < j
  · exact c
  · have : a < 2 ^ i := Nat.lt_of_lt_of_le h (Nat.pow_le_pow_right (by decide) (by omega))
    rw [Nat.testBit_lt_two_pow this] at hi
    cases hi
theorem testBit_add_pow {d j i : Nat} (h : d.testBit j = false) : (d + 2 ^ j).testBit i = (d.testBit i || decide (i = j)) := by
  have hr : d % 2 ^ (j + 1) < 2 ^ j := by
    apply Nat.lt_pow_two_of_testBit
    intro k hk
    rw [Nat.testBit_mod_two_pow]
    by_cases c : k < j + 1
    · have : k = j := by omega
      subst this
      simp [h]
    · simp [c]
  have e : d + 2 ^ j = 2 ^ (j + 1) * (d / 2 ^ (j + 1)) + (d % 2 ^ (j + 1) + 2 ^ j) := by
    have := Nat.div_add_mod d (2 ^ (j + 1))
    omega
  have hlt : d % 2 ^ (j + 1) + 2 ^ j < 2 ^ (j + 1) := by
    have e4 : 2 ^ (j + 1) = 2 ^ j + 2 ^ j := by rw [Nat.pow_succ]; omega
    rw [e4] at hr ⊢
    exact Nat.add_lt_add_right hr _
  have e2 : d = 2 ^ (j + 1) * (d / 2 ^ (j + 1)) + d % 2 ^ (j + 1) := (Nat.div_add_mod d (2 ^ (j + 1))).symm
  rw [e, Nat.testBit_two_pow_mul_add _ hlt]
  have e3 : d.testBit i = if i < j + 1 then (d % 2 ^ (j + 1)).testBit i else (d / 2 ^ (j + 1)).testBit (i - (j + 1)) := by
    rw [← Nat.testBit_two_pow_mul_add _ (Nat.mod_lt _ (Nat.two_pow_pos _)), ← e2]
  rw [e3]
  by_cases c : i < j + 1
  · rw [if_pos c, if_pos c, ← Nat.or_two_pow_eq_add_of_lt hr, Nat.testBit_or, Nat.testBit_two_pow]
    congr 1
    exact decide_eq_decide.mpr ⟨Eq.symm, Eq.symm⟩
  · rw [if_neg c, if_neg c]
    have : decide (i = j) = false := decide_eq_false (by omega)
    rw [this, Bool.or_false]
end TR
namespace TR
open Eb

/-! ## the mirror of the orders' defs, over natural numbers -/
def mayFollow (nu : List Nat) (d j : Nat) : Bool := !d.testBit j && (nu.getD j 0 &&& d == nu.getD j 0)
def runOk (nu : List Nat) : List Nat → Nat → Bool
  | [], _ => true
  | j :: r, d => if j < nu.length then (if mayFollow nu d j = true then runOk nu r (d + 2 ^ j) else false) else false
def orderOk (nu tr : List Nat) : Bool := if tr.length = nu.length then runOk nu tr 0 else false
def chg (th : List Nat) : List Nat → Nat
  | a :: b :: r => (if th.getD a 0 ≠ th.getD b 0 then 1 else 0) + chg th (b :: r)
  | _ => 0
/-- the task's check from shape j on -/
def boundsFrom (nu : List Nat) (j : Nat) : Bool := (nu.drop j).zipIdx j |>.all fun x => decide (x.1 < 2 ^ x.2)
def taskOk (th nu : List Nat) : Bool := if th.length = 0 ∨ 12 < th.length then false else if nu.length ≠ th.length then false else boundsFrom nu 0

theorem chg_is (th nu : List Nat) : ∀ p : List Nat, changes ⟨th, nu⟩ p = chg th p
  | [] => rfl
  | [_] => rfl
  | a :: b :: r => by
    have ih := chg_is th nu (b :: r)
    unfold chg
    rw [← ih]
    show (List.filter _ ((a, b) :: ((b :: r).zip r))).length = _
    rw [List.filter_cons]
    show (if (th.getD a 0 != th.getD b 0) = true then _ else _ : List (Nat × Nat)).length = _ + (List.filter _ ((b :: r).zip ((b :: r).drop 1))).length
    by_cases c : th.getD a 0 = th.getD b 0
    · rw [if_neg (fun h => absurd c (bne_iff_ne.mp h)), if_neg (fun h => h c), Nat.zero_add]
      rfl
    · rw [if_pos (bne_iff_ne.mpr c), if_pos c, List.length_cons, Nat.add_comm]
      rfl
theorem boundsFrom_at {nu : List Nat} {j x : Nat} (h : nu[j]? = some x) : boundsFrom nu j = (decide (x < 2 ^ j) && boundsFrom nu (j + 1)) := by
  unfold boundsFrom
  rw [drop_at h]
  rfl
theorem boundsFrom_end {nu : List Nat} {j : Nat} (h : nu.length ≤ j) : boundsFrom nu j = true := by
  unfold boundsFrom
  rw [List.drop_eq_nil_of_le h]
  rfl
theorem taskOk_is (th nu : List Nat) : Wants.ok ⟨th, nu⟩ = taskOk th nu := by
  unfold Wants.ok taskOk
  by_cases c : th.length = 0 ∨ 12 < th.length
  · rw [if_pos c]
    rcases c with c | c
    · simp [c]
    · have : decide (th.length ≤ MOSTORDER) = false := decide_eq_false (by unfold MOSTORDER; omega)
      simp [this]
  · rw [if_neg c]
    have h1 : decide (1 ≤ th.length) = true := decide_eq_true (by omega)
    have h2 : decide (th.length ≤ MOSTORDER) = true := decide_eq_true (by unfold MOSTORDER; omega)
    simp only [h1, h2, Bool.true_and]
    by_cases c2 : nu.length = th.length
    · rw [if_neg (by simp [c2])]
      simp [c2, boundsFrom]
    · rw [if_pos c2]
      simp [c2]
structure TaskP (th nu : List Nat) : Prop where
  pos : 0 < th.length
  le : th.length ≤ 12
  eq : nu.length = th.length
  lt : ∀ j x, nu[j]? = some x → x < 2 ^ j
theorem bounds_all {nu : List Nat} (h : boundsFrom nu 0 = true) : ∀ j x, nu[j]? = some x → x < 2 ^ j := by
  intro j x e
  unfold boundsFrom at h
  rw [List.all_eq_true] at h
  have := h (x, j) (by
    rw [List.drop_zero, List.mem_zipIdx_iff_getElem?]
    simpa using e)
  exact of_decide_eq_true this
theorem taskOk_p {th nu : List Nat} (h : taskOk th nu = true) : TaskP th nu := by
  unfold taskOk at h
  by_cases c : th.length = 0 ∨ 12 < th.length
  · rw [if_pos c] at h; cases h
  · rw [if_neg c] at h
    by_cases c2 : nu.length ≠ th.length
    · rw [if_pos c2] at h; cases h
    · rw [if_neg c2] at h
      exact ⟨by omega, by omega, by omega, bounds_all h⟩

/-! ## is_order is isOrder -/
theorem nodup_all {n : Nat} {l : List Nat} (hn : l.length = n) (nd : l.Nodup) (lt : ∀ x ∈ l, x < n) : ∀ j, j < n → j ∈ l := by
  intro j hj
  apply Classical.byContradiction
  intro c
  have : (j :: l).length ≤ (List.range n).length := List.Nodup.length_le_of_subset (List.nodup_cons.mpr ⟨c, nd⟩) (by
    intro x hx
    rw [List.mem_range]
    rcases List.mem_cons.mp hx with e | e
    · omega
    · exact lt x e)
  rw [List.length_cons, List.length_range] at this
  omega
theorem all_nodup {n : Nat} {l : List Nat} (hn : l.length = n) (all : ∀ j, j < n → j ∈ l) : l.Nodup ∧ ∀ x ∈ l, x < n := by
  constructor
  · rw [List.nodup_iff_count]
    intro a
    apply Classical.byContradiction
    intro c
    have h2 : 2 ≤ l.count a := by omega
    have ha : a ∈ l := List.count_pos_iff.mp (by omega)
    have : (List.range n).length ≤ (l.erase a).length := List.Nodup.length_le_of_subset List.nodup_range (by
      intro x hx
      rw [List.mem_range] at hx
      by_cases e : x = a
      · subst e
        apply List.count_pos_iff.mp
        rw [List.count_erase_self]
        omega
      · exact (List.mem_erase_of_ne e).mpr (all x hx))
    rw [List.length_range, List.length_erase_of_mem ha] at this
    have := List.length_pos_of_mem ha
    omega
  · intro x hx
    apply Classical.byContradiction
    intro c
    have : (x :: List.range n).length ≤ l.length := List.Nodup.length_le_of_subset (List.nodup_cons.mpr ⟨by rw [List.mem_range]; exact c, List.nodup_range⟩) (by
      intro y hy
      rcases List.mem_cons.mp hy with e | e
      · rw [e]; exact hx
      · exact all y (List.mem_range.mp e))
    rw [List.length_cons, List.length_range] at this
    omega
def Good (n : Nat) (bef : Nat → Nat → Bool) : List Nat → List Nat → Prop
  | _, [] => True
  | pre, j :: r => j < n ∧ j ∉ pre ∧ (∀ i, bef i j = true → i ∈ pre) ∧ Good n bef (pre ++ [j]) r
theorem good_iff (n : Nat) (bef : Nat → Nat → Bool) : ∀ (p pre : List Nat), Good n bef pre p ↔ ∀ b x, p[b]? = some x → x < n ∧ x ∉ pre ++ p.take b ∧ ∀ i, bef i x = true → i ∈ pre ++ p.take b
  | [], pre => by
    constructor
    · intro _ b x h
      simp at h
    · intro _
      trivial
  | j :: r, pre => by
    have ih := good_iff n bef r (pre ++ [j])
    constructor
    · rintro ⟨h1, h2, h3, h4⟩ b x hb
      cases b with
      | zero =>
        have e : j = x := Option.some.inj hb
        subst e
        rw [List.take_zero, List.append_nil]
        exact ⟨h1, h2, h3⟩
      | succ b =>
        have := ih.mp h4 b x hb
        rw [List.append_assoc] at this
        exact this
    · intro h
      have h0 := h 0 j rfl
      rw [List.take_zero, List.append_nil] at h0
      refine ⟨h0.1, h0.2.1, h0.2.2, ih.mpr fun b x hb => ?_⟩
      have := h (b + 1) x hb
      rw [List.append_assoc]
      exact this
theorem mayFollow_iff {nu : List Nat} {d j : Nat} {pre : List Nat} (hd : ∀ i, d.testBit i = true ↔ i ∈ pre) : mayFollow nu d j = true ↔ j ∉ pre ∧ ∀ i, (nu.getD j 0).testBit i = true → i ∈ pre := by
  unfold mayFollow
  rw [Bool.and_eq_true, and_eq_iff, Bool.not_eq_true', ← Bool.not_eq_true, hd]
  exact and_congr Iff.rfl (forall_congr' fun i => by rw [hd])
theorem runOk_iff (nu : List Nat) : ∀ (p pre : List Nat) (d : Nat), (∀ i, d.testBit i = true ↔ i ∈ pre) → (runOk nu p d = true ↔ Good nu.length (fun i j => (nu.getD j 0).testBit i) pre p)
  | [], pre, d, hd => by
    unfold runOk Good
    simp
  | j :: r, pre, d, hd => by
    unfold runOk Good
    by_cases c : j < nu.length
    · rw [if_pos c]
      by_cases c2 : mayFollow nu d j = true
      · rw [if_pos c2]
        have c3 := (mayFollow_iff hd).mp c2
        have hf : d.testBit j = false := by
          cases e : d.testBit j with
          | false => rfl
          | true => exact absurd ((hd j).mp e) c3.1
        rw [runOk_iff nu r (pre ++ [j]) (d + 2 ^ j) (fun i => by
          rw [testBit_add_pow hf, Bool.or_eq_true, decide_eq_true_iff, hd, List.mem_append, List.mem_singleton])]
        exact ⟨fun h => ⟨c, c3.1, c3.2, h⟩, fun h => h.2.2.2⟩
      · rw [if_neg c2]
        constructor
        · intro h; cases h
        · rintro ⟨_, h2, h3, _⟩
          exact absurd ((mayFollow_iff hd).mpr ⟨h2, h3⟩) c2
    · rw [if_neg c]
      constructor
      · intro h; cases h
      · rintro ⟨h1, _⟩
        exact absurd h1 c
theorem nodup_of_take {p : List Nat} (h : ∀ b x, p[b]? = some x → x ∉ p.take b) : p.Nodup := by
  rw [List.nodup_iff_pairwise_ne, List.pairwise_iff_getElem]
  intro i j hi hj hij e
  refine h j _ (List.getElem?_eq_getElem hj) ?_
  rw [← e]
  rw [List.mem_take_iff_getElem]
  exact ⟨i, by omega, rfl⟩
theorem orderOk_is {th nu tr : List Nat} (T : TaskP th nu) : isOrder ⟨th, nu⟩ tr = orderOk nu tr := by
  unfold isOrder orderOk
  by_cases c : tr.length = nu.length
  · rw [if_pos c]
    have e1 : (tr.length == th.length) = true := by rw [c, T.eq]; exact beq_self_eq_true _
    show ((tr.length == th.length) && _) = _
    rw [e1, Bool.true_and]
    rw [Bool.eq_iff_iff, runOk_iff nu tr [] 0 (by intro i; simp), good_iff]
    rw [Bool.and_eq_true, List.all_eq_true, List.all_eq_true]
    have hn : tr.length = th.length := by rw [c, T.eq]
    constructor
    · rintro ⟨h1, h2⟩ b x hb
      obtain ⟨nd, lt⟩ := all_nodup (n := nu.length) c (fun j hj => by
        have := h1 j (by rw [List.mem_range]; show j < th.length; omega)
        exact List.contains_iff_mem.mp this)
      obtain ⟨hb1, hb2⟩ := List.getElem?_eq_some_iff.mp hb
      refine ⟨lt x (List.mem_of_getElem? hb), ?_, ?_⟩
      · rw [List.nil_append]
        intro hm
        rw [List.mem_take_iff_getElem] at hm
        obtain ⟨i, hi, e⟩ := hm
        rw [List.nodup_iff_pairwise_ne, List.pairwise_iff_getElem] at nd
        exact nd i b (by omega) hb1 (by omega) (by rw [e, hb2])
      · intro i hi
        rw [List.nil_append]
        have h3 := h2 b (List.mem_range.mpr hb1)
        rw [List.all_eq_true] at h3
        have hx : nu[x]? = some (nu.getD x 0) := by
          have : x < nu.length := lt x (List.mem_of_getElem? hb)
          rw [List.getD_eq_getElem?_getD, List.getElem?_eq_getElem this]; rfl
        have hix : i < x := testBit_lt (T.lt _ _ hx) hi
        have hx2 : x < nu.length := lt x (List.mem_of_getElem? hb)
        have h4 := h3 i (List.mem_range.mpr (by show i < th.length; have := T.eq; omega))
        have hg : tr.getD b 0 = x := getD_of hb
        rw [hg] at h4
        have hbf : Wants.before ⟨th, nu⟩ i x = true := hi
        rw [hbf, Bool.not_true, Bool.false_or] at h4
        exact List.contains_iff_mem.mp h4
    · intro h
      have nd : tr.Nodup := nodup_of_take fun b x hb => by
        have := (h b x hb).2.1
        rwa [List.nil_append] at this
      have lt : ∀ x ∈ tr, x < nu.length := fun x hx => by
        obtain ⟨b, hb⟩ := List.getElem?_of_mem hx
        exact (h b x hb).1
      refine ⟨fun j hj => List.contains_iff_mem.mpr (nodup_all c nd lt j (by have := List.mem_range.mp hj; have := T.eq; show j < nu.length; have h6 : j < th.length := List.mem_range.mp hj; omega)), fun b hb => ?_⟩
      rw [List.all_eq_true]
      intro i _
      have hb1 := List.mem_range.mp hb
      have hbx : tr[b]? = some (tr.getD b 0) := by
        rw [List.getD_eq_getElem?_getD, List.getElem?_eq_getElem hb1]; rfl
      have h3 := (h b _ hbx).2.2 i
      cases e : Wants.before ⟨th, nu⟩ i (tr.getD b 0) with
      | false => rfl
      | true =>
        rw [List.nil_append] at h3
        rw [Bool.not_true, Bool.false_or]
        exact List.contains_iff_mem.mpr (h3 e)
  · rw [if_neg c]
    have : (tr.length == th.length) = false := beq_eq_false_iff_ne.mpr (by have := T.eq; omega)
    show ((tr.length == th.length) && _) = _
    rw [this, Bool.false_and]

theorem runOk_lt {nu : List Nat} : ∀ {p : List Nat} {d : Nat}, runOk nu p d = true → ∀ x ∈ p, x < nu.length
  | [], _, _, x, hx => by cases hx
  | j :: r, d, h, x, hx => by
    unfold runOk at h
    by_cases c : j < nu.length
    · rw [if_pos c] at h
      by_cases c2 : mayFollow nu d j = true
      · rw [if_pos c2] at h
        rcases List.mem_cons.mp hx with e | e
        · rw [e]; exact c
        · exact runOk_lt h x e
      · rw [if_neg c2] at h
        cases h
    · rw [if_neg c] at h
      cases h
theorem orderOk_lt {nu tr : List Nat} (h : orderOk nu tr = true) : ∀ x ∈ tr, x < nu.length := by
  unfold orderOk at h
  by_cases c : tr.length = nu.length
  · rw [if_pos c] at h
    exact runOk_lt h
  · rw [if_neg c] at h
    cases h

/-! ## the specification of judge, of natural numbers -/
theorem nats_cast : ∀ l : List Nat, YqstfaNeutral.nats? (l.map fun (n : Nat) => (n : Int)) = some l
  | [] => rfl
  | n :: r => by
    have ih := nats_cast r
    unfold YqstfaNeutral.nats? at ih ⊢
    rw [List.map_cons, List.mapM_cons, ih]
    have : YqstfaNeutral.nat? (n : Int) = some n := by
      unfold YqstfaNeutral.nat?
      rw [if_pos (Int.natCast_nonneg n), Int.toNat_natCast]
    rw [this]
    rfl
def castL (l : List Nat) : List Int := l.map fun (n : Nat) => (n : Int)
def judgeM (th nu tr : List Nat) : List Int := if taskOk th nu = true then (if orderOk nu tr = true then [((chg th tr : Nat) : Int)] else [-3]) else [-1]
theorem judge_is (th nu tr : List Nat) : PyYqstfa.judge (castL th) (castL nu) (castL tr) = judgeM th nu tr := by
  show YqstfaNeutral.f [[4], castL th, castL nu, castL tr] = _
  have e : YqstfaNeutral.callOf [[4], castL th, castL nu, castL tr] = some (.judge ⟨th, nu⟩ tr) := by
    show (YqstfaNeutral.nats? (castL th)).bind (fun t => (YqstfaNeutral.nats? (castL nu)).bind fun o => (YqstfaNeutral.nats? (castL tr)).map fun p => Yqstfa.Call.judge ⟨t, o⟩ p) = _
    unfold castL
    rw [nats_cast, nats_cast, nats_cast]
    rfl
  unfold YqstfaNeutral.f
  rw [e]
  show YqstfaNeutral.told (if Wants.ok ⟨th, nu⟩ = true then (if isOrder ⟨th, nu⟩ tr = true then .count (changes ⟨th, nu⟩ tr) else .no (-3)) else .no (-1)) = _
  unfold judgeM
  rw [taskOk_is]
  by_cases c : taskOk th nu = true
  · rw [if_pos c, if_pos c, orderOk_is (taskOk_p c), chg_is]
    by_cases c2 : orderOk nu tr = true
    · rw [if_pos c2, if_pos c2]; rfl
    · rw [if_neg c2, if_neg c2]; rfl
  · rw [if_neg c, if_neg c]; rfl
end TR
namespace TR
open Eb

theorem get_getD {α : Type} {l : List α} {i : Nat} {d : α} (h : i < l.length) : l[i]? = some (l.getD i d) := by
  rw [List.getD_eq_getElem?_getD, List.getElem?_eq_getElem h]; rfl
/-! ## the least of a list -/
theorem foldl_min_le : ∀ (l : List Nat) (a : Nat), l.foldl min a ≤ a ∧ ∀ x ∈ l, l.foldl min a ≤ x
  | [], a => ⟨Nat.le_refl _, fun x h => by cases h⟩
  | y :: r, a => by
    obtain ⟨h1, h2⟩ := foldl_min_le r (min a y)
    refine ⟨Nat.le_trans h1 (Nat.min_le_left _ _), fun x hx => ?_⟩
    rcases List.mem_cons.mp hx with e | e
    · subst e
      exact Nat.le_trans h1 (Nat.min_le_right _ _)
    · exact h2 x e
theorem foldl_min_mem : ∀ (l : List Nat) (a : Nat), l.foldl min a = a ∨ l.foldl min a ∈ l
  | [], a => .inl rfl
  | y :: r, a => by
    rcases foldl_min_mem r (min a y) with h | h
    · show r.foldl min (min a y) = a ∨ r.foldl min (min a y) ∈ y :: r
      rw [h]
      by_cases c : a ≤ y
      · left; omega
      · right
        have : min a y = y := by omega
        rw [this]
        exact List.mem_cons_self ..
    · right
      exact List.mem_cons_of_mem _ h
def minL : List Nat → Nat
  | [] => 0
  | x :: r => r.foldl min x
theorem minL_mem {l : List Nat} (h : l ≠ []) : minL l ∈ l := by
  match l, h with
  | x :: r, _ =>
    rcases foldl_min_mem r x with e | e
    · show r.foldl min x ∈ _
      rw [e]
      exact List.mem_cons_self ..
    · exact List.mem_cons_of_mem _ e
theorem minL_le {l : List Nat} {x : Nat} (h : x ∈ l) : minL l ≤ x := by
  match l, h with
  | y :: r, h =>
    obtain ⟨h1, h2⟩ := foldl_min_le r y
    rcases List.mem_cons.mp h with e | e
    · subst e; exact h1
    · exact h2 x e

/-! ## the specification's table holds its own equation -/
theorem idx_inj {n m k i j : Nat} (hi : i < n) (hj : j < n) (e : m * n + j = k * n + i) : m = k ∧ j = i := by
  have e1 : (m * n + j) / n = m := by
    rw [Nat.mul_comm, Nat.mul_add_div (by omega), Nat.div_eq_of_lt hj, Nat.add_zero]
  have e2 : (k * n + i) / n = k := by
    rw [Nat.mul_comm, Nat.mul_add_div (by omega), Nat.div_eq_of_lt hi, Nat.add_zero]
  have : m = k := by rw [← e1, e, e2]
  subst this
  exact ⟨rfl, by omega⟩
theorem idx_lt {n N k i : Nat} (hi : i < n) (hk : k < N) : k * n + i < N * n := by
  have : (k + 1) * n ≤ N * n := Nat.mul_le_mul_right _ hk
  rw [Nat.add_mul, Nat.one_mul] at this
  omega
theorem getD_set_same {t : Array Nat} {p x d : Nat} (h : p < t.size) : (t.setIfInBounds p x).getD p d = x := by
  rw [Array.getD_eq_getD_getElem?, Array.getElem?_setIfInBounds, if_pos rfl, if_pos h]; rfl
theorem getD_set_ne {t : Array Nat} {p q x d : Nat} (h : p ≠ q) : (t.setIfInBounds p x).getD q d = t.getD q d := by
  rw [Array.getD_eq_getD_getElem?, Array.getElem?_setIfInBounds, if_neg h, Array.getD_eq_getD_getElem?]
theorem bit_up {m j n : Nat} (hm : m < 2 ^ n) (hj : j < n) (h : m.testBit j = false) : m < m + 2 ^ j ∧ m + 2 ^ j < 2 ^ n := by
  refine ⟨by have := Nat.two_pow_pos j; omega, ?_⟩
  apply Nat.lt_pow_two_of_testBit
  intro i hi
  rw [testBit_add_pow h, Bool.or_eq_false_iff]
  exact ⟨Nat.testBit_lt_two_pow (Nat.lt_of_lt_of_le hm (Nat.pow_le_pow_right (by decide) hi)), decide_eq_false (by omega)⟩
theorem mayNext_bit {v : Wants} {m j : Nat} (h : mayNext v m j = true) : m.testBit j = false := by
  unfold mayNext at h
  rw [Bool.and_eq_true, Bool.not_eq_true'] at h
  exact h.1
/-- what stillFrom reads: the rows above m -/
theorem stillFrom_congr {v : Wants} {t t' : Array Nat} {m i : Nat} (hm : m < 2 ^ v.threads.length)
    (h : ∀ m', m < m' → m' < 2 ^ v.threads.length → ∀ j, j < v.threads.length → t.getD (m' * v.threads.length + j) FAR_ = t'.getD (m' * v.threads.length + j) FAR_) : stillFrom v t m i = stillFrom v t' m i := by
  unfold stillFrom
  dsimp only
  have e : ((List.range v.threads.length).filter (mayNext v m)).map (fun (j : Nat) => differ v i j + t.getD ((m + 2 ^ j) * v.threads.length + j) FAR_) = ((List.range v.threads.length).filter (mayNext v m)).map (fun (j : Nat) => differ v i j + t'.getD ((m + 2 ^ j) * v.threads.length + j) FAR_) := by
    apply List.map_congr_left
    intro j hj
    obtain ⟨h1, h2⟩ := List.mem_filter.mp hj
    have hj2 : j < v.threads.length := List.mem_range.mp h1
    have hb := bit_up hm hj2 (mayNext_bit h2)
    rw [h (m + 2 ^ j) hb.1 hb.2 j hj2]
  rw [e]
def inner (v : Wants) (k q : Nat) (t : Array Nat) : Array Nat := (List.range q).foldl (fun (t : Array Nat) (i : Nat) => t.setIfInBounds (k * v.threads.length + i) (stillFrom v t k i)) t
theorem inner_succ (v : Wants) (k q : Nat) (t : Array Nat) : inner v k (q + 1) t = (inner v k q t).setIfInBounds (k * v.threads.length + q) (stillFrom v (inner v k q t) k q) := by
  unfold inner
  rw [List.range_succ, List.foldl_append]
  rfl
theorem inner_is (v : Wants) {k : Nat} (hk : k < 2 ^ v.threads.length) (t : Array Nat) (hs : t.size = 2 ^ v.threads.length * v.threads.length) : ∀ q, q ≤ v.threads.length →
    (inner v k q t).size = t.size ∧ (∀ m j, m ≠ k → j < v.threads.length → (inner v k q t).getD (m * v.threads.length + j) FAR_ = t.getD (m * v.threads.length + j) FAR_) ∧
    ∀ i, i < q → (inner v k q t).getD (k * v.threads.length + i) FAR_ = stillFrom v t k i
  | 0, _ => ⟨rfl, fun _ _ _ _ => rfl, fun i hi => absurd hi (Nat.not_lt_zero i)⟩
  | q + 1, hq => by
    obtain ⟨h1, h2, h3⟩ := inner_is v hk t hs q (by omega)
    have e : stillFrom v (inner v k q t) k q = stillFrom v t k q := stillFrom_congr hk fun m' hm' _ j hj => h2 m' j (by omega) hj
    rw [inner_succ, e]
    refine ⟨by rw [Array.size_setIfInBounds]; exact h1, fun m j hm hj => ?_, fun i hi => ?_⟩
    · rw [getD_set_ne (fun z => hm (idx_inj (i := q) (by omega) hj z.symm).1)]
      exact h2 m j hm hj
    · by_cases c : i = q
      · subst c
        rw [getD_set_same]
        rw [h1, hs]
        exact idx_lt (by omega) hk
      · rw [getD_set_ne (by omega)]
        exact h3 i (by omega)
def Holds (v : Wants) (k : Nat) (t : Array Nat) : Prop := t.size = 2 ^ v.threads.length * v.threads.length ∧ ∀ m, k ≤ m → m < 2 ^ v.threads.length → ∀ i, i < v.threads.length → t.getD (m * v.threads.length + i) FAR_ = stillFrom v t m i
theorem holds_step {v : Wants} {k : Nat} {t : Array Nat} (hk : k < 2 ^ v.threads.length) (h : Holds v (k + 1) t) : Holds v k (inner v k v.threads.length t) := by
  obtain ⟨h1, h2, h3⟩ := inner_is v hk t h.1 v.threads.length (Nat.le_refl _)
  refine ⟨h1.trans h.1, fun m hm hN i hi => ?_⟩
  have e : stillFrom v (inner v k v.threads.length t) m i = stillFrom v t m i := stillFrom_congr hN fun m' hm' _ j hj => h2 m' j (by omega) hj
  rw [e]
  by_cases c : m = k
  · subst c
    exact h3 i hi
  · rw [h2 m i c hi]
    exact h.2 m (by omega) hN i hi
theorem holds_all (v : Wants) : ∀ (k : Nat) (t : Array Nat), k ≤ 2 ^ v.threads.length → Holds v k t → Holds v 0 ((List.range k).reverse.foldl (fun (t : Array Nat) (m : Nat) => inner v m v.threads.length t) t)
  | 0, t, _, h => h
  | k + 1, t, hk, h => by
    rw [List.range_succ, List.reverse_append]
    exact holds_all v k _ (by omega) (holds_step (by omega) h)
theorem still_holds (v : Wants) : Holds v 0 (still v) := by
  refine holds_all v _ (Array.replicate (2 ^ v.threads.length * v.threads.length) FAR_) (Nat.le_refl _) ⟨by rw [Array.size_replicate], fun m h1 h2 => ?_⟩
  omega
def S (v : Wants) (m i : Nat) : Nat := (still v).getD (m * v.threads.length + i) FAR_
theorem S_eq (v : Wants) {m i : Nat} (hm : m < 2 ^ v.threads.length) (hi : i < v.threads.length) : S v m i = stillFrom v (still v) m i := (still_holds v).2 m (Nat.zero_le _) hm i hi

/-! ## the numbers still to come -/
def zc : Nat → Nat → Nat
  | 0, _ => 0
  | n + 1, m => zc n m + (if m.testBit n = true then 0 else 1)
theorem zc_le (m : Nat) : ∀ n, zc n m ≤ n
  | 0 => Nat.le_refl _
  | n + 1 => by
    have := zc_le m n
    unfold zc
    split <;> omega
theorem zc_zero {m : Nat} : ∀ {n : Nat}, zc n m = 0 → ∀ i, i < n → m.testBit i = true
  | 0, _, i, hi => absurd hi (Nat.not_lt_zero i)
  | n + 1, h, i, hi => by
    unfold zc at h
    by_cases c : m.testBit n = true
    · rw [if_pos c] at h
      by_cases e : i = n
      · rw [e]; exact c
      · exact zc_zero (n := n) (by omega) i (by omega)
    · rw [if_neg c] at h
      omega
theorem zc_low {m : Nat} : ∀ {n : Nat}, 0 < zc n m → ∃ j, j < n ∧ m.testBit j = false ∧ ∀ i, i < j → m.testBit i = true
  | 0, h => absurd h (Nat.not_lt_zero 0)
  | n + 1, h => by
    by_cases c0 : zc n m = 0
    · unfold zc at h
      refine ⟨n, by omega, ?_, zc_zero c0⟩
      cases e : m.testBit n with
      | false => rfl
      | true =>
        rw [if_pos e] at h
        omega
    · obtain ⟨j, hj, h1, h2⟩ := zc_low (m := m) (n := n) (by omega)
      exact ⟨j, by omega, h1, h2⟩
theorem zc_same {m j : Nat} (h : m.testBit j = false) : ∀ {n : Nat}, n ≤ j → zc n (m + 2 ^ j) = zc n m
  | 0, _ => rfl
  | n + 1, hn => by
    unfold zc
    rw [zc_same h (n := n) (by omega), testBit_add_pow h, decide_eq_false (by omega), Bool.or_false]
theorem zc_add {m j : Nat} (h : m.testBit j = false) : ∀ {n : Nat}, j < n → zc n (m + 2 ^ j) + 1 = zc n m
  | 0, hj => absurd hj (Nat.not_lt_zero j)
  | n + 1, hj => by
    unfold zc
    rw [testBit_add_pow h]
    by_cases c : n = j
    · subst c
      rw [zc_same h (Nat.le_refl _), h, decide_eq_true rfl]
      simp
    · have ih := zc_add h (n := n) (by omega)
      rw [decide_eq_false c, Bool.or_false]
      omega
theorem zc_none : ∀ n, zc n 0 = n
  | 0 => rfl
  | n + 1 => by
    unfold zc
    rw [zc_none n, Nat.zero_testBit]
    simp
theorem full_of {n m : Nat} (hm : m < 2 ^ n) (h : ∀ i, i < n → m.testBit i = true) : m = 2 ^ n - 1 := by
  apply Nat.eq_of_testBit_eq
  intro i
  rw [Nat.testBit_two_pow_sub_one]
  by_cases c : i < n
  · rw [h i c, decide_eq_true c]
  · rw [decide_eq_false c]
    exact Nat.testBit_lt_two_pow (Nat.lt_of_lt_of_le hm (Nat.pow_le_pow_right (by decide) (by omega)))
theorem zc_full (n : Nat) : ∀ k, k ≤ n → zc k (2 ^ n - 1) = 0
  | 0, _ => rfl
  | k + 1, hk => by
    unfold zc
    rw [zc_full n k (by omega), Nat.testBit_two_pow_sub_one, decide_eq_true (by omega)]
    rfl

/-! ## which may come next -/
def readyM (nu : List Nat) (m : Nat) : List Nat := (List.range nu.length).filter (mayFollow nu m)
theorem mayNext_is {th nu : List Nat} (T : TaskP th nu) (m : Nat) {j : Nat} (hj : j < nu.length) : mayNext ⟨th, nu⟩ m j = mayFollow nu m j := by
  obtain ⟨x, hx⟩ : ∃ x, nu[j]? = some x := ⟨nu[j], List.getElem?_eq_getElem hj⟩
  have hg : nu.getD j 0 = x := getD_of hx
  unfold mayNext mayFollow
  congr 1
  rw [hg, Bool.eq_iff_iff, and_eq_iff, List.all_eq_true]
  constructor
  · intro h i hi
    have hij : i < j := testBit_lt (T.lt _ _ hx) hi
    have h2 := h i (List.mem_range.mpr hij)
    have hb : Wants.before ⟨th, nu⟩ i j = true := by
      show (nu.getD j 0).testBit i = true
      rw [hg]; exact hi
    rw [hb, Bool.not_true, Bool.false_or] at h2
    exact h2
  · intro h i _
    cases e : Wants.before ⟨th, nu⟩ i j with
    | false => rfl
    | true =>
      have e2 : (nu.getD j 0).testBit i = true := e
      rw [hg] at e2
      rw [h i e2]
      rfl
theorem ready_is {th nu : List Nat} (T : TaskP th nu) (m : Nat) : (List.range th.length).filter (mayNext ⟨th, nu⟩ m) = readyM nu m := by
  unfold readyM
  rw [← T.eq]
  apply List.filter_congr
  intro j hj
  exact mayNext_is T m (List.mem_range.mp hj)
theorem ready_mem {nu : List Nat} {m j : Nat} (h : j ∈ readyM nu m) : j < nu.length ∧ m.testBit j = false := by
  obtain ⟨h1, h2⟩ := List.mem_filter.mp h
  unfold mayFollow at h2
  rw [Bool.and_eq_true, Bool.not_eq_true'] at h2
  exact ⟨List.mem_range.mp h1, h2.1⟩
theorem ready_ne {th nu : List Nat} (T : TaskP th nu) {m : Nat} (h : 0 < zc nu.length m) : ∃ j l, readyM nu m = j :: l := by
  obtain ⟨j, hj, h1, h2⟩ := zc_low h
  obtain ⟨x, hx⟩ : ∃ x, nu[j]? = some x := ⟨nu[j], List.getElem?_eq_getElem hj⟩
  have hm : j ∈ readyM nu m := by
    refine List.mem_filter.mpr ⟨List.mem_range.mpr hj, ?_⟩
    unfold mayFollow
    rw [h1, getD_of hx, Bool.and_eq_true, and_eq_iff]
    exact ⟨rfl, fun i hi => h2 i (testBit_lt (T.lt _ _ hx) hi)⟩
  cases e : readyM nu m with
  | nil => rw [e] at hm; cases hm
  | cons a l => exact ⟨a, l, rfl⟩

/-! ## the fewest changes still to come -/
section
variable {th nu : List Nat}
theorem S_full (T : TaskP th nu) {m i : Nat} (hm : m < 2 ^ nu.length) (hi : i < nu.length) (h : zc nu.length m = 0) : S ⟨th, nu⟩ m i = 0 := by
  have e := full_of hm (zc_zero h)
  have hr : readyM nu m = [] := by
    cases e2 : readyM nu m with
    | nil => rfl
    | cons a l =>
      have := ready_mem (nu := nu) (m := m) (j := a) (by rw [e2]; exact List.mem_cons_self ..)
      rw [zc_zero h a this.1] at this
      cases this.2
  rw [S_eq _ (by show m < 2 ^ th.length; rw [← T.eq]; exact hm) (by show i < th.length; rw [← T.eq]; exact hi)]
  unfold stillFrom
  dsimp only
  rw [ready_is T, hr, ← T.eq, e]
  simp
theorem S_more (T : TaskP th nu) {m i : Nat} (hm : m < 2 ^ nu.length) (hi : i < nu.length) (h : 0 < zc nu.length m) :
    S ⟨th, nu⟩ m i = ((readyM nu m).map fun (j : Nat) => differ ⟨th, nu⟩ i j + S ⟨th, nu⟩ (m + 2 ^ j) j).foldl min FAR_ := by
  obtain ⟨a, l, e⟩ := ready_ne T h
  rw [S_eq _ (by show m < 2 ^ th.length; rw [← T.eq]; exact hm) (by show i < th.length; rw [← T.eq]; exact hi)]
  unfold stillFrom
  dsimp only
  rw [ready_is T, e, if_neg (by simp)]
  rfl
theorem S_le (T : TaskP th nu) {m i j : Nat} (hm : m < 2 ^ nu.length) (hi : i < nu.length) (hj : j ∈ readyM nu m) : S ⟨th, nu⟩ m i ≤ differ ⟨th, nu⟩ i j + S ⟨th, nu⟩ (m + 2 ^ j) j := by
  have hj2 := ready_mem hj
  have h : 0 < zc nu.length m := by
    have := zc_add hj2.2 hj2.1
    omega
  rw [S_more T hm hi h]
  exact (foldl_min_le _ _).2 _ (List.mem_map.mpr ⟨j, hj, rfl⟩)
theorem differ_le (v : Wants) (i j : Nat) : differ v i j ≤ 1 := by
  unfold differ
  split <;> omega
theorem S_bound (T : TaskP th nu) : ∀ (k m i : Nat), zc nu.length m = k → m < 2 ^ nu.length → i < nu.length → S ⟨th, nu⟩ m i ≤ k
  | 0, m, i, hk, hm, hi => by
    rw [S_full T hm hi hk]
    exact Nat.le_refl _
  | k + 1, m, i, hk, hm, hi => by
    obtain ⟨j, l, e⟩ := ready_ne T (m := m) (by omega)
    have hj : j ∈ readyM nu m := by rw [e]; exact List.mem_cons_self ..
    have hj2 := ready_mem hj
    have h1 := S_le T hm hi hj
    have h2 := zc_add hj2.2 hj2.1
    have h3 := S_bound T k (m + 2 ^ j) j (by omega) (bit_up hm hj2.1 hj2.2).2 hj2.1
    have := differ_le ⟨th, nu⟩ i j
    omega
theorem S_mem (T : TaskP th nu) {m i : Nat} (hm : m < 2 ^ nu.length) (hi : i < nu.length) (h : 0 < zc nu.length m) : ∃ j, j ∈ readyM nu m ∧ S ⟨th, nu⟩ m i = differ ⟨th, nu⟩ i j + S ⟨th, nu⟩ (m + 2 ^ j) j := by
  have hb := S_bound T _ m i rfl hm hi
  have hz := zc_le m nu.length
  have h12 : nu.length ≤ 12 := by
    have := T.le
    have := T.eq
    omega
  have e := S_more T hm hi h
  rcases foldl_min_mem ((readyM nu m).map fun (j : Nat) => differ ⟨th, nu⟩ i j + S ⟨th, nu⟩ (m + 2 ^ j) j) FAR_ with c | c
  · rw [← e] at c
    unfold FAR_ at c
    omega
  · rw [← e] at c
    obtain ⟨j, hj, e2⟩ := List.mem_map.mp c
    exact ⟨j, hj, e2.symm⟩
end

/-! ## kinds -/
def firstIx (x : Nat) : List Nat → Nat
  | [] => 0
  | a :: r => if a = x then 0 else firstIx x r + 1
theorem firstIx_of : ∀ {l : List Nat} {i x : Nat}, l[i]? = some x → (∀ k y, k < i → l[k]? = some y → y ≠ x) → firstIx x l = i
  | [], i, x, h, _ => by simp at h
  | a :: r, 0, x, h, _ => by
    have e : a = x := Option.some.inj h
    exact if_pos e
  | a :: r, i + 1, x, h, h2 => by
    have h0 : a ≠ x := h2 0 a (by omega) rfl
    have ih := firstIx_of (l := r) (i := i) (x := x) h fun k y hk hy => h2 (k + 1) y (by omega) hy
    show (if a = x then 0 else firstIx x r + 1) = i + 1
    rw [if_neg h0, ih]
theorem firstIx_get : ∀ {l : List Nat} {x : Nat}, x ∈ l → l[firstIx x l]? = some x
  | [], x, h => by cases h
  | a :: r, x, h => by
    show (a :: r)[if a = x then 0 else firstIx x r + 1]? = some x
    by_cases c : a = x
    · rw [if_pos c, c]; rfl
    · rw [if_neg c]
      rcases List.mem_cons.mp h with e | e
      · exact absurd e.symm c
      · exact firstIx_get e
def kindsM (th : List Nat) : List Nat := th.map fun x => firstIx x th
theorem kinds_get {th : List Nat} {j x : Nat} (h : th[j]? = some x) : (kindsM th)[j]? = some (firstIx x th) := by
  unfold kindsM
  rw [List.getElem?_map, h]; rfl
theorem kinds_len (th : List Nat) : (kindsM th).length = th.length := List.length_map ..
theorem kinds_lt {th : List Nat} {j : Nat} (h : j < th.length) : (kindsM th).getD j 0 < th.length := by
  have hx := List.getElem?_eq_getElem h
  rw [getD_of (kinds_get hx)]
  exact (List.getElem?_eq_some_iff.mp (firstIx_get (List.getElem_mem h))).1
theorem kinds_eq {th nu : List Nat} {i j : Nat} (hi : i < th.length) (hj : j < th.length) : differ ⟨th, nu⟩ i j = if (kindsM th).getD i 0 = (kindsM th).getD j 0 then 0 else 1 := by
  have h1 := List.getElem?_eq_getElem hi
  have h2 := List.getElem?_eq_getElem hj
  unfold differ
  show (if th.getD i 0 = th.getD j 0 then 0 else 1) = _
  rw [getD_of (kinds_get h1), getD_of (kinds_get h2), getD_of h1, getD_of h2]
  by_cases c : th[i] = th[j]
  · rw [if_pos c, if_pos (by rw [c])]
  · rw [if_neg c, if_neg]
    intro e
    have e1 := firstIx_get (List.getElem_mem hi)
    have e2 := firstIx_get (List.getElem_mem hj)
    rw [e, e2] at e1
    exact c (Option.some.inj e1).symm

/-! ## the program's table -/
def cell (rows : List (List Nat)) (m c : Nat) : Nat := (rows.getD m []).getD c 0
def leastStep (kd : List Nat) (rows : List (List Nat)) (m : Nat) (le : List Nat) (j : Nat) : List Nat := le.set (kd.getD j 0) (min (le.getD (kd.getD j 0) 0) (cell rows (m + 2 ^ j) (kd.getD j 0)))
def leastM (kd : List Nat) (rows : List (List Nat)) (m : Nat) (js : List Nat) (le : List Nat) : List Nat := js.foldl (leastStep kd rows m) le
def rowM (kd nu : List Nat) (rows : List (List Nat)) (m : Nat) : List Nat := (leastM kd rows m (readyM nu m) (List.replicate kd.length kd.length)).map fun own => min own (minL (leastM kd rows m (readyM nu m) (List.replicate kd.length kd.length)) + 1)
def tabM (kd nu : List Nat) : Nat → List (List Nat)
  | 0 => List.replicate (2 ^ kd.length) (List.replicate kd.length 0)
  | i + 1 => (tabM kd nu i).set (2 ^ kd.length - 2 - i) (rowM kd nu (tabM kd nu i) (2 ^ kd.length - 2 - i))
theorem leastStep_len (kd : List Nat) (rows : List (List Nat)) (m : Nat) (le : List Nat) (j : Nat) : (leastStep kd rows m le j).length = le.length := by
  unfold leastStep
  rw [List.length_set]
theorem leastM_len (kd : List Nat) (rows : List (List Nat)) (m : Nat) : ∀ (js le : List Nat), (leastM kd rows m js le).length = le.length
  | [], _ => rfl
  | j :: r, le => by
    show (leastM kd rows m r (leastStep kd rows m le j)).length = _
    rw [leastM_len kd rows m r, leastStep_len]
theorem getD_lset {l : List Nat} {p q x : Nat} (hp : p < l.length) : (l.set p x).getD q 0 = if p = q then x else l.getD q 0 := by
  rw [List.getD_eq_getElem?_getD, List.getElem?_set]
  by_cases c : p = q
  · subst c
    rw [if_pos rfl, if_pos hp, if_pos rfl]; rfl
  · rw [if_neg c, if_neg c, List.getD_eq_getElem?_getD]
theorem leastM_is (kd : List Nat) (rows : List (List Nat)) (m : Nat) : ∀ (js le : List Nat), (∀ j ∈ js, kd.getD j 0 < le.length) →
    (∀ c, (leastM kd rows m js le).getD c 0 ≤ le.getD c 0) ∧ (∀ j ∈ js, (leastM kd rows m js le).getD (kd.getD j 0) 0 ≤ cell rows (m + 2 ^ j) (kd.getD j 0)) ∧
    ∀ c, (leastM kd rows m js le).getD c 0 = le.getD c 0 ∨ ∃ j ∈ js, kd.getD j 0 = c ∧ (leastM kd rows m js le).getD c 0 = cell rows (m + 2 ^ j) c
  | [], le, _ => ⟨fun c => Nat.le_refl _, (fun j hj => absurd hj (List.not_mem_nil)), fun c => Or.inl rfl⟩
  | j :: r, le, h => by
    have hj := h j (List.mem_cons_self ..)
    have hs : ∀ c, (leastStep kd rows m le j).getD c 0 = if kd.getD j 0 = c then min (le.getD (kd.getD j 0) 0) (cell rows (m + 2 ^ j) (kd.getD j 0)) else le.getD c 0 := fun c => by
      unfold leastStep
      exact getD_lset hj
    obtain ⟨h1, h2, h3⟩ := leastM_is kd rows m r (leastStep kd rows m le j) fun x hx => by
      rw [leastStep_len]
      exact h x (List.mem_cons_of_mem _ hx)
    show (∀ c, (leastM kd rows m r (leastStep kd rows m le j)).getD c 0 ≤ le.getD c 0) ∧ (∀ x ∈ j :: r, (leastM kd rows m r (leastStep kd rows m le j)).getD (kd.getD x 0) 0 ≤ cell rows (m + 2 ^ x) (kd.getD x 0)) ∧
      ∀ c, (leastM kd rows m r (leastStep kd rows m le j)).getD c 0 = le.getD c 0 ∨ ∃ x ∈ j :: r, kd.getD x 0 = c ∧ (leastM kd rows m r (leastStep kd rows m le j)).getD c 0 = cell rows (m + 2 ^ x) c
    refine ⟨fun c => ?_, fun x hx => ?_, fun c => ?_⟩
    · have e1 := h1 c
      rw [hs c] at e1
      by_cases cc : kd.getD j 0 = c
      · rw [if_pos cc] at e1
        subst cc
        exact Nat.le_trans e1 (Nat.min_le_left _ _)
      · rw [if_neg cc] at e1
        exact e1
    · rcases List.mem_cons.mp hx with e | e
      · subst e
        have e1 := h1 (kd.getD x 0)
        rw [hs, if_pos rfl] at e1
        exact Nat.le_trans e1 (Nat.min_le_right _ _)
      · exact h2 x e
    · rcases h3 c with e | ⟨x, hx, e1, e2⟩
      · rw [hs c] at e
        by_cases cc : kd.getD j 0 = c
        · rw [if_pos cc] at e
          subst cc
          by_cases c4 : le.getD (kd.getD j 0) 0 ≤ cell rows (m + 2 ^ j) (kd.getD j 0)
          · left
            rw [e]
            omega
          · right
            refine ⟨j, List.mem_cons_self .., rfl, ?_⟩
            rw [e]
            omega
        · rw [if_neg cc] at e
          exact .inl e
      · exact .inr ⟨x, List.mem_cons_of_mem _ hx, e1, e2⟩
structure TabOk (th nu : List Nat) (low : Nat) (rows : List (List Nat)) : Prop where
  len : rows.length = 2 ^ nu.length
  wid : ∀ (m : Nat) (l : List Nat), rows[m]? = some l → l.length = nu.length
  val : ∀ m, low ≤ m → m < 2 ^ nu.length → ∀ j, j < nu.length → cell rows m ((kindsM th).getD j 0) = S ⟨th, nu⟩ m j
theorem rowM_len (kd nu : List Nat) (rows : List (List Nat)) (m : Nat) : (rowM kd nu rows m).length = kd.length := by
  unfold rowM
  rw [List.length_map, leastM_len, List.length_replicate]
theorem row_ok {th nu : List Nat} (T : TaskP th nu) {m : Nat} {rows : List (List Nat)} (R : TabOk th nu (m + 1) rows) (hm : m < 2 ^ nu.length) (hz : 0 < zc nu.length m) {i : Nat} (hi : i < nu.length) :
    (rowM (kindsM th) nu rows m).getD ((kindsM th).getD i 0) 0 = S ⟨th, nu⟩ m i := by
  have kl : (kindsM th).length = nu.length := by rw [kinds_len, T.eq]
  have kk : ∀ j, j < nu.length → (kindsM th).getD j 0 < nu.length := fun j hj => by
    have := kinds_lt (th := th) (j := j) (by rw [← T.eq]; exact hj)
    rw [← T.eq] at this
    exact this
  have L := leastM_is (kindsM th) rows m (readyM nu m) (List.replicate (kindsM th).length (kindsM th).length) (fun j hj => by
    rw [List.length_replicate, kl]
    exact kk j (ready_mem hj).1)
  have ll := leastM_len (kindsM th) rows m (readyM nu m) (List.replicate (kindsM th).length (kindsM th).length)
  unfold rowM
  generalize leastM (kindsM th) rows m (readyM nu m) (List.replicate (kindsM th).length (kindsM th).length) = le at L ll
  rw [List.length_replicate, kl] at ll
  obtain ⟨_, L2, L3⟩ := L
  have rep : ∀ c, c < nu.length → (List.replicate (kindsM th).length (kindsM th).length).getD c 0 = nu.length := fun c hc => by
    rw [List.getD_eq_getElem?_getD, List.getElem?_replicate, if_pos (by rw [kl]; exact hc), kl]; rfl
  have val : ∀ j, j ∈ readyM nu m → cell rows (m + 2 ^ j) ((kindsM th).getD j 0) = S ⟨th, nu⟩ (m + 2 ^ j) j := fun j hj => by
    have hj2 := ready_mem hj
    have hb := bit_up hm hj2.1 hj2.2
    exact R.val _ hb.1 hb.2 j hj2.1
  have df : ∀ a b, a < nu.length → b < nu.length → differ ⟨th, nu⟩ a b = if (kindsM th).getD a 0 = (kindsM th).getD b 0 then 0 else 1 := fun a b ha hb => kinds_eq (by rw [← T.eq]; exact ha) (by rw [← T.eq]; exact hb)
  have hci := kk i hi
  rw [getD_map (fun own => min own (minL le + 1)) le (d := 0) (by omega)]
  have hb := S_bound T _ m i rfl hm hi
  have hzl := zc_le m nu.length
  have ne : le ≠ [] := by
    intro e
    rw [e] at ll
    have : (0 : Nat) = nu.length := ll
    omega
  -- the least of all
  have hmem := minL_mem ne
  obtain ⟨c, hc⟩ := List.getElem?_of_mem hmem
  have hcl : c < nu.length := by
    have := (List.getElem?_eq_some_iff.mp hc).1
    omega
  have hcv : le.getD c 0 = minL le := getD_of hc
  have up1 : S ⟨th, nu⟩ m i ≤ le.getD ((kindsM th).getD i 0) 0 := by
    rcases L3 ((kindsM th).getD i 0) with e | ⟨j, hj, e1, e2⟩
    · rw [e, rep _ hci]
      omega
    · have hj2 := ready_mem hj
      have s := S_le T hm hi hj
      rw [df i j hi hj2.1, if_pos e1.symm] at s
      rw [e2, ← e1, val j hj]
      omega
  have up2 : S ⟨th, nu⟩ m i ≤ minL le + 1 := by
    rw [← hcv]
    rcases L3 c with e | ⟨j, hj, e1, e2⟩
    · rw [e, rep _ hcl]
      omega
    · have s := S_le T hm hi hj
      have := differ_le ⟨th, nu⟩ i j
      rw [e2, ← e1, val j hj]
      omega
  obtain ⟨j, hj, ej⟩ := S_mem T hm hi hz
  have hj2 := ready_mem hj
  have l2 := L2 j hj
  rw [val j hj] at l2
  rw [df i j hi hj2.1] at ej
  by_cases cc : (kindsM th).getD i 0 = (kindsM th).getD j 0
  · rw [if_pos cc] at ej
    rw [← cc] at l2
    omega
  · rw [if_neg cc] at ej
    have hkj := kk j hj2.1
    have hx := get_getD (l := le) (i := (kindsM th).getD j 0) (d := 0) (by omega)
    have l3 := minL_le (List.mem_of_getElem? hx)
    omega
theorem cell_set {rows : List (List Nat)} {p : Nat} {x : List Nat} (hp : p < rows.length) (m c : Nat) : cell (rows.set p x) m c = if p = m then x.getD c 0 else cell rows m c := by
  unfold cell
  rw [List.getD_eq_getElem?_getD (l := rows.set p x), List.getElem?_set]
  by_cases e : p = m
  · subst e
    rw [if_pos rfl, if_pos hp, if_pos rfl]; rfl
  · rw [if_neg e, if_neg e, ← List.getD_eq_getElem?_getD]
theorem two_pow_two {n : Nat} (h : 0 < n) : 2 ≤ 2 ^ n := by
  have := Nat.pow_le_pow_right (n := 2) (by decide) h
  simpa using this
theorem zc_pos_of {n m : Nat} (hm : m + 1 < 2 ^ n) : 0 < zc n m := by
  apply Nat.pos_of_ne_zero
  intro h
  have := full_of (by omega) (zc_zero h)
  omega
theorem tab_ok {th nu : List Nat} (T : TaskP th nu) : ∀ i, i + 1 ≤ 2 ^ nu.length → TabOk th nu (2 ^ nu.length - 1 - i) (tabM (kindsM th) nu i)
  | 0, _ => by
    have kl : (kindsM th).length = nu.length := by rw [kinds_len, T.eq]
    unfold tabM
    rw [kl]
    refine ⟨List.length_replicate .., fun m l h => ?_, fun m h1 h2 j hj => ?_⟩
    · rw [List.getElem?_replicate] at h
      by_cases c : m < 2 ^ nu.length
      · rw [if_pos c] at h
        rw [← Option.some.inj h, List.length_replicate]
      · rw [if_neg c] at h
        cases h
    · have hk : (kindsM th).getD j 0 < nu.length := by
        have := kinds_lt (th := th) (j := j) (by rw [← T.eq]; exact hj)
        rw [← T.eq] at this
        exact this
      have e : m = 2 ^ nu.length - 1 := by omega
      have hz : zc nu.length m = 0 := by rw [e]; exact zc_full _ _ (Nat.le_refl _)
      rw [S_full T h2 hj hz]
      unfold cell
      have e2 : (List.replicate (2 ^ nu.length) (List.replicate nu.length 0)).getD m [] = List.replicate nu.length 0 := by
        rw [List.getD_eq_getElem?_getD, List.getElem?_replicate, if_pos h2]; rfl
      rw [e2, List.getD_eq_getElem?_getD, List.getElem?_replicate, if_pos hk]; rfl
  | i + 1, hi => by
    have kl : (kindsM th).length = nu.length := by rw [kinds_len, T.eq]
    have ih := tab_ok T i (by omega)
    have hm : 2 ^ nu.length - 2 - i < 2 ^ nu.length := by omega
    have e1 : 2 ^ nu.length - 1 - i = (2 ^ nu.length - 2 - i) + 1 := by omega
    have e2 : 2 ^ nu.length - 1 - (i + 1) = 2 ^ nu.length - 2 - i := by omega
    rw [e1] at ih
    rw [e2]
    unfold tabM
    rw [kl]
    refine ⟨by rw [List.length_set]; exact ih.len, fun m l h => ?_, fun m h1 h2 j hj => ?_⟩
    · rw [List.getElem?_set] at h
      by_cases c : 2 ^ nu.length - 2 - i = m
      · rw [if_pos c, if_pos (by rw [ih.len]; omega)] at h
        rw [← Option.some.inj h, rowM_len, kl]
      · rw [if_neg c] at h
        exact ih.wid m l h
    · rw [cell_set (by rw [ih.len]; exact hm)]
      by_cases c : 2 ^ nu.length - 2 - i = m
      · rw [if_pos c, ← c]
        exact row_ok T ih hm (zc_pos_of (by omega)) hj
      · rw [if_neg c]
        exact ih.val m (by omega) h2 j hj

/-! ## the told order -/
def stepM (last : Int) (c : Nat) : Nat := if last = -1 then 0 else if last = (c : Int) then 0 else 1
def costM (kd : List Nat) (rows : List (List Nat)) (m : Nat) (last : Int) (j : Nat) : Nat := stepM last (kd.getD j 0) + cell rows (m + 2 ^ j) (kd.getD j 0)
def pick (cost : Nat → Nat) : List Nat → Option Nat
  | [] => none
  | j :: l => some (l.foldl (fun (b i : Nat) => if cost i < cost b then i else b) j)
theorem pick_snoc (cost : Nat → Nat) (l : List Nat) (x : Nat) : pick cost (l ++ [x]) = some (match pick cost l with | none => x | some b => if cost x < cost b then x else b) := by
  cases l with
  | nil => rfl
  | cons j r =>
    show some ((r ++ [x]).foldl _ j) = _
    rw [List.foldl_append]
    rfl
theorem fold_mem (cost : Nat → Nat) : ∀ (l : List Nat) (j : Nat), l.foldl (fun (b i : Nat) => if cost i < cost b then i else b) j ∈ j :: l
  | [], j => List.mem_cons_self ..
  | x :: r, j => by
    show r.foldl _ (if cost x < cost j then x else j) ∈ _
    have ih := fold_mem cost r (if cost x < cost j then x else j)
    rcases List.mem_cons.mp ih with e | e
    · rw [e]
      split
      · exact List.mem_cons_of_mem _ (List.mem_cons_self ..)
      · exact List.mem_cons_self ..
    · exact List.mem_cons_of_mem _ (List.mem_cons_of_mem _ e)
theorem pick_mem {cost : Nat → Nat} {l : List Nat} {x : Nat} (h : pick cost l = some x) : x ∈ l := by
  cases l with
  | nil => cases h
  | cons j r =>
    have e : r.foldl (fun (b i : Nat) => if cost i < cost b then i else b) j = x := Option.some.inj h
    rw [← e]
    exact fold_mem cost r j
theorem fold_congr {c1 c2 : Nat → Nat} : ∀ (l : List Nat) (j : Nat), (∀ x ∈ j :: l, c1 x = c2 x) → l.foldl (fun (b i : Nat) => if c1 i < c1 b then i else b) j = l.foldl (fun (b i : Nat) => if c2 i < c2 b then i else b) j
  | [], _, _ => rfl
  | x :: r, j, h => by
    show r.foldl _ (if c1 x < c1 j then x else j) = r.foldl _ (if c2 x < c2 j then x else j)
    rw [h x (List.mem_cons_of_mem _ (List.mem_cons_self ..)), h j (List.mem_cons_self ..)]
    refine fold_congr r _ fun y hy => ?_
    rcases List.mem_cons.mp hy with e | e
    · rw [e]
      split
      · exact h x (List.mem_cons_of_mem _ (List.mem_cons_self ..))
      · exact h j (List.mem_cons_self ..)
    · exact h y (List.mem_cons_of_mem _ (List.mem_cons_of_mem _ e))
theorem pick_congr {c1 c2 : Nat → Nat} {l : List Nat} (h : ∀ x ∈ l, c1 x = c2 x) : pick c1 l = pick c2 l := by
  cases l with
  | nil => rfl
  | cons j r => exact congrArg some (fold_congr r j h)
/-- what the program keeps of the last one placed -/
def LastIs (kd : List Nat) (n : Nat) : Option Nat → Int → Prop
  | none, z => z = -1
  | some i, z => i < n ∧ z = (kd.getD i 0 : Nat)
theorem goOn_step {th nu : List Nat} (T : TaskP th nu) {rows : List (List Nat)} (R : TabOk th nu 0 rows) {m k : Nat} {last : Option Nat} {z : Int} (hm : m < 2 ^ nu.length) (hz : zc nu.length m = k + 1) (hl : LastIs (kindsM th) nu.length last z) :
    ∃ x, pick (costM (kindsM th) rows m z) (readyM nu m) = some x ∧ x ∈ readyM nu m ∧ goOn ⟨th, nu⟩ (still ⟨th, nu⟩) (k + 1) m last = x :: goOn ⟨th, nu⟩ (still ⟨th, nu⟩) k (m + 2 ^ x) (some x) := by
  obtain ⟨j, l, e⟩ := ready_ne T (m := m) (by omega)
  have cost : ∀ x ∈ readyM nu m, costM (kindsM th) rows m z x = (match (generalizing := false) last with | some i => differ ⟨th, nu⟩ i x | none => 0) + (still ⟨th, nu⟩).getD ((m + 2 ^ x) * th.length + x) FAR_ := fun x hx => by
    have hx2 := ready_mem hx
    have hb := bit_up hm hx2.1 hx2.2
    unfold costM
    rw [R.val _ (Nat.zero_le _) hb.2 x hx2.1]
    congr 1
    cases last with
    | none =>
      have hl' : z = -1 := hl
      exact if_pos hl'
    | some i =>
      obtain ⟨hi, hl'⟩ : i < nu.length ∧ z = ((kindsM th).getD i 0 : Nat) := hl
      show stepM z _ = differ ⟨th, nu⟩ i x
      rw [kinds_eq (by rw [← T.eq]; exact hi) (by rw [← T.eq]; exact hx2.1)]
      unfold stepM
      rw [if_neg (by omega), hl']
      by_cases c : (kindsM th).getD i 0 = (kindsM th).getD x 0
      · rw [if_pos c, if_pos (by rw [c])]
      · rw [if_neg c, if_neg (by omega)]
  have pe := pick_congr cost
  rw [e] at pe
  refine ⟨_, by rw [e]; exact pe, ?_, ?_⟩
  · rw [e]
    exact fold_mem _ l j
  · show (match (List.range th.length).filter (mayNext ⟨th, nu⟩ m) with
      | [] => []
      | j :: l => _) = _
    rw [ready_is T, e]
    rfl
def orderM (th nu : List Nat) : List Int := if taskOk th nu = true then ((chg th (leastOrder ⟨th, nu⟩) : Nat) : Int) :: castL (leastOrder ⟨th, nu⟩) else [-1]
theorem order_is (th nu : List Nat) : PyYqstfa.order (castL th) (castL nu) = orderM th nu := by
  show YqstfaNeutral.f [[3], castL th, castL nu] = _
  have e : YqstfaNeutral.callOf [[3], castL th, castL nu] = some (.order ⟨th, nu⟩) := by
    show (YqstfaNeutral.nats? (castL th)).bind (fun t => (YqstfaNeutral.nats? (castL nu)).map fun o => Yqstfa.Call.order ⟨t, o⟩) = _
    unfold castL
    rw [nats_cast, nats_cast]
    rfl
  unfold YqstfaNeutral.f
  rw [e]
  show YqstfaNeutral.told (if Wants.ok ⟨th, nu⟩ = true then .numbers (changes ⟨th, nu⟩ (leastOrder ⟨th, nu⟩)) (leastOrder ⟨th, nu⟩) else .no (-1)) = _
  unfold orderM
  rw [taskOk_is]
  by_cases c : taskOk th nu = true
  · rw [if_pos c, if_pos c, chg_is]; rfl
  · rw [if_neg c, if_neg c]; rfl
theorem goOn_small (v : Wants) (t : Array Nat) : ∀ (k m : Nat) (last : Option Nat), (goOn v t k m last).length ≤ k ∧ ∀ x ∈ goOn v t k m last, x < v.threads.length
  | 0, _, _ => ⟨Nat.le_refl _, fun x hx => absurd hx List.not_mem_nil⟩
  | k + 1, m, last => by
    unfold goOn
    dsimp only
    cases e : (List.range v.threads.length).filter (mayNext v m) with
    | nil => exact ⟨Nat.zero_le _, fun x hx => absurd hx List.not_mem_nil⟩
    | cons j l =>
      dsimp only
      have hm := fold_mem (fun (j : Nat) => (match last with | some i => differ v i j | none => 0) + t.getD ((m + 2 ^ j) * v.threads.length + j) FAR_) l j
      generalize l.foldl _ j = x at hm ⊢
      have hx : x < v.threads.length := by
        rw [← e] at hm
        exact List.mem_range.mp (List.mem_filter.mp hm).1
      obtain ⟨h1, h2⟩ := goOn_small v t k (m + 2 ^ x) (some x)
      refine ⟨by rw [List.length_cons]; omega, fun y hy => ?_⟩
      rcases List.mem_cons.mp hy with e2 | e2
      · rw [e2]; exact hx
      · exact h2 y e2
theorem tabM_len (kd nu : List Nat) : ∀ i, (tabM kd nu i).length = 2 ^ kd.length
  | 0 => List.length_replicate ..
  | i + 1 => by
    unfold tabM
    rw [List.length_set]
    exact tabM_len kd nu i
theorem tabM_wid (kd nu : List Nat) : ∀ (i m : Nat) (l : List Nat), (tabM kd nu i)[m]? = some l → l.length = kd.length
  | 0, m, l, h => by
    unfold tabM at h
    rw [List.getElem?_replicate] at h
    by_cases c : m < 2 ^ kd.length
    · rw [if_pos c] at h
      rw [← Option.some.inj h, List.length_replicate]
    · rw [if_neg c] at h
      cases h
  | i + 1, m, l, h => by
    unfold tabM at h
    rw [List.getElem?_set] at h
    by_cases c : 2 ^ kd.length - 2 - i = m
    · rw [if_pos c] at h
      by_cases c2 : 2 ^ kd.length - 2 - i < (tabM kd nu i).length
      · rw [if_pos c2] at h
        rw [← Option.some.inj h, rowM_len]
      · rw [if_neg c2] at h
        cases h
    · rw [if_neg c] at h
      exact tabM_wid kd nu i m l h
end TR
namespace TR
/-! ## lists that go with lists -/
def All2 {α β : Type} (R : α → β → Prop) (xs : List α) (ys : List β) : Prop := xs.length = ys.length ∧ ∀ (i : Nat) x y, xs[i]? = some x → ys[i]? = some y → R x y
theorem All2.nil {α β : Type} {R : α → β → Prop} : All2 R [] [] := ⟨rfl, fun i x y h => by simp at h⟩
theorem All2.one {α β : Type} {R : α → β → Prop} {x : α} {y : β} (h : R x y) : All2 R [x] [y] := ⟨rfl, fun i a b h1 h2 => by
  cases i with
  | zero =>
    have e1 : x = a := Option.some.inj h1
    have e2 : y = b := Option.some.inj h2
    subst e1 e2
    exact h
  | succ i => simp at h1⟩
theorem All2.imp {α β : Type} {R S : α → β → Prop} {xs : List α} {ys : List β} (h : All2 R xs ys) (f : ∀ x y, R x y → S x y) : All2 S xs ys := ⟨h.1, fun i x y h1 h2 => f x y (h.2 i x y h1 h2)⟩
theorem All2.append {α β : Type} {R : α → β → Prop} {xs xs' : List α} {ys ys' : List β} (h : All2 R xs ys) (h' : All2 R xs' ys') : All2 R (xs ++ xs') (ys ++ ys') := by
  refine ⟨by rw [List.length_append, List.length_append, h.1, h'.1], fun i x y h1 h2 => ?_⟩
  by_cases c : i < xs.length
  · rw [List.getElem?_append_left c] at h1
    rw [List.getElem?_append_left (by rw [← h.1]; exact c)] at h2
    exact h.2 i x y h1 h2
  · rw [List.getElem?_append_right (by omega)] at h1
    rw [List.getElem?_append_right (by rw [← h.1]; omega), ← h.1] at h2
    exact h'.2 _ x y h1 h2
theorem All2.get {α β : Type} {R : α → β → Prop} {xs : List α} {ys : List β} {i : Nat} {x : α} (h : All2 R xs ys) (hx : xs[i]? = some x) : ∃ y, ys[i]? = some y ∧ R x y := by
  have hi : i < ys.length := by
    rw [← h.1]
    exact (List.getElem?_eq_some_iff.mp hx).1
  exact ⟨ys[i], List.getElem?_eq_getElem hi, h.2 i x _ hx (List.getElem?_eq_getElem hi)⟩
theorem All2.get' {α β : Type} {R : α → β → Prop} {xs : List α} {ys : List β} {i : Nat} {y : β} (h : All2 R xs ys) (hy : ys[i]? = some y) : ∃ x, xs[i]? = some x ∧ R x y := by
  have hi : i < xs.length := by
    rw [h.1]
    exact (List.getElem?_eq_some_iff.mp hy).1
  exact ⟨xs[i], List.getElem?_eq_getElem hi, h.2 i _ y (List.getElem?_eq_getElem hi) hy⟩
theorem All2.set {α β : Type} {R : α → β → Prop} {xs : List α} {ys : List β} (h : All2 R xs ys) {x : α} {y : β} (k : Nat) (hr : R x y) : All2 R (xs.set k x) (ys.set k y) := by
  refine ⟨by rw [List.length_set, List.length_set, h.1], fun i a b h1 h2 => ?_⟩
  rw [List.getElem?_set] at h1 h2
  by_cases c : k = i
  · rw [if_pos c] at h1 h2
    by_cases c1 : k < xs.length
    · rw [if_pos c1] at h1
      rw [if_pos (by rw [← h.1]; exact c1)] at h2
      rw [← Option.some.inj h1, ← Option.some.inj h2]
      exact hr
    · rw [if_neg c1] at h1
      cases h1
  · rw [if_neg c] at h1 h2
    exact h.2 i a b h1 h2
end TR
namespace TR
open PySem PySem.Spec PyProof.Rows L2
/-! ## a def that is called, by its name -/
structure CallOk (P : Program) (w : World) (K : PySem.W.Frag) (mg : Str → Option Value) (base : Heap) (k : Nat) (x : Str) (ps : List Str) (sp : Sp) : Prop where
  ex : ∃ f fd, FnOk P w K mg base CX0 k f fd ps sp ∧ mg x = some (.ref f) ∧ PySem.W.keepIn K (.ref f) = true ∧ Binds K fd ps []
section
variable {X : Cx} {k : Nat} {x : Str} {ps : List Str} {sp : Sp} {p pos : Pos} {e : Expr} {es : List Expr} {t : TA}
theorem pe_cf (C : CallOk X.prog X.w X.K X.mg X.base k x ps sp) (hr : Room k X.A) (ha : PA X (e :: es) t) (hg : Gl X x := by rfl) (hdb : (x == ("__debug__" : Str)) = false := by decide)
    (he : starEach (e :: es) X.env = (false, eval e X.env) :: starEach es X.env := by rfl) (hpl : (backTo pos (starEach es X.env)).any (·.1) = false := by rfl) :
    PE X (.Call (.Name x p) (e :: es) [] pos) (tCall sp [] E0 t) := by
  obtain ⟨f, fd, F, hm, hk, hb⟩ := C
  exact pe_call F hr hg hm hk hb .nil pass0 ha hdb he hpl
end
/-- a constant of the top, an int -/
theorem pe_gi {X : Cx} {x : Str} {pos : Pos} {i : Int} (hm : ∃ t, X.mg x = some (.int i t)) (hg : Gl X x := by rfl) (hd : (x == ("__debug__" : Str)) = false := by decide) : PE X (.Name x pos) (tC (.int i)) := by
  obtain ⟨t, e⟩ := hm
  exact pe_glob hg e ⟨_, rfl⟩ hd
/-! ## values -/
abbrev iv (n : Nat) : V := .int (n : Int)
theorem iv_get {l : List Nat} {i : Nat} {x : Nat} (h : l[i]? = some x) : (l.map iv)[i]? = some (iv x) := by
  rw [List.getElem?_map, h]; rfl
theorem iv_at {l : List Nat} {i : Nat} {x : Nat} (h : l[i]? = some x) : atI (l.map iv) (i : Int) = some (iv x) := atI_nat (iv_get h)
theorem iv_of {l : List Nat} {i : Nat} {v : V} (h : (l.map iv)[i]? = some v) : ∃ x, l[i]? = some x ∧ v = iv x := by
  rw [List.getElem?_map] at h
  cases e : l[i]? with
  | none => rw [e] at h; cases h
  | some x => rw [e] at h; exact ⟨x, rfl, (Option.some.inj h).symm⟩
theorem get_of_lt {α : Type} {l : List α} {i : Nat} (h : i < l.length) : ∃ x, l[i]? = some x := ⟨l[i], List.getElem?_eq_getElem h⟩
theorem vint_iff {a b : Int} : decide (V.int a = V.int b) = true ↔ a = b := by
  rw [decide_eq_true_iff]
  exact ⟨V.int.inj, fun h => by rw [h]⟩
theorem vint_ne {a b : Int} : (!decide (V.int a = V.int b)) = true ↔ a ≠ b := by
  rw [Bool.not_eq_true', ← Bool.not_eq_true, vint_iff]
theorem sizeLine_big : 1000000 ≤ sizeLine := by decide
/-! ## heaps -/
theorem Same.fresh {H : Hp} {p : Addr} {o : HO} (h : H p = none) : Same H (upd H p o) := fun b x e => by
  rw [upd_ne (ne_of_none e h)]
  exact e
/-- a change at an address that was free at the start -/
theorem Same.over {H H' : Hp} {p : Addr} {o : HO} (s : Same H H') (h : H p = none) : Same H (upd H' p o) := fun b x e => by
  rw [upd_ne (ne_of_none e h)]
  exact s b x e
theorem Same.seqT {K : PySem.W.Frag} {H H' : Hp} {a : Addr} {xs : List V} (e : Same H H') (h : SqT K H a xs) : SqT K H' a xs := by
  rcases h with (h | ⟨o, h⟩) | h
  · exact .inl (.inl (e _ _ h))
  · exact .inl (.inr ⟨o, e _ _ h⟩)
  · exact .inr h
/-! ## loops over range(n), by naturals -/
theorem for_rng0 {m : Int} {n : Nat} (hm : m = (n : Int)) {g : TG} {tb : TS} {D : Ends} {σ : L2.St} {H : Hp} (Pv : Nat → L2.St → Hp → Prop) (h0 : Pv 0 σ H)
    (hs : ∀ i σ H, i < n → Pv i σ H → g (iv i) σ H fun σ2 H2 => tb { D with nx := Pv (i + 1), ct := Pv (i + 1), bk := D.nx } σ2 H2) (hd : ∀ σ H, Pv n σ H → D.nx σ H) :
    ∃ W : Nat → Nat → L2.St → Hp → Prop, (∃ m, W 0 m σ H) ∧ ∀ i k σ H, W i k σ H →
      ((Itr 0 m.toNat).stop i H ∧ D.nx σ H) ∨ ((Itr 0 m.toNat).go i H ∧ ∃ N : L2.St → Hp → Prop, (∀ σ' H', N σ' H' → ∃ m', m' < k ∧ W (i + 1) m' σ' H') ∧ ∀ x H', (Itr 0 m.toNat).yld i H x H' → g x σ H' fun σ2 H2 => tb { D with nx := N, ct := N, bk := D.nx } σ2 H2) := by
  subst hm
  rw [Int.toNat_natCast]
  refine for_range (lo := 0) (n := n) Pv h0 (fun i σ H hi p => ?_) hd
  rw [Int.zero_add]
  exact hs i σ H hi p
/-- range(1, n) -/
theorem for_rng1 {a m : Int} {n : Nat} (ha : a = 1) (hm : m = (n : Int)) {g : TG} {tb : TS} {D : Ends} {σ : L2.St} {H : Hp} (Pv : Nat → L2.St → Hp → Prop) (h0 : Pv 0 σ H)
    (hs : ∀ i σ H, i + 1 < n → Pv i σ H → g (iv (i + 1)) σ H fun σ2 H2 => tb { D with nx := Pv (i + 1), ct := Pv (i + 1), bk := D.nx } σ2 H2) (hd : ∀ σ H, Pv (n - 1) σ H → D.nx σ H) :
    ∃ W : Nat → Nat → L2.St → Hp → Prop, (∃ m, W 0 m σ H) ∧ ∀ i k σ H, W i k σ H →
      ((Itr a (m - a).toNat).stop i H ∧ D.nx σ H) ∨ ((Itr a (m - a).toNat).go i H ∧ ∃ N : L2.St → Hp → Prop, (∀ σ' H', N σ' H' → ∃ m', m' < k ∧ W (i + 1) m' σ' H') ∧ ∀ x H', (Itr a (m - a).toNat).yld i H x H' → g x σ H' fun σ2 H2 => tb { D with nx := N, ct := N, bk := D.nx } σ2 H2) := by
  subst ha hm
  have e : ((n : Int) - 1).toNat = n - 1 := by omega
  rw [e]
  refine for_range (lo := 1) (n := n - 1) Pv h0 (fun i σ H hi p => ?_) hd
  have e2 : (1 : Int) + (i : Int) = ((i + 1 : Nat) : Int) := by omega
  rw [e2]
  exact hs i σ H (by omega) p
/-! ## comprehensions over range(n), by naturals -/
theorem lc_rng0 {m : Int} {n : Nat} (hm : m = (n : Int)) {g : TG} {tt : TT} {te : TE} {vs : List Nat} {σ : L2.St} {H1 : Hp} {D : Addr} {Qd : Hp → Prop} (Pv : Nat → Hp → Prop) (h0 : Pv 0 (upd H1 D (.lst [])))
    (hs : ∀ i H, i < n → Pv i H → g (iv i) (wipe σ vs) H fun σ2 H2 => wipe σ2 vs = wipe σ vs ∧ tt σ2 H2 fun b H3 =>
      if b = true then te σ2 H3 fun y H4 => ∃ acc, H4 D = some (.lst acc) ∧ acc.length < sizeLine ∧ Pv (i + 1) (upd H4 D (.lst (acc ++ [y]))) else Pv (i + 1) H3) (hd : ∀ H, Pv n H → Qd H) :
    ∃ W : Nat → Nat → Hp → Prop, (∃ k, W 0 k (upd H1 D (.lst []))) ∧ ∀ i k H, W i k H →
      ((Itr 0 m.toNat).stop i H ∧ Qd H) ∨ ((Itr 0 m.toNat).go i H ∧ ∃ Nx : Hp → Prop, (∀ H', Nx H' → ∃ m', m' < k ∧ W (i + 1) m' H') ∧ ∀ x H', (Itr 0 m.toNat).yld i H x H' → g x (wipe σ vs) H' fun σ2 H2 => wipe σ2 vs = wipe σ vs ∧ tt σ2 H2 fun b H3 =>
        if b = true then te σ2 H3 fun y H4 => ∃ acc, H4 D = some (.lst acc) ∧ acc.length < sizeLine ∧ Nx (upd H4 D (.lst (acc ++ [y]))) else Nx H3) := by
  subst hm
  rw [Int.toNat_natCast]
  refine lc_range (lo := 0) (n := n) Pv h0 (fun i H hi p => ?_) hd
  rw [Int.zero_add]
  exact hs i H hi p
theorem small_len {n : Nat} (h : n ≤ 100000) : n < sizeLine := Nat.lt_of_le_of_lt h (by decide)
theorem ixN_nat {n j : Nat} (h : j < n) : ixN n (j : Int) = some j := by
  unfold ixN
  rw [if_pos (by omega), if_pos (by omega), Int.toNat_natCast]
/-- a list at a stands when another one changes -/
theorem SqL.keep {K : PySem.W.Frag} {H : Hp} {a o : Addr} {xs : List V} {x : HO} (h : SqL K H a xs) (n : a ≠ o) : SqL K (upd H o x) a xs := by
  rcases h with (h | ⟨u, h⟩) | h
  · exact .inl (.inl (by rw [upd_ne n]; exact h))
  · exact .inl (.inr ⟨u, by rw [upd_ne n]; exact h⟩)
  · exact .inr h
/-- range(N - 2, -1, -1) -/
theorem rng_down {N : Nat} (h : 2 ≤ N) (h2 : N ≤ 1000000) : RgC ((N : Int) - 2) (-1) (-1) (N - 1) := by
  have e := RgC.neg (i := (N : Int) - 2) (j := -1) (by omega) (by omega) (by decide) (by decide)
  have e2 : ((N : Int) - 2 - -1).toNat = N - 1 := by omega
  rw [e2] at e
  exact e
end TR
namespace TR
open PySem PySem.Spec PyProof.Rows L2
/-! ## the text -/
def topS (i : Nat) : Stmt := PySem.Challenge.pw_threadrow_s03_order.main.body.getD i (.Pass ⟨0, 0, 0, 0⟩)
abbrev s_bit : Stmt := topS 1
theorem sc_bit : FnScope ["i"] ["i"] (defScope s_bit) := ⟨rfl, rfl, rfl, by decide +kernel, rfl, by decide +kernel, by decide +kernel⟩
abbrev s_has : Stmt := topS 2
theorem sc_has : FnScope ["number", "i"] ["number", "i"] (defScope s_has) := ⟨rfl, rfl, rfl, by decide +kernel, rfl, by decide +kernel, by decide +kernel⟩
abbrev s_all_among : Stmt := topS 3
theorem sc_all_among : FnScope ["number", "done"] ["number", "done"] (defScope s_all_among) := ⟨rfl, rfl, rfl, by decide +kernel, rfl, by decide +kernel, by decide +kernel⟩
abbrev s_task_allowed : Stmt := topS 7
theorem sc_task_allowed : FnScope ["threads", "numbers", "j"] ["threads", "numbers"] (defScope s_task_allowed) := ⟨rfl, rfl, rfl, by decide +kernel, rfl, by decide +kernel, by decide +kernel⟩
abbrev s_may_follow : Stmt := topS 8
theorem sc_may_follow : FnScope ["numbers", "done", "j"] ["numbers", "done", "j"] (defScope s_may_follow) := ⟨rfl, rfl, rfl, by decide +kernel, rfl, by decide +kernel, by decide +kernel⟩
abbrev s_changes_of : Stmt := topS 9
theorem sc_changes_of : FnScope ["threads", "row", "many", "k"] ["threads", "row"] (defScope s_changes_of) := ⟨rfl, rfl, rfl, by decide +kernel, rfl, by decide +kernel, by decide +kernel⟩
abbrev s_first_alike : Stmt := topS 12
theorem sc_first_alike : FnScope ["threads", "j", "i"] ["threads", "j"] (defScope s_first_alike) := ⟨rfl, rfl, rfl, by decide +kernel, rfl, by decide +kernel, by decide +kernel⟩
abbrev s_kinds_of : Stmt := topS 13
theorem sc_kinds_of : FnScope ["threads", "j"] ["threads"] (defScope s_kinds_of) := ⟨rfl, rfl, rfl, by decide +kernel, rfl, by decide +kernel, by decide +kernel⟩
abbrev s_ready_after : Stmt := topS 14
theorem sc_ready_after : FnScope ["numbers", "done", "j"] ["numbers", "done"] (defScope s_ready_after) := ⟨rfl, rfl, rfl, by decide +kernel, rfl, by decide +kernel, by decide +kernel⟩
abbrev s_coming_row : Stmt := topS 15
theorem sc_coming_row : FnScope ["kinds", "numbers", "table", "done", "least", "j", "with_change", "kind", "own"] ["kinds", "numbers", "table", "done"] (defScope s_coming_row) := ⟨rfl, rfl, rfl, by decide +kernel, rfl, by decide +kernel, by decide +kernel⟩
abbrev s_coming_table : Stmt := topS 16
theorem sc_coming_table : FnScope ["kinds", "numbers", "many", "table", "done"] ["kinds", "numbers"] (defScope s_coming_table) := ⟨rfl, rfl, rfl, by decide +kernel, rfl, by decide +kernel, by decide +kernel⟩
abbrev s_step_into : Stmt := topS 17
theorem sc_step_into : FnScope ["last", "kind"] ["last", "kind"] (defScope s_step_into) := ⟨rfl, rfl, rfl, by decide +kernel, rfl, by decide +kernel, by decide +kernel⟩
abbrev s_best_next : Stmt := topS 18
theorem sc_best_next : FnScope ["kinds", "numbers", "table", "done", "last", "best", "fewest", "j", "changes"] ["kinds", "numbers", "table", "done", "last"] (defScope s_best_next) := ⟨rfl, rfl, rfl, by decide +kernel, rfl, by decide +kernel, by decide +kernel⟩
abbrev s_told_order : Stmt := topS 19
theorem sc_told_order : FnScope ["threads", "numbers", "kinds", "table", "told", "done", "last", "place", "j"] ["threads", "numbers"] (defScope s_told_order) := ⟨rfl, rfl, rfl, by decide +kernel, rfl, by decide +kernel, by decide +kernel⟩
abbrev s_order : Stmt := topS 21
theorem sc_order : FnScope ["threads", "numbers", "told"] ["threads", "numbers"] (defScope s_order) := ⟨rfl, rfl, rfl, by decide +kernel, rfl, by decide +kernel, by decide +kernel⟩
/-- what the top has of built-ins and constants -/
structure Txt (mg : Str → Option Value) : Prop where
  len : mg "len" = none
  range : mg "range" = none
  min : mg "min" = none
  list : mg "list" = none
  MOST_SHAPES : ∃ t, mg "MOST_SHAPES" = some (.int 12 t)
  REFUSED : ∃ t, mg "REFUSED" = some (.int (-1) t)
  NOTHING_YET : ∃ t, mg "NOTHING_YET" = some (.int (-1) t)
/-! ## the promises -/
def spBit : Sp := fun vs H Q _ => ∃ i : Nat, vs = [iv i] ∧ i ≤ 1000 ∧ Q (iv (2 ^ i)) H
def spHas : Sp := fun vs H Q _ => ∃ d i : Nat, vs = [iv d, iv i] ∧ Q (.bl (d.testBit i)) H
def spAmong : Sp := fun vs H Q _ => ∃ a d : Nat, vs = [iv a, iv d] ∧ Q (.bl (a &&& d == a)) H
def spFollow (K : PySem.W.Frag) : Sp := fun vs H Q _ => ∃ (a : Addr) (nu : List Nat) (d j : Nat), vs = [.ref a, iv d, iv j] ∧ SqL K H a (nu.map iv) ∧ j < nu.length ∧ Q (.bl (mayFollow nu d j)) H
def spTask (K : PySem.W.Frag) : Sp := fun vs H Q _ => ∃ (a b : Addr) (th nu : List Nat), vs = [.ref a, .ref b] ∧ SqL K H a (th.map iv) ∧ SqL K H b (nu.map iv) ∧ Q (.bl (taskOk th nu)) H
def spChanges (K : PySem.W.Frag) : Sp := fun vs H Q _ => ∃ (a b : Addr) (th row : List Nat), vs = [.ref a, .ref b] ∧ SqL K H a (th.map iv) ∧ SqL K H b (row.map iv) ∧ row.length ≤ 1000 ∧ (∀ x ∈ row, x < th.length) ∧ Q (iv (chg th row)) H
/-! ## numbers -/
theorem pow_iv (i : Nat) : (1 : Int) * 2 ^ ((i : Int)).toNat = ((2 ^ i : Nat) : Int) := by
  rw [Int.one_mul, Int.toNat_natCast]
  norm_cast
theorem shr_and (d i : Nat) : Builtin.bitAnd ((d : Int) / 2 ^ ((i : Int)).toNat) 1 = ((d / 2 ^ i % 2 : Nat) : Int) := by
  have e : (d : Int) / 2 ^ ((i : Int)).toNat = ((d / 2 ^ i : Nat) : Int) := by
    rw [Int.toNat_natCast]
    norm_cast
  rw [e, PyProof.Rows.bitAnd_pp (Int.natCast_nonneg _) (by decide), Int.toNat_natCast, show (1 : Int).toNat = 1 from rfl, Nat.and_one_is_mod]
theorem has_eq (d i : Nat) : decide (V.int (Builtin.bitAnd ((d : Int) / 2 ^ ((i : Int)).toNat) 1) = V.int 1) = d.testBit i := by
  rw [shr_and, Nat.testBit_eq_decide_div_mod_eq]
  refine decide_eq_decide.mpr ⟨fun h => ?_, fun h => ?_⟩
  · have := V.int.inj h
    omega
  · rw [h]; rfl
theorem among_eq (a d : Nat) : decide (V.int (Builtin.bitAnd (a : Int) (d : Int)) = V.int (a : Int)) = (a &&& d == a) := by
  rw [PyProof.Rows.bitAnd_pp (Int.natCast_nonneg _) (Int.natCast_nonneg _), Int.toNat_natCast, Int.toNat_natCast, Bool.beq_eq_decide_eq]
  refine decide_eq_decide.mpr ⟨fun h => ?_, fun h => ?_⟩
  · have := V.int.inj h
    omega
  · rw [h]
section
variable {P : Program} {w : World} {K : PySem.W.Frag} {mg : Str → Option Value} {base : Heap} {f : Addr} {fd : FuncData}
theorem ok_bit (F : Fun K "bit" "bit" s_bit f fd) : FnOk P w K mg base CX0 1 f fd ["i"] spBit := by
  refine F.ok sc_bit (fun vs H Q E h => ?_) (fun cdv A outer s H vs Q E hr h => ?_)
  · obtain ⟨i, rfl, _⟩ := h
    rfl
  · obtain ⟨i, rfl, hi, q⟩ := h
    refine ⟨_, (pss_one (ps_ret (pe_op op_shl pe_int (pv 0)))), ?_⟩
    refine ⟨_, rfl, _, _, rfl, rfl, ⟨by omega, by omega, by decide⟩, ?_⟩
    show Q (.int (1 * 2 ^ ((i : Int)).toNat)) H
    rw [pow_iv]
    exact q
theorem ok_has (F : Fun K "has" "has" s_has f fd) : FnOk P w K mg base CX0 1 f fd ["number", "i"] spHas := by
  refine F.ok sc_has (fun vs H Q E h => ?_) (fun cdv A outer s H vs Q E hr h => ?_)
  · obtain ⟨d, i, rfl, _⟩ := h
    rfl
  · obtain ⟨d, i, rfl, q⟩ := h
    refine ⟨_, (pss_one (ps_ret (pe_cmpR op_eq (pe_op op_and (pe_op op_shr (pv 0) (pv 1)) pe_int) pe_int (nomark _)))), ?_⟩
    refine ⟨_, rfl, _, rfl, _, _, rfl, rfl, by omega, _, _, rfl, rfl, rfl, ?_⟩
    rw [has_eq]
    exact q
theorem ok_all_among (F : Fun K "all_among" "all_among" s_all_among f fd) : FnOk P w K mg base CX0 1 f fd ["number", "done"] spAmong := by
  refine F.ok sc_all_among (fun vs H Q E h => ?_) (fun cdv A outer s H vs Q E hr h => ?_)
  · obtain ⟨a, d, rfl, _⟩ := h
    rfl
  · obtain ⟨a, d, rfl, q⟩ := h
    refine ⟨_, (pss_one (ps_ret (pe_cmpR op_eq (pe_op op_and (pv 0) (pv 1)) (pv 0) (nomark _)))), ?_⟩
    refine ⟨_, rfl, _, rfl, _, _, rfl, rfl, _, rfl, rfl, ?_⟩
    rw [among_eq]
    exact q
theorem ok_may_follow (F : Fun K "may_follow" "may_follow" s_may_follow f fd) (C_has : CallOk P w K mg base 1 "has" ["number", "i"] spHas) (C_all_among : CallOk P w K mg base 1 "all_among" ["number", "done"] spAmong) : FnOk P w K mg base CX0 2 f fd ["numbers", "done", "j"] (spFollow K) := by
  refine F.ok sc_may_follow (fun vs H Q E h => ?_) (fun cdv A outer s H vs Q E hr h => ?_)
  · obtain ⟨a, nu, d, j, rfl, _⟩ := h
    rfl
  · obtain ⟨a, nu, d, j, rfl, hA, hj, q⟩ := h
    refine ⟨_, (pss_one (ps_ret (pe_and (pe_not (pe_cf C_has (hr.mono (by decide)) (pa_cons (pv 1) (pa_cons (pv 2) pa_nil)))) (pe_one (pe_cf C_all_among (hr.mono (by decide)) (pa_cons (pe_ix ix_list (pv 0) (pv 2) (fun _ _ => rfl)) (pa_cons (pv 1) pa_nil))))))), ?_⟩
    obtain ⟨x, hx⟩ := get_of_lt hj
    refine ⟨_, rfl, _, rfl, d, j, rfl, _, rfl, _, rfl, ite2 (fun c => ?_) (fun c => ?_)⟩
    · refine ⟨_, rfl, _, rfl, a, _, _, _, rfl, rfl, hA, iv_at hx, _, rfl, x, d, rfl, ?_⟩
      have e : mayFollow nu d j = (x &&& d == x) := by
        unfold mayFollow
        rw [c, Bool.true_and, getD_of hx]
      rw [← e]
      exact q
    · have e : mayFollow nu d j = false := by
        unfold mayFollow
        rw [Bool.eq_false_iff.mpr c, Bool.false_and]
      rw [e] at q
      exact q
theorem ok_task_allowed (F : Fun K "task_allowed" "task_allowed" s_task_allowed f fd) (T : Txt mg) (C_bit : CallOk P w K mg base 1 "bit" ["i"] spBit) : FnOk P w K mg base CX0 2 f fd ["threads", "numbers"] (spTask K) := by
  refine F.ok sc_task_allowed (fun vs H Q E h => ?_) (fun cdv A outer s H vs Q E hr h => ?_)
  · obtain ⟨a, b, th, nu, rfl, _⟩ := h
    rfl
  · obtain ⟨a, b, th, nu, rfl, hA, hB, q⟩ := h
    refine ⟨_, (pss_cons (ps_if (PW.pt (pw_or (pt_cmpR op_eq (pe_callB call_len_seq (by rfl) T.len PySem.boot_len (pa_cons (pv 0) pa_nil)) pe_int (nomark _)) (pw_or1 (pt_cmpR op_gt (pe_callB call_len_seq (by rfl) T.len PySem.boot_len (pa_cons (pv 0) pa_nil)) (pe_gi T.MOST_SHAPES) (nomark _))))) (pss_one (ps_ret pe_bl)) pss_nil)
      (pss_cons (ps_if (pt_cmpR op_ne (pe_callB call_len_seq (by rfl) T.len PySem.boot_len (pa_cons (pv 1) pa_nil)) (pe_callB call_len_seq (by rfl) T.len PySem.boot_len (pa_cons (pv 0) pa_nil)) (nomark _)) (pss_one (ps_ret pe_bl)) pss_nil)
      (pss_cons (ps_for PassesOwn.never rfl (pi_range1 (by rfl) T.range (pa_cons (pe_callB call_len_seq (by rfl) T.len PySem.boot_len (pa_cons (pv 1) pa_nil)) pa_nil)) (pg_name (i := 2) sc_task_allowed.nd rfl (Or.inl rfl))
        (pss_one (ps_if (pt_cmpR op_ge (pe_ix ix_list (pv 1) (pv 2) (fun _ _ => rfl)) (pe_cf C_bit (hr.mono (by decide)) (pa_cons (pv 2) pa_nil)) (nomark _)) (pss_one (ps_ret pe_bl)) pss_nil)))
      (pss_one (ps_ret pe_bl))))), ?_⟩
    refine ⟨_, rfl, a, _, rfl, .inl hA, rfl, _, rfl, ite2 (fun c => iteT ?_) (fun c => ?_)⟩
    · have c1 : th.length = 0 := by
        have := vint_iff.mp c
        rw [List.length_map] at this
        omega
      have e : taskOk th nu = false := if_pos (.inl c1)
      rw [e] at q
      exact q
    have c1 : th.length ≠ 0 := fun z => c (vint_iff.mpr (by rw [List.length_map]; omega))
    refine ⟨_, rfl, a, _, rfl, .inl hA, _, _, rfl, rfl, _, rfl, ite2 (fun c => ?_) (fun c => ?_)⟩
    · have c2 : 12 < th.length := by
        have := of_decide_eq_true c
        rw [List.length_map] at this
        omega
      have e : taskOk th nu = false := if_pos (.inr c2)
      rw [e] at q
      exact q
    have c2 : ¬ 12 < th.length := fun z => c (decide_eq_true (by rw [List.length_map]; omega))
    refine ⟨_, rfl, b, _, rfl, .inl hB, _, rfl, a, _, rfl, .inl hA, rfl, _, rfl, ite2 (fun c => ?_) (fun c => ?_)⟩
    · have c3 : nu.length ≠ th.length := by
        have := vint_ne.mp c
        rw [List.length_map, List.length_map] at this
        omega
      have e : taskOk th nu = false := by
        unfold taskOk
        rw [if_neg (by omega), if_pos c3]
      rw [e] at q
      exact q
    have c3 : nu.length = th.length := Classical.byContradiction fun z => c (vint_ne.mpr (by rw [List.length_map, List.length_map]; omega))
    have e : taskOk th nu = boundsFrom nu 0 := by
      unfold taskOk
      rw [if_neg (by omega), if_neg (by omega)]
    rw [e] at q
    refine ⟨_, rfl, b, _, rfl, .inl hB, _, rfl, by omega, by rw [List.length_map]; omega, for_rng0 (n := nu.length) (by rw [List.length_map])
      (fun i σ H' => ∃ v, σ = [some (.ref a), some (.ref b), v] ∧ H' = H ∧ boundsFrom nu 0 = boundsFrom nu i) ⟨none, rfl, rfl, rfl⟩ ?_ ?_⟩
    · rintro i σ H' hi ⟨v, rfl, rfl, eb⟩
      obtain ⟨x, hx⟩ := get_of_lt hi
      refine ⟨_, rfl, _, rfl, b, _, _, _, rfl, rfl, hB, iv_at hx, _, rfl, i, rfl, by omega, _, _, rfl, rfl, _, rfl, ite2 (fun c => ?_) (fun c => ?_)⟩
      · have c4 : 2 ^ i ≤ x := by
          have := of_decide_eq_true c
          exact Int.ofNat_le.mp this
        rw [eb, boundsFrom_at hx, decide_eq_false (by omega), Bool.false_and] at q
        exact q
      · have c4 : x < 2 ^ i := by
          have c5 : ¬ ((2 ^ i : Nat) : Int) ≤ (x : Int) := fun z => c (decide_eq_true z)
          omega
        refine ⟨some (iv i), rfl, rfl, ?_⟩
        rw [eb, boundsFrom_at hx, decide_eq_true c4, Bool.true_and]
    · rintro σ H' ⟨v, rfl, rfl, eb⟩
      rw [eb, boundsFrom_end (Nat.le_refl _)] at q
      exact q
theorem chg_at {th row : List Nat} {i a b : Nat} (ha : row[i]? = some a) (hb : row[i + 1]? = some b) : chg th (row.drop i) = (if th.getD a 0 ≠ th.getD b 0 then 1 else 0) + chg th (row.drop (i + 1)) := by
  rw [drop_at ha, drop_at hb]
  rfl
theorem chg_last {th row : List Nat} {i : Nat} (h : row.length ≤ i + 1) : chg th (row.drop i) = 0 := by
  cases e : row.drop i with
  | nil => rfl
  | cons x r =>
    have := congrArg List.length e
    rw [List.length_drop, List.length_cons] at this
    have h2 : r = [] := List.eq_nil_of_length_eq_zero (by omega)
    rw [h2]
    rfl
theorem ok_changes_of (F : Fun K "changes_of" "changes_of" s_changes_of f fd) (T : Txt mg) : FnOk P w K mg base CX0 1 f fd ["threads", "row"] (spChanges K) := by
  refine F.ok sc_changes_of (fun vs H Q E h => ?_) (fun cdv A outer s H vs Q E hr h => ?_)
  · obtain ⟨a, b, th, row, rfl, _⟩ := h
    rfl
  · obtain ⟨a, b, th, row, rfl, hA, hB, hl, ha, q⟩ := h
    refine ⟨_, (pss_cons (ps_set (i := 2) sc_changes_of.nd rfl (Or.inl rfl) pe_int)
      (pss_cons (ps_for PassesOwn.never rfl (pi_range2 (by rfl) T.range (pa_cons pe_int (pa_cons (pe_callB call_len_seq (by rfl) T.len PySem.boot_len (pa_cons (pv 1) pa_nil)) pa_nil))) (pg_name (i := 3) sc_changes_of.nd rfl (Or.inl rfl))
        (pss_one (ps_if (pt_cmpR op_ne (pe_ix ix_list (pv 0) (pe_ix ix_list (pv 1) (pe_op op_sub (pv 3) pe_int) (fun _ _ => rfl)) (fun _ _ => rfl)) (pe_ix ix_list (pv 0) (pe_ix ix_list (pv 1) (pv 3) (fun _ _ => rfl)) (fun _ _ => rfl)) (nomark _)) (pss_one (ps_aug (i := 2) sc_changes_of.nd rfl (Or.inl rfl) pe_int ip_add)) pss_nil)))
      (pss_one (ps_ret (pv 2))))), ?_⟩
    refine ⟨_, rfl, b, _, rfl, .inl hB, _, _, rfl, by rw [List.length_map]; omega, for_rng1 (n := row.length) rfl (by rw [List.length_map])
      (fun i σ H' => ∃ (m : Nat) (v : Option V), σ = [some (.ref a), some (.ref b), some (iv m), v] ∧ H' = H ∧ chg th row = m + chg th (row.drop i)) ⟨0, none, rfl, rfl, (Nat.zero_add _).symm⟩ ?_ ?_⟩
    · rintro i σ H' hi ⟨m, v, rfl, rfl, em⟩
      obtain ⟨x, hx⟩ := get_of_lt (show i < row.length by omega)
      obtain ⟨y, hy⟩ := get_of_lt hi
      obtain ⟨tx, htx⟩ := get_of_lt (ha x (List.mem_of_getElem? hx))
      obtain ⟨ty, hty⟩ := get_of_lt (ha y (List.mem_of_getElem? hy))
      rw [chg_at hx hy, getD_of htx, getD_of hty] at em
      have hx2 : atI (row.map iv) (((i + 1 : Nat) : Int) - 1) = some (iv x) := at_of (by omega) (iv_get hx)
      refine ⟨_, rfl, _, rfl, _, rfl, _, _, rfl, rfl, b, _, _, _, rfl, rfl, hB, hx2, a, _, _, _, rfl, rfl, hA, iv_at htx,
        _, rfl, _, rfl, _, rfl, b, _, _, _, rfl, rfl, hB, iv_at hy, a, _, _, _, rfl, rfl, hA, iv_at hty, rfl, _, rfl, ite2 (fun c => ?_) (fun c => ?_)⟩
      · have c1 : tx ≠ ty := by
          have := vint_ne.mp c
          omega
        rw [if_pos c1] at em
        exact ⟨_, rfl, _, _, rfl, rfl, m + 1, some (iv (i + 1)), rfl, rfl, by omega⟩
      · have c1 : ¬ tx ≠ ty := fun z => c (vint_ne.mpr (by omega))
        rw [if_neg c1] at em
        exact ⟨m, some (iv (i + 1)), rfl, rfl, by omega⟩
    · rintro σ H' ⟨m, v, rfl, rfl, em⟩
      rw [chg_last (by omega), Nat.add_zero] at em
      rw [em] at q
      exact ⟨_, rfl, q⟩
end
/-! ## the told order's promises -/
/-- a list of rows of numbers -/
def TabAt (K : PySem.W.Frag) (H : Hp) (t : Addr) (rows : List (List Nat)) : Prop := ∃ ts, SqL K H t ts ∧ All2 (fun v l => ∃ a, v = .ref a ∧ SqL K H a (l.map iv)) ts rows
theorem TabAt.mono {K : PySem.W.Frag} {H H' : Hp} {t : Addr} {rows : List (List Nat)} (s : Same H H') (h : TabAt K H t rows) : TabAt K H' t rows := by
  obtain ⟨ts, q, al⟩ := h
  exact ⟨ts, s.seq q, al.imp fun v l ⟨a, e, r⟩ => ⟨a, e, s.seq r⟩⟩
theorem TabAt.row {K : PySem.W.Frag} {H : Hp} {t : Addr} {rows : List (List Nat)} {m : Nat} {l : List Nat} (h : TabAt K H t rows) (hl : rows[m]? = some l) : ∃ ts a, SqL K H t ts ∧ ts[m]? = some (.ref a) ∧ SqL K H a (l.map iv) := by
  obtain ⟨ts, q, al⟩ := h
  obtain ⟨v, hv, a, rfl, r⟩ := al.get' hl
  exact ⟨ts, a, q, hv, r⟩
/-- what the table must have: a row for each done number that a ready shape leads to -/
def RowsFit (kd nu : List Nat) (rows : List (List Nat)) (d : Nat) : Prop := ∀ j, j ∈ readyM nu d → ∃ l, rows[d + 2 ^ j]? = some l ∧ l.length = kd.length
structure Kd (kd nu : List Nat) : Prop where
  eq : kd.length = nu.length
  pos : 0 < nu.length
  le : nu.length ≤ 12
  lt : ∀ (j x : Nat), kd[j]? = some x → x < kd.length
def spFirst (K : PySem.W.Frag) : Sp := fun vs H Q _ => ∃ (a : Addr) (th : List Nat) (j x : Nat), vs = [.ref a, iv j] ∧ SqL K H a (th.map iv) ∧ th[j]? = some x ∧ th.length ≤ 1000 ∧ Q (iv (firstIx x th)) H
def spKinds (K : PySem.W.Frag) : Sp := fun vs H Q _ => ∃ (a : Addr) (th : List Nat), vs = [.ref a] ∧ SqL K H a (th.map iv) ∧ th.length ≤ 1000 ∧
  ∀ (H' : Hp) (r : Addr), Same H H' → H r = none → H' r = some (.lst ((kindsM th).map iv)) → Q (.ref r) H'
def spReady (K : PySem.W.Frag) : Sp := fun vs H Q _ => ∃ (a : Addr) (nu : List Nat) (d : Nat), vs = [.ref a, iv d] ∧ SqL K H a (nu.map iv) ∧ nu.length ≤ 1000 ∧
  ∀ (H' : Hp) (r : Addr), Same H H' → H r = none → H' r = some (.lst ((readyM nu d).map iv)) → Q (.ref r) H'
def spRowC (K : PySem.W.Frag) : Sp := fun vs H Q _ => ∃ (a b t : Addr) (kd nu : List Nat) (rows : List (List Nat)) (d : Nat), vs = [.ref a, .ref b, .ref t, iv d] ∧ SqL K H a (kd.map iv) ∧ SqL K H b (nu.map iv) ∧ TabAt K H t rows ∧ Kd kd nu ∧ RowsFit kd nu rows d ∧
  ∀ (H' : Hp) (r : Addr), Same H H' → H r = none → H' r = some (.lst ((rowM kd nu rows d).map iv)) → Q (.ref r) H'
def spTable (K : PySem.W.Frag) : Sp := fun vs H Q _ => ∃ (a b : Addr) (kd nu : List Nat), vs = [.ref a, .ref b] ∧ SqL K H a (kd.map iv) ∧ SqL K H b (nu.map iv) ∧ Kd kd nu ∧
  ∀ (H' : Hp) (r : Addr), Same H H' → H r = none → TabAt K H' r (tabM kd nu (2 ^ kd.length - 1)) → Q (.ref r) H'
def spStep : Sp := fun vs H Q _ => ∃ (z : Int) (c : Nat), vs = [.int z, iv c] ∧ Q (iv (stepM z c)) H
def spBest (K : PySem.W.Frag) : Sp := fun vs H Q _ => ∃ (a b t : Addr) (kd nu : List Nat) (rows : List (List Nat)) (d : Nat) (z : Int) (x : Nat), vs = [.ref a, .ref b, .ref t, iv d, .int z] ∧ SqL K H a (kd.map iv) ∧ SqL K H b (nu.map iv) ∧ TabAt K H t rows ∧ Kd kd nu ∧ RowsFit kd nu rows d ∧
  pick (costM kd rows d z) (readyM nu d) = some x ∧ ∀ (H' : Hp), Same H H' → Q (iv x) H'
def spTold (K : PySem.W.Frag) : Sp := fun vs H Q _ => ∃ (a b : Addr) (th nu : List Nat), vs = [.ref a, .ref b] ∧ SqL K H a (th.map iv) ∧ SqL K H b (nu.map iv) ∧ TaskP th nu ∧
  ∀ (H' : Hp) (r : Addr), Same H H' → H r = none → H' r = some (.lst ((Eb.leastOrder ⟨th, nu⟩).map iv)) → Q (.ref r) H'
def spOrder (K : PySem.W.Frag) : Sp := fun vs H Q _ => ∃ (a b : Addr) (th nu : List Nat), vs = [.ref a, .ref b] ∧ SqL K H a (th.map iv) ∧ SqL K H b (nu.map iv) ∧
  ∀ (H' : Hp) (p : Addr), H' p = some (.lst ((orderM th nu).map V.int)) → Q (.ref p) H'
theorem ready_le (nu : List Nat) (d : Nat) : (readyM nu d).length ≤ nu.length := by
  have := List.length_filter_le (mayFollow nu d) (List.range nu.length)
  rw [List.length_range] at this
  exact this
section
variable {P : Program} {w : World} {K : PySem.W.Frag} {mg : Str → Option Value} {base : Heap} {f : Addr} {fd : FuncData}
theorem ok_first_alike (F : Fun K "first_alike" "first_alike" s_first_alike f fd) (T : Txt mg) : FnOk P w K mg base CX0 1 f fd ["threads", "j"] (spFirst K) := by
  refine F.ok sc_first_alike (fun vs H Q E h => ?_) (fun cdv A outer s H vs Q E hr h => ?_)
  · obtain ⟨a, th, j, x, rfl, _⟩ := h
    rfl
  · obtain ⟨a, th, j, x, rfl, hA, hj, hl, q⟩ := h
    have hjl : j < th.length := (List.getElem?_eq_some_iff.mp hj).1
    refine ⟨_, (pss_cons (ps_for PassesOwn.never rfl (pi_range1 (by rfl) T.range (pa_cons (pv 1) pa_nil)) (pg_name (i := 2) sc_first_alike.nd rfl (Or.inl rfl))
        (pss_one (ps_if (pt_cmpR op_eq (pe_ix ix_list (pv 0) (pv 2) (fun _ _ => rfl)) (pe_ix ix_list (pv 0) (pv 1) (fun _ _ => rfl)) (nomark _)) (pss_one (ps_ret (pv 2))) pss_nil)))
      (pss_one (ps_ret (pv 1)))), ?_⟩
    refine ⟨_, rfl, _, rfl, by omega, by omega, for_rng0 (n := j) rfl
      (fun i σ H' => ∃ (v : Option V), σ = [some (.ref a), some (iv j), v] ∧ H' = H ∧ ∀ k y, k < i → th[k]? = some y → y ≠ x) ⟨none, rfl, rfl, fun k y hk => absurd hk (Nat.not_lt_zero k)⟩ ?_ ?_⟩
    · rintro i σ H' hi ⟨v, rfl, rfl, no⟩
      obtain ⟨y, hy⟩ := get_of_lt (show i < th.length by omega)
      refine ⟨_, rfl, _, rfl, a, _, _, _, rfl, rfl, hA, iv_at hy, _, rfl, _, rfl, a, _, _, _, rfl, rfl, hA, iv_at hj, rfl, _, rfl, ite2 (fun c => ?_) (fun c => ?_)⟩
      · have e : y = x := by
          have := vint_iff.mp c
          omega
        subst e
        rw [firstIx_of hy no] at q
        exact ⟨_, rfl, q⟩
      · refine ⟨some (iv i), rfl, rfl, fun k z hk hz => ?_⟩
        by_cases e : k = i
        · subst e
          rw [hy] at hz
          rw [← Option.some.inj hz]
          intro z2
          exact c (vint_iff.mpr (by rw [z2]))
        · exact no k z (by omega) hz
    · rintro σ H' ⟨v, rfl, rfl, no⟩
      rw [firstIx_of hj no] at q
      exact ⟨_, rfl, q⟩
theorem ok_kinds_of (F : Fun K "kinds_of" "kinds_of" s_kinds_of f fd) (T : Txt mg) (C_first_alike : CallOk P w K mg base 1 "first_alike" ["threads", "j"] (spFirst K)) : FnOk P w K mg base CX0 2 f fd ["threads"] (spKinds K) := by
  refine F.ok sc_kinds_of (fun vs H Q E h => ?_) (fun cdv A outer s H vs Q E hr h => ?_)
  · obtain ⟨a, th, rfl, _⟩ := h
    rfl
  · obtain ⟨a, th, rfl, hA, hl, q⟩ := h
    refine ⟨_, (pss_one (ps_ret (pe_lc (own := [("j", 1)]) (g := gName 1) (tt := tYes) rfl sc_kinds_of.nd (pi_range1 (by rfl) T.range (pa_cons (pe_callB call_len_seq (by rfl) T.len PySem.boot_len (pa_cons (pv 0) pa_nil)) pa_nil)) (blkOk_by (N := ["threads", "j"]) (sc := defScope s_kinds_of) (by decide +kernel)) (fun _ _ _ _ _ => pg_name (i := 1) sc_kinds_of.nd rfl (Or.inl rfl)) (fun _ _ _ _ _ => pts_nil) (fun _ _ _ _ _ => (pe_cf C_first_alike (hr.mono (by decide)) (pa_cons (pv 0) (pa_cons (pv 1) pa_nil))))))), ?_⟩
    refine ⟨_, rfl, a, _, rfl, .inl hA, _, rfl, by omega, by rw [List.length_map]; omega, fun D hD => lc_rng0 (n := th.length) (by rw [List.length_map])
      (fun i H' => Same H H' ∧ H' D = some (.lst (((kindsM th).take i).map iv))) ⟨Same.fresh hD, upd_same⟩ ?_ ?_⟩
    · rintro i H' hi ⟨sm, eD⟩
      obtain ⟨x, hx⟩ := get_of_lt hi
      refine ⟨rfl, _, rfl, _, rfl, a, th, i, x, rfl, sm.seq hA, hx, hl, _, eD, ?_, Same.over sm hD, ?_⟩
      · rw [List.length_map, List.length_take]
        exact small_len (by omega)
      · rw [upd_same, take_more (kinds_get hx), List.map_append]
        rfl
    · rintro H' ⟨sm, eD⟩
      rw [← kinds_len, List.take_length] at eD
      exact q H' D sm hD eD
theorem ok_ready_after (F : Fun K "ready_after" "ready_after" s_ready_after f fd) (T : Txt mg) (C_may_follow : CallOk P w K mg base 2 "may_follow" ["numbers", "done", "j"] (spFollow K)) : FnOk P w K mg base CX0 3 f fd ["numbers", "done"] (spReady K) := by
  refine F.ok sc_ready_after (fun vs H Q E h => ?_) (fun cdv A outer s H vs Q E hr h => ?_)
  · obtain ⟨a, nu, d, rfl, _⟩ := h
    rfl
  · obtain ⟨a, nu, d, rfl, hA, hl, q⟩ := h
    refine ⟨_, (pss_one (ps_ret (pe_lc (own := [("j", 2)]) (g := gName 2) rfl sc_ready_after.nd (pi_range1 (by rfl) T.range (pa_cons (pe_callB call_len_seq (by rfl) T.len PySem.boot_len (pa_cons (pv 0) pa_nil)) pa_nil)) (blkOk_by (N := ["numbers", "done", "j"]) (sc := defScope s_ready_after) (by decide +kernel)) (fun _ _ _ _ _ => pg_name (i := 2) sc_ready_after.nd rfl (Or.inl rfl)) (fun _ _ _ _ _ => pts_one (pt_val (pe_cf C_may_follow (hr.mono (by decide)) (pa_cons (pv 0) (pa_cons (pv 1) (pa_cons (pv 2) pa_nil)))))) (fun _ _ _ _ _ => (pv 2))))), ?_⟩
    refine ⟨_, rfl, a, _, rfl, .inl hA, _, rfl, by omega, by rw [List.length_map]; omega, fun D hD => lc_rng0 (n := nu.length) (by rw [List.length_map])
      (fun i H' => Same H H' ∧ H' D = some (.lst (((List.range i).filter (mayFollow nu d)).map iv))) ⟨Same.fresh hD, upd_same⟩ ?_ ?_⟩
    · rintro i H' hi ⟨sm, eD⟩
      refine ⟨rfl, _, rfl, _, rfl, _, rfl, a, nu, d, i, rfl, sm.seq hA, hi, _, rfl, ite2 (fun c => ?_) (fun c => ?_)⟩
      · refine ⟨_, rfl, _, eD, ?_, Same.over sm hD, ?_⟩
        · rw [List.length_map]
          have := List.length_filter_le (mayFollow nu d) (List.range i)
          rw [List.length_range] at this
          exact small_len (by omega)
        · rw [upd_same, List.range_succ, List.filter_append, List.map_append, List.filter_cons_of_pos c]
          rfl
      · refine ⟨sm, ?_⟩
        rw [List.range_succ, List.filter_append, List.filter_cons_of_neg c, List.filter_nil, List.append_nil]
        exact eD
    · rintro H' ⟨sm, eD⟩
      exact q H' D sm hD eD
theorem ok_step_into (F : Fun K "step_into" "step_into" s_step_into f fd) (T : Txt mg) : FnOk P w K mg base CX0 1 f fd ["last", "kind"] spStep := by
  refine F.ok sc_step_into (fun vs H Q E h => ?_) (fun cdv A outer s H vs Q E hr h => ?_)
  · obtain ⟨z, c, rfl, _⟩ := h
    rfl
  · obtain ⟨z, c, rfl, q⟩ := h
    refine ⟨_, (pss_cons (ps_if (PW.pt (pw_or (pt_cmpR op_eq (pv 0) (pe_gi T.NOTHING_YET) (nomark _)) (pw_or1 (pt_cmpR op_eq (pv 0) (pv 1) (nomark _))))) (pss_one (ps_ret pe_int)) pss_nil)
      (pss_one (ps_ret pe_int))), ?_⟩
    refine ⟨_, rfl, rfl, _, rfl, ite2 (fun c1 => iteT ?_) (fun c1 => ⟨_, rfl, _, rfl, rfl, _, rfl, ite2 (fun c2 => ?_) (fun c2 => ?_)⟩)⟩
    · have e : stepM z c = 0 := if_pos (vint_iff.mp c1)
      rw [e] at q
      exact q
    · have e : stepM z c = 0 := by
        unfold stepM
        rw [if_neg (fun h => c1 (vint_iff.mpr h)), if_pos (vint_iff.mp c2)]
      rw [e] at q
      exact q
    · have e : stepM z c = 1 := by
        unfold stepM
        rw [if_neg (fun h => c1 (vint_iff.mpr h)), if_neg (fun h => c2 (vint_iff.mpr h))]
      rw [e] at q
      exact q
end
end TR
namespace TR
open PySem PySem.Spec PyProof.Rows L2
theorem castL_iv (l : List Nat) : (castL l).map V.int = l.map iv := by
  unfold castL
  rw [List.map_map]
  rfl
theorem rep_one (v : V) : ∀ n : Nat, (List.replicate n [v]).flatten = List.replicate n v
  | 0 => rfl
  | n + 1 => by
    rw [List.replicate_succ, List.replicate_succ, List.flatten_cons, rep_one v n]
    rfl
theorem rep_iv (n x : Nat) : List.replicate n (iv x) = (List.replicate n x).map iv := by rw [List.map_replicate]
theorem min_iv (a b : Nat) : (if (b : Int) < (a : Int) then (b : Int) else (a : Int)) = ((min a b : Nat) : Int) := by
  by_cases c : (b : Int) < (a : Int)
  · rw [if_pos c]; omega
  · rw [if_neg c]; omega
theorem min_cast {le : List Nat} {m : Int} (ne : le ≠ []) (hm : m ∈ castL le) (hle : ∀ y, y ∈ castL le → m ≤ y) : m = (minL le : Nat) := by
  unfold castL at hm hle
  obtain ⟨x, hx, e⟩ := List.mem_map.mp hm
  have h1 := minL_le hx
  have h2 := hle _ (List.mem_map.mpr ⟨_, minL_mem ne, rfl⟩)
  omega
theorem iv_set (l : List Nat) (k x : Nat) : (l.map iv).set k (iv x) = (l.set k x).map iv := by rw [List.map_set]
section
variable {P : Program} {w : World} {K : PySem.W.Frag} {mg : Str → Option Value} {base : Heap} {f : Addr} {fd : FuncData}
theorem ok_coming_row (F : Fun K "coming_row" "coming_row" s_coming_row f fd) (T : Txt mg) (C_bit : CallOk P w K mg base 1 "bit" ["i"] spBit) (C_ready_after : CallOk P w K mg base 3 "ready_after" ["numbers", "done"] (spReady K)) : FnOk P w K mg base CX0 4 f fd ["kinds", "numbers", "table", "done"] (spRowC K) := by
  refine F.ok sc_coming_row (fun vs H Q E h => ?_) (fun cdv A outer s H vs Q E hr h => ?_)
  · obtain ⟨a, b, t, kd, nu, rows, d, rfl, _⟩ := h
    rfl
  · obtain ⟨a, b, t, kd, nu, rows, d, rfl, hA, hB, hT, hK, hF, q⟩ := h
    have kl := hK.eq
    have k12 := hK.le
    have k0 := hK.pos
    refine ⟨_, (pss_cons (ps_set (i := 4) sc_coming_row.nd rfl (Or.inl rfl) (pe_op op_rep (pe_lst (pa_cons (pe_callB call_len_seq (by rfl) T.len PySem.boot_len (pa_cons (pv 0) pa_nil)) pa_nil)) (pe_callB call_len_seq (by rfl) T.len PySem.boot_len (pa_cons (pv 0) pa_nil))))
      (pss_cons (ps_for PassesOwn.never rfl (pi_list (pe_cf C_ready_after (hr.mono (by decide)) (pa_cons (pv 1) (pa_cons (pv 3) pa_nil)))) (pg_name (i := 5) sc_coming_row.nd rfl (Or.inl rfl))
        (pss_cons (ps_set (i := 7) sc_coming_row.nd rfl (Or.inl rfl) (pe_ix ix_list (pv 0) (pv 5) (fun _ _ => rfl)))
        (pss_one (ps_asg (pe_callB (call_min2 rfl) (by rfl) T.min (by decide +kernel) (pa_cons (pe_ix ix_list (pv 4) (pv 7) (fun _ _ => rfl)) (pa_cons (pe_ix ix_list (pe_ix ix_list (pv 2) (pe_op op_add (pv 3) (pe_cf C_bit (hr.mono (by decide)) (pa_cons (pv 5) pa_nil))) (fun _ _ => rfl)) (pv 7) (fun _ _ => rfl)) pa_nil))) (pg_sub (pv 4) (pv 7) set_list)))))
      (pss_cons (ps_set (i := 6) sc_coming_row.nd rfl (Or.inr rfl) (pe_op op_add (pe_callB (cr_min rfl) (by rfl) T.min (by decide +kernel) (pa_cons (pv 4) pa_nil)) pe_int))
      (pss_one (ps_ret (pe_lc (own := [("own", 8)]) (g := gName 8) (tt := tYes) rfl sc_coming_row.nd (pi_list (pv 4)) (blkOk_by (N := ["kinds", "numbers", "table", "done", "least", "j", "with_change", "kind", "own"]) (sc := defScope s_coming_row) (by decide +kernel)) (fun _ _ _ _ _ => pg_name (i := 8) sc_coming_row.nd rfl (Or.inl rfl)) (fun _ _ _ _ _ => pts_nil) (fun _ _ _ _ _ => (pe_callB (call_min2 rfl) (by rfl) T.min (by decide +kernel) (pa_cons (pv 8) (pa_cons (pv 6) pa_nil)))))))))), ?_⟩
    -- least = [len(kinds)] * len(kinds)
    refine ⟨_, rfl, a, _, rfl, .inl hA, by show 1 ≤ sizeLine; decide, fun p hp => ?_⟩
    have s1 : Same H (upd H p (.lst [.int ((kd.map iv).length : Int)])) := Same.fresh hp
    refine ⟨_, rfl, a, _, rfl, .inl (s1.seq hA), p, _, _, rfl, rfl, upd_same, by omega, by rw [List.length_map]; omega, ?_, fun L hL => ?_⟩
    · rw [List.length_map, Int.toNat_natCast]
      exact Nat.le_trans (show 1 * kd.length ≤ 100 by omega) (by decide)
    have s2 := s1.trans (Same.fresh (o := .lst (List.replicate ((kd.map iv).length : Int).toNat [.int ((kd.map iv).length : Int)]).flatten) hL)
    have hL0 : H L = none := s1.free hL
    have e0 : (List.replicate ((kd.map iv).length : Int).toNat [V.int ((kd.map iv).length : Int)]).flatten = (List.replicate kd.length kd.length).map iv := by
      rw [Int.toNat_natCast, List.length_map, rep_one, ← rep_iv]
    have eL0 : (upd (upd H p (.lst [.int ((kd.map iv).length : Int)])) L (.lst (List.replicate ((kd.map iv).length : Int).toNat [.int ((kd.map iv).length : Int)]).flatten)) L = some (.lst ((List.replicate kd.length kd.length).map iv)) := by
      rw [upd_same, e0]
    -- for j in ready_after(numbers, done)
    refine ⟨_, rfl, _, rfl, b, nu, d, rfl, s2.seq hB, by omega, fun H2 r sm nr er => ⟨r, rfl, ⟨_, SqL.of er⟩, ?_⟩⟩
    have s3 : Same H H2 := s2.trans sm
    have eL : H2 L = some (.lst ((List.replicate kd.length kd.length).map iv)) := sm _ _ eL0
    have nLr : L ≠ r := ne_of_none eL0 nr
    refine for_list (K := K) (a := r) (xs := (readyM nu d).map iv)
      (fun i σ H' => ∃ (v5 v7 : Option V), σ = [some (.ref a), some (.ref b), some (.ref t), some (iv d), some (.ref L), v5, none, v7, none] ∧ Same H H' ∧ H' r = some (.lst ((readyM nu d).map iv)) ∧
        H' L = some (.lst ((leastM kd rows d ((readyM nu d).take i) (List.replicate kd.length kd.length)).map iv)))
      ⟨none, none, rfl, s3, er, eL⟩ (fun i σ H' _ ⟨_, _, _, _, e, _⟩ => SqL.of e) ?_ ?_
    · rintro i y σ H' hy ⟨v5, v7, rfl, sm', er', eL'⟩
      obtain ⟨j, hj, rfl⟩ := iv_of hy
      have hjm := List.mem_of_getElem? hj
      have hj2 := ready_mem hjm
      obtain ⟨kj, hkj⟩ := get_of_lt (l := kd) (show j < kd.length by omega)
      have hkl := hK.lt _ _ hkj
      obtain ⟨l, hl, hll⟩ := hF j hjm
      obtain ⟨ts, ra, hts, hta, hra⟩ := (hT.mono sm').row hl
      have lel := leastM_len kd rows d ((readyM nu d).take i) (List.replicate kd.length kd.length)
      rw [List.length_replicate] at lel
      have hle := get_getD (l := leastM kd rows d ((readyM nu d).take i) (List.replicate kd.length kd.length)) (i := kj) (d := 0) (by omega)
      have hlk := get_getD (l := l) (i := kj) (d := 0) (by omega)
      have add : ((d : Int) + ((2 ^ j : Nat) : Int)) = ((d + 2 ^ j : Nat) : Int) := by omega
      have at1 : atI ts ((d : Int) + ((2 ^ j : Nat) : Int)) = some (.ref ra) := at_of add hta
      refine ⟨_, rfl, _, rfl, a, _, _, _, rfl, rfl, sm'.seq hA, iv_at hkj, ?_⟩
      refine ⟨_, rfl, _, rfl, L, _, _, _, rfl, rfl, SqL.of eL', iv_at hle, _, rfl, _, rfl, _, rfl, j, rfl, by omega, _, _, rfl, rfl, t, ts, _, _, rfl, rfl, hts, at1, _, rfl, ra, _, _, _, rfl, rfl, hra, iv_at hlk, _, _, rfl,
        _, rfl, _, rfl, L, _, _, kj, rfl, rfl, eL', ixN_nat (by rw [List.length_map]; omega), some (iv j), some (iv kj), rfl, Same.over sm' hL0, ?_, ?_⟩
      · rw [upd_ne nLr.symm]
        exact er'
      · rw [upd_same, min_iv, take_more hj]
        have e5 : leastM kd rows d ((readyM nu d).take i ++ [j]) (List.replicate kd.length kd.length) = (leastM kd rows d ((readyM nu d).take i) (List.replicate kd.length kd.length)).set kj (min ((leastM kd rows d ((readyM nu d).take i) (List.replicate kd.length kd.length)).getD kj 0) (l.getD kj 0)) := by
          unfold leastM
          rw [List.foldl_append]
          show leastStep kd rows d _ j = _
          unfold leastStep cell
          rw [getD_of hkj, getD_of hl]
        rw [e5, ← iv_set]
    · rintro σ H' ⟨v5, v7, rfl, sm', er', eL'⟩
      rw [List.length_map, List.take_length] at eL'
      have lel := leastM_len kd rows d (readyM nu d) (List.replicate kd.length kd.length)
      rw [List.length_replicate] at lel
      have eR : rowM kd nu rows d = (leastM kd rows d (readyM nu d) (List.replicate kd.length kd.length)).map fun own => min own (minL (leastM kd rows d (readyM nu d) (List.replicate kd.length kd.length)) + 1) := rfl
      generalize leastM kd rows d (readyM nu d) (List.replicate kd.length kd.length) = le at eL' lel eR
      have ne : le ≠ [] := by
        intro e
        rw [e] at lel
        have : (0 : Nat) = kd.length := lel
        omega
      -- with_change = min(least) + 1
      refine ⟨_, rfl, L, castL le, rfl, SqL.of (by rw [castL_iv]; exact eL'), by unfold castL; rw [List.length_map]; omega, fun m hm hle => ⟨_, _, rfl, rfl, ?_⟩⟩
      have em := min_cast ne hm hle
      subst em
      have ew : ((minL le : Nat) : Int) + 1 = ((minL le + 1 : Nat) : Int) := by omega
      show gName 6 (V.int (((minL le : Nat) : Int) + 1)) _ H' _
      rw [ew]
      -- the row
      refine ⟨_, rfl, L, rfl, ⟨_, SqL.of eL'⟩, fun D hD => lc_list (K := K) (a := L) (xs := le.map iv)
        (fun i H2 => Same H' H2 ∧ H2 D = some (.lst (((le.map fun own => min own (minL le + 1)).take i).map iv))) ⟨Same.fresh hD, upd_same⟩ (fun i H2 _ ⟨s5, _⟩ => SqL.of (s5 _ _ eL')) ?_ ?_⟩
      · rintro i y H2 hy ⟨s5, eD⟩
        obtain ⟨o, ho, rfl⟩ := iv_of hy
        refine ⟨rfl, _, rfl, _, rfl, _, _, rfl, _, eD, ?_, Same.over s5 hD, ?_⟩
        · rw [List.length_map, List.length_take, List.length_map]
          exact small_len (by omega)
        · have e6 : (le.map fun own => min own (minL le + 1))[i]? = some (min o (minL le + 1)) := by
            rw [List.getElem?_map, ho]; rfl
          rw [upd_same, min_iv, take_more e6, List.map_append]
          rfl
      · rintro H2 ⟨s5, eD⟩
        have e7 : (le.map iv).length = (le.map fun own => min own (minL le + 1)).length := by rw [List.length_map, List.length_map]
        rw [e7, List.take_length, ← eR] at eD
        exact q H2 D (sm'.trans s5) (sm'.free hD) eD
end
end TR
namespace TR
open PySem PySem.Spec PyProof.Rows L2
theorem rows_fit {kd nu : List Nat} (hK : Kd kd nu) {rows : List (List Nat)} {d : Nat} (hd : d < 2 ^ kd.length) (hl : rows.length = 2 ^ kd.length) (hw : ∀ (m : Nat) (l : List Nat), rows[m]? = some l → l.length = kd.length) : RowsFit kd nu rows d := fun j hj => by
  have hj2 := ready_mem hj
  have hb := bit_up hd (show j < kd.length by have := hK.eq; omega) hj2.2
  obtain ⟨l, h⟩ := get_of_lt (l := rows) (show d + 2 ^ j < rows.length by rw [hl]; exact hb.2)
  exact ⟨l, h, hw _ _ h⟩
/-- the table while it is filled: no row is the table itself -/
def RowW (K : PySem.W.Frag) (H : Hp) (D : Addr) (v : V) (l : List Nat) : Prop := ∃ a, v = .ref a ∧ a ≠ D ∧ SqL K H a (l.map iv)
theorem RowW.mono {K : PySem.W.Frag} {H H' : Hp} {D : Addr} {v : V} {l : List Nat} (s : Same H H') (h : RowW K H D v l) : RowW K H' D v l := by
  obtain ⟨a, e, n, r⟩ := h
  exact ⟨a, e, n, s.seq r⟩
theorem RowW.keep {K : PySem.W.Frag} {H : Hp} {D : Addr} {v : V} {l : List Nat} {x : HO} (h : RowW K H D v l) : RowW K (upd H D x) D v l := by
  obtain ⟨a, e, n, r⟩ := h
  exact ⟨a, e, n, SqL.keep r n⟩
theorem pow12 {n : Nat} (h : n ≤ 12) : 2 ^ n ≤ 4096 := Nat.pow_le_pow_right (n := 2) (by decide) h
section
variable {P : Program} {w : World} {K : PySem.W.Frag} {mg : Str → Option Value} {base : Heap} {f : Addr} {fd : FuncData}
theorem ok_coming_table (F : Fun K "coming_table" "coming_table" s_coming_table f fd) (T : Txt mg) (C_bit : CallOk P w K mg base 1 "bit" ["i"] spBit) (C_coming_row : CallOk P w K mg base 4 "coming_row" ["kinds", "numbers", "table", "done"] (spRowC K)) : FnOk P w K mg base CX0 5 f fd ["kinds", "numbers"] (spTable K) := by
  refine F.ok sc_coming_table (fun vs H Q E h => ?_) (fun cdv A outer s H vs Q E hr h => ?_)
  · obtain ⟨a, b, kd, nu, rfl, _⟩ := h
    rfl
  · obtain ⟨a, b, kd, nu, rfl, hA, hB, hK, q⟩ := h
    have kl := hK.eq
    have k12 := hK.le
    have k0 := hK.pos
    have p12 := pow12 (n := kd.length) (by omega)
    have p2 := two_pow_two (n := kd.length) (by omega)
    refine ⟨_, (pss_cons (ps_set (i := 2) sc_coming_table.nd rfl (Or.inr rfl) (pe_callB call_len_seq (by rfl) T.len PySem.boot_len (pa_cons (pv 0) pa_nil)))
      (pss_cons (ps_setLc (i := 3) (own := [("done", 4)]) (g := gName 4) (tt := tYes) rfl sc_coming_table.nd rfl rfl (sw_true rfl rfl rfl (by decide +kernel)) (pi_range1 (by rfl) T.range (pa_cons (pe_cf C_bit (hr.mono (by decide)) (pa_cons (pv 2) pa_nil)) pa_nil)) (blkOk_by (N := ["kinds", "numbers", "many", "table", "done"]) (sc := defScope s_coming_table) (by decide +kernel)) (fun _ _ _ _ _ => pg_name (i := 4) sc_coming_table.nd rfl (Or.inl rfl)) (fun _ _ _ _ _ => pts_nil) (fun _ _ _ _ _ => (pe_op op_rep (pe_lst (pa_cons pe_int pa_nil)) (pv 2))))
      (pss_cons (ps_for PassesOwn.never rfl (pi_range3 (by rfl) T.range (pa_cons (pe_op op_sub (pe_cf C_bit (hr.mono (by decide)) (pa_cons (pv 2) pa_nil)) pe_int) (pa_cons (pe_un un_neg pe_int) (pa_cons (pe_un un_neg pe_int) pa_nil)))) (pg_name (i := 4) sc_coming_table.nd rfl (Or.inl rfl))
        (pss_one (ps_asg (pe_cf C_coming_row (hr.mono (by decide)) (pa_cons (pv 0) (pa_cons (pv 1) (pa_cons (pv 3) (pa_cons (pv 4) pa_nil))))) (pg_sub (pv 3) (pv 4) set_list))))
      (pss_one (ps_ret (pv 3)))))), ?_⟩
    refine ⟨_, rfl, a, _, rfl, .inl hA, ?_⟩
    rw [List.length_map]
    -- table = [[0] * many for done in range(bit(many))]
    refine ⟨_, rfl, kd.length, rfl, by omega, _, rfl, by omega, by omega, fun D hD => lc_rng0 (n := 2 ^ kd.length) rfl
      (fun i H' => Same H H' ∧ ∃ ts, H' D = some (.lst ts) ∧ All2 (RowW K H' D) ts (List.replicate i (List.replicate kd.length 0))) ⟨Same.fresh hD, [], upd_same, All2.nil⟩ ?_ ?_⟩
    · rintro i H' hi ⟨sm, ts, eD, al⟩
      have tl : ts.length = i := by rw [al.1, List.length_replicate]
      refine ⟨rfl, by show 1 ≤ sizeLine; decide, fun p hp => ⟨_, rfl, p, _, _, rfl, rfl, upd_same, by omega, by omega, ?_, fun r hr2 => ?_⟩⟩
      · rw [Int.toNat_natCast]
        exact Nat.le_trans (show 1 * kd.length ≤ 100 by omega) (by decide)
      have e0 : (List.replicate (kd.length : Int).toNat [V.int 0]).flatten = (List.replicate kd.length 0).map iv := by
        rw [Int.toNat_natCast, rep_one]
        exact rep_iv kd.length 0
      rw [e0]
      have s2 : Same H' (upd (upd H' p (.lst [.int 0])) r (.lst ((List.replicate kd.length 0).map iv))) := (Same.fresh hp).trans (Same.fresh hr2)
      have eD2 := s2 _ _ eD
      have nDr : D ≠ r := ne_of_none ((Same.fresh (o := .lst [.int 0]) hp) _ _ eD) hr2
      refine ⟨ts, eD2, small_len (by omega), Same.over (sm.trans s2) hD, ts ++ [.ref r], upd_same, ?_⟩
      rw [List.replicate_succ']
      exact (al.imp fun x y z => (z.mono s2).keep).append (All2.one ⟨r, rfl, nDr.symm, SqL.keep (SqL.of upd_same) nDr.symm⟩)
    · rintro H' ⟨sm, ts, eD, al⟩
      -- for done in range(bit(many) - 2, -1, -1)
      refine ⟨_, rfl, kd.length, rfl, by omega, _, _, rfl, rfl, _, rfl, _, rfl, _, _, _, 2 ^ kd.length - 1, rfl, rng_down p2 (by omega), for_rangeC (n := 2 ^ kd.length - 1)
        (fun i σ H' => ∃ (ts : List V) (v4 : Option V), σ = [some (.ref a), some (.ref b), some (iv kd.length), some (.ref D), v4] ∧ Same H H' ∧ H' D = some (.lst ts) ∧ All2 (RowW K H' D) ts (tabM kd nu i))
        ⟨ts, none, rfl, sm, eD, al⟩ ?_ ?_⟩
      · rintro i σ H' hi ⟨ts, v4, rfl, sm, eD, al⟩
        have ei : ((2 ^ kd.length : Nat) : Int) - 2 + (i : Nat) * (-1) = ((2 ^ kd.length - 2 - i : Nat) : Int) := by omega
        have tab : TabAt K H' D (tabM kd nu i) := ⟨ts, SqL.of eD, al.imp fun v l ⟨c, e, _, r⟩ => ⟨c, e, r⟩⟩
        show gName 4 (V.int (((2 ^ kd.length : Nat) : Int) - 2 + (i : Nat) * (-1))) _ H' _
        rw [ei]
        refine ⟨_, rfl, _, rfl, _, rfl, _, rfl, a, b, D, kd, nu, _, _, rfl, sm.seq hA, sm.seq hB, tab, hK, rows_fit hK (by omega) (tabM_len kd nu i) (tabM_wid kd nu i), fun H2 r sm2 nr er => ?_⟩
        have eD2 := sm2 _ _ eD
        have nDr : D ≠ r := ne_of_none eD nr
        refine ⟨_, rfl, _, rfl, D, ts, _, 2 ^ kd.length - 2 - i, rfl, rfl, eD2, ixN_nat (by rw [al.1, tabM_len]; omega), _, some (iv (2 ^ kd.length - 2 - i)), rfl, Same.over (sm.trans sm2) hD, upd_same, ?_⟩
        exact (al.imp fun x y z => (z.mono sm2).keep).set _ ⟨r, rfl, nDr.symm, SqL.keep (SqL.of er) nDr.symm⟩
      · rintro σ H' ⟨ts, v4, rfl, sm, eD, al⟩
        exact ⟨_, rfl, q H' D sm hD ⟨ts, SqL.of eD, al.imp fun v l ⟨c, e, _, r⟩ => ⟨c, e, r⟩⟩⟩
def bestV : Option Nat → Int
  | none => -1
  | some b => (b : Nat)
def fewV (cost : Nat → Nat) : Option Nat → Int
  | none => 0
  | some b => (cost b : Nat)
theorem ok_best_next (F : Fun K "best_next" "best_next" s_best_next f fd) (T : Txt mg) (C_bit : CallOk P w K mg base 1 "bit" ["i"] spBit) (C_ready_after : CallOk P w K mg base 3 "ready_after" ["numbers", "done"] (spReady K)) (C_step_into : CallOk P w K mg base 1 "step_into" ["last", "kind"] spStep) : FnOk P w K mg base CX0 4 f fd ["kinds", "numbers", "table", "done", "last"] (spBest K) := by
  refine F.ok sc_best_next (fun vs H Q E h => ?_) (fun cdv A outer s H vs Q E hr h => ?_)
  · obtain ⟨a, b, t, kd, nu, rows, d, z, x, rfl, _⟩ := h
    rfl
  · obtain ⟨a, b, t, kd, nu, rows, d, z, x, rfl, hA, hB, hT, hK, hF, hp, q⟩ := h
    have kl := hK.eq
    have k12 := hK.le
    refine ⟨_, (pss_cons (ps_set (i := 5) sc_best_next.nd rfl (Or.inl rfl) (pe_un un_neg pe_int))
      (pss_cons (ps_set (i := 6) sc_best_next.nd rfl (Or.inl rfl) pe_int)
      (pss_cons (ps_for PassesOwn.never rfl (pi_list (pe_cf C_ready_after (hr.mono (by decide)) (pa_cons (pv 1) (pa_cons (pv 3) pa_nil)))) (pg_name (i := 7) sc_best_next.nd rfl (Or.inl rfl))
        (pss_cons (ps_set (i := 8) sc_best_next.nd rfl (Or.inl rfl) (pe_op op_add (pe_cf C_step_into (hr.mono (by decide)) (pa_cons (pv 4) (pa_cons (pe_ix ix_list (pv 0) (pv 7) (fun _ _ => rfl)) pa_nil))) (pe_ix ix_list (pe_ix ix_list (pv 2) (pe_op op_add (pv 3) (pe_cf C_bit (hr.mono (by decide)) (pa_cons (pv 7) pa_nil))) (fun _ _ => rfl)) (pe_ix ix_list (pv 0) (pv 7) (fun _ _ => rfl)) (fun _ _ => rfl))))
        (pss_one (ps_if (PW.pt (pw_or (pt_cmpR op_lt (pv 5) pe_int (nomark _)) (pw_or1 (pt_cmpR op_lt (pv 8) (pv 6) (nomark _))))) (pss_cons (ps_set (i := 5) sc_best_next.nd rfl (Or.inl rfl) (pv 7))
          (pss_one (ps_set (i := 6) sc_best_next.nd rfl (Or.inl rfl) (pv 8)))) pss_nil))))
      (pss_one (ps_ret (pv 5)))))), ?_⟩
    refine ⟨_, rfl, _, rfl, _, rfl, b, nu, d, rfl, hB, by omega, fun H2 r sm nr er => ⟨r, rfl, ⟨_, SqL.of er⟩, ?_⟩⟩
    refine for_list (K := K) (a := r) (xs := (readyM nu d).map iv)
      (fun i σ H' => ∃ (v7 v8 : Option V), σ = [some (.ref a), some (.ref b), some (.ref t), some (iv d), some (.int z), some (.int (bestV (pick (costM kd rows d z) ((readyM nu d).take i)))), some (.int (fewV (costM kd rows d z) (pick (costM kd rows d z) ((readyM nu d).take i)))), v7, v8] ∧ H' = H2)
      ⟨none, none, rfl, rfl⟩ (fun i σ H' _ ⟨_, _, _, e⟩ => e ▸ SqL.of er) ?_ ?_
    · rintro i y σ H' hy ⟨v7, v8, rfl, rfl⟩
      obtain ⟨j, hj, rfl⟩ := iv_of hy
      have hjm := List.mem_of_getElem? hj
      have hj2 := ready_mem hjm
      obtain ⟨kj, hkj⟩ := get_of_lt (l := kd) (show j < kd.length by omega)
      have hkl := hK.lt _ _ hkj
      obtain ⟨l, hl, hll⟩ := hF j hjm
      obtain ⟨ts, ra, hts, hta, hra⟩ := (hT.mono sm).row hl
      have hlk := get_getD (l := l) (i := kj) (d := 0) (by omega)
      have at1 : atI ts ((d : Int) + ((2 ^ j : Nat) : Int)) = some (.ref ra) := at_of (by omega) hta
      have hA' := sm.seq hA
      have ec : costM kd rows d z j = stepM z kj + l.getD kj 0 := by
        unfold costM cell
        rw [getD_of hkj, getD_of hl]
      have es : ((stepM z kj : Nat) : Int) + ((l.getD kj 0 : Nat) : Int) = ((costM kd rows d z j : Nat) : Int) := by rw [ec]; omega
      refine ⟨_, rfl, _, rfl, _, rfl, a, _, _, _, rfl, rfl, hA', iv_at hkj, z, kj, rfl, _, rfl, _, rfl, _, rfl, j, rfl, by omega, _, _, rfl, rfl, t, ts, _, _, rfl, rfl, hts, at1,
        _, rfl, _, rfl, a, _, _, _, rfl, rfl, hA', iv_at hkj, ra, _, _, _, rfl, rfl, hra, iv_at hlk, _, _, rfl, rfl, ?_⟩
      show gName 8 (V.int (((stepM z kj : Nat) : Int) + ((l.getD kj 0 : Nat) : Int))) _ H' _
      rw [es]
      have pk := pick_snoc (costM kd rows d z) ((readyM nu d).take i) j
      rw [← take_more hj] at pk
      cases eo : pick (costM kd rows d z) ((readyM nu d).take i) with
      | none =>
        rw [eo] at pk
        refine ⟨_, rfl, _, _, rfl, rfl, _, rfl, ite2 (fun c => iteT ?_) (fun c => absurd (decide_eq_true (show (-1 : Int) < 0 by decide)) c)⟩
        refine ⟨_, rfl, _, rfl, some (iv j), some (iv (costM kd rows d z j)), ?_, rfl⟩
        rw [pk]
        rfl
      | some o =>
        rw [eo] at pk
        refine ⟨_, rfl, _, _, rfl, rfl, _, rfl, ite2 (fun c => ?_) (fun c => ⟨_, rfl, _, rfl, _, _, rfl, rfl, _, rfl, ite2 (fun c2 => ?_) (fun c2 => ?_)⟩)⟩
        · exfalso
          have c1 : (o : Int) < 0 := of_decide_eq_true c
          omega
        · have c3 : costM kd rows d z j < costM kd rows d z o := Int.ofNat_lt.mp (of_decide_eq_true c2)
          have pk2 : pick (costM kd rows d z) ((readyM nu d).take (i + 1)) = some j := by
            rw [pk]
            exact congrArg some (if_pos c3)
          refine ⟨_, rfl, _, rfl, some (iv j), some (iv (costM kd rows d z j)), ?_, rfl⟩
          rw [pk2]
          rfl
        · have c3 : ¬ costM kd rows d z j < costM kd rows d z o := fun h => c2 (decide_eq_true (Int.ofNat_lt.mpr h))
          have pk2 : pick (costM kd rows d z) ((readyM nu d).take (i + 1)) = some o := by
            rw [pk]
            exact congrArg some (if_neg c3)
          refine ⟨some (iv j), some (iv (costM kd rows d z j)), ?_, rfl⟩
          rw [pk2]
          rfl
    · rintro σ H' ⟨v7, v8, rfl, rfl⟩
      rw [List.length_map, List.take_length, hp]
      exact ⟨_, rfl, q H' sm⟩
end
end TR
namespace TR
open PySem PySem.Spec PyProof.Rows L2
theorem kd_of {th nu : List Nat} (TP : TaskP th nu) : Kd (kindsM th) nu := by
  refine ⟨by rw [kinds_len, TP.eq], by have := TP.pos; have := TP.eq; omega, by have := TP.le; have := TP.eq; omega, fun j x h => ?_⟩
  have hj := (List.getElem?_eq_some_iff.mp h).1
  rw [kinds_len] at hj
  have := kinds_lt hj
  rw [getD_of h] at this
  rw [kinds_len]
  exact this
section
variable {P : Program} {w : World} {K : PySem.W.Frag} {mg : Str → Option Value} {base : Heap} {f : Addr} {fd : FuncData}
theorem ok_told_order (F : Fun K "told_order" "told_order" s_told_order f fd) (T : Txt mg) (C_bit : CallOk P w K mg base 1 "bit" ["i"] spBit) (C_kinds_of : CallOk P w K mg base 2 "kinds_of" ["threads"] (spKinds K)) (C_coming_table : CallOk P w K mg base 5 "coming_table" ["kinds", "numbers"] (spTable K))
    (C_best_next : CallOk P w K mg base 4 "best_next" ["kinds", "numbers", "table", "done", "last"] (spBest K)) : FnOk P w K mg base CX0 6 f fd ["threads", "numbers"] (spTold K) := by
  refine F.ok sc_told_order (fun vs H Q E h => ?_) (fun cdv A outer s H vs Q E hr h => ?_)
  · obtain ⟨a, b, th, nu, rfl, _⟩ := h
    rfl
  · obtain ⟨a, b, th, nu, rfl, hA, hB, TP, q⟩ := h
    have hK := kd_of TP
    have kl := hK.eq
    have k12 := hK.le
    have te := TP.eq
    refine ⟨_, (pss_cons (ps_set (i := 2) sc_told_order.nd rfl (Or.inl rfl) (pe_cf C_kinds_of (hr.mono (by decide)) (pa_cons (pv 0) pa_nil)))
      (pss_cons (ps_set (i := 3) sc_told_order.nd rfl (Or.inl rfl) (pe_cf C_coming_table (hr.mono (by decide)) (pa_cons (pv 2) (pa_cons (pv 1) pa_nil))))
      (pss_cons (ps_set (i := 4) sc_told_order.nd rfl (Or.inl rfl) (pe_lst pa_nil))
      (pss_cons (ps_set (i := 5) sc_told_order.nd rfl (Or.inl rfl) pe_int)
      (pss_cons (ps_set (i := 6) sc_told_order.nd rfl (Or.inl rfl) (pe_gi T.NOTHING_YET))
      (pss_cons (ps_for PassesOwn.never rfl (pi_range1 (by rfl) T.range (pa_cons (pe_callB call_len_seq (by rfl) T.len PySem.boot_len (pa_cons (pv 2) pa_nil)) pa_nil)) (pg_name (i := 7) sc_told_order.nd rfl (Or.inl rfl))
        (pss_cons (ps_set (i := 8) sc_told_order.nd rfl (Or.inl rfl) (pe_cf C_best_next (hr.mono (by decide)) (pa_cons (pv 2) (pa_cons (pv 1) (pa_cons (pv 3) (pa_cons (pv 5) (pa_cons (pv 6) pa_nil)))))))
        (pss_cons (ps_expr (pe_bm PySem.F.plainAttrs_list PySem.F.slot_list_append PySem.F.type_list_append mt_append (pv 4) (pa_cons (pv 8) pa_nil)))
        (pss_cons (ps_aug (i := 5) sc_told_order.nd rfl (Or.inl rfl) (pe_cf C_bit (hr.mono (by decide)) (pa_cons (pv 8) pa_nil)) ip_add)
        (pss_one (ps_set (i := 6) sc_told_order.nd rfl (Or.inl rfl) (pe_ix ix_list (pv 2) (pv 8) (fun _ _ => rfl))))))))
      (pss_one (ps_ret (pv 4))))))))), ?_⟩
    refine ⟨_, rfl, a, th, rfl, hA, by omega, fun H1 r1 sm1 _ er1 => ?_⟩
    refine ⟨_, rfl, _, rfl, r1, b, kindsM th, nu, rfl, SqL.of er1, sm1.seq hB, hK, fun H2 r2 sm2 _ tab => ?_⟩
    refine ⟨by decide, fun o ho => ?_⟩
    have sm12 : Same H H2 := sm1.trans sm2
    have ho0 : H o = none := sm12.free ho
    have pos : 1 ≤ 2 ^ nu.length := Nat.two_pow_pos _
    have R := tab_ok TP (2 ^ nu.length - 1) (by omega)
    rw [Nat.sub_self] at R
    rw [kl] at tab
    generalize tabM (kindsM th) nu (2 ^ nu.length - 1) = rows at tab R
    refine ⟨_, rfl, r1, _, rfl, .inl (SqL.of ((Same.fresh ho) _ _ (sm2 _ _ er1))), _, rfl, by omega, by rw [List.length_map]; omega, for_rng0 (n := nu.length) (by rw [List.length_map, kl])
      (fun i σ H' => ∃ (l : List Nat) (m : Nat) (last : Option Nat) (z : Int) (v7 v8 : Option V), σ = [some (.ref a), some (.ref b), some (.ref r1), some (.ref r2), some (.ref o), some (iv m), some (.int z), v7, v8] ∧ Same H2 H' ∧ H' o = some (.lst (l.map iv)) ∧
        m < 2 ^ nu.length ∧ zc nu.length m = nu.length - i ∧ LastIs (kindsM th) nu.length last z ∧ l.length = i ∧ Eb.leastOrder ⟨th, nu⟩ = l ++ Eb.goOn ⟨th, nu⟩ (Eb.still ⟨th, nu⟩) (nu.length - i) m last)
      ⟨[], 0, none, -1, none, none, rfl, Same.fresh ho, upd_same, pos, zc_none _, rfl, rfl, ?_⟩ ?_ ?_⟩
    · show Eb.goOn ⟨th, nu⟩ (Eb.still ⟨th, nu⟩) th.length 0 none = _
      rw [← te]
      rfl
    · rintro i σ H' hi ⟨l, m, last, z, v7, v8, rfl, sm, eo, hm, hz, hL, hll, hlo⟩
      have ek : nu.length - i = (nu.length - (i + 1)) + 1 := by omega
      rw [ek] at hz hlo
      obtain ⟨x, hpk, hx, hgo⟩ := goOn_step TP R hm hz hL
      have hx2 := ready_mem hx
      have tb : TabAt K H' r2 rows := tab.mono sm
      have er1' := sm _ _ (sm2 _ _ er1)
      obtain ⟨kx, hkx⟩ := get_of_lt (l := kindsM th) (show x < (kindsM th).length by omega)
      refine ⟨_, rfl, _, rfl, _, rfl, _, rfl, _, rfl, r1, b, r2, kindsM th, nu, rows, m, z, x, rfl, SqL.of er1', sm.seq (sm12.seq hB), tb, hK, rows_fit hK (by rw [kl]; exact hm) (by rw [kl]; exact R.len) (fun m l h => by rw [kl]; exact R.wid m l h), hpk, fun H3 sm3 => ?_⟩
      have eo3 := sm3 _ _ eo
      have e1 : H3 r1 = some (.lst ((kindsM th).map iv)) := sm3 _ _ er1'
      have n1 : r1 ≠ o := ne_of_none (sm2 _ _ er1) ho
      refine ⟨_, rfl, .inl ⟨rfl, _, SqL.of eo3⟩, _, rfl, o, _, _, rfl, rfl, eo3, small_len (by rw [List.length_map]; omega), ?_⟩
      refine ⟨_, rfl, _, rfl, x, rfl, by omega, _, _, rfl, rfl, ?_⟩
      have e2 : SqL K (upd H3 o (.lst (l.map iv ++ [iv x]))) r1 ((kindsM th).map iv) := SqL.keep (SqL.of e1) n1
      refine ⟨_, rfl, _, rfl, r1, _, _, _, rfl, rfl, e2, iv_at hkx, ?_⟩
      have zz := zc_add hx2.2 hx2.1
      refine ⟨l ++ [x], m + 2 ^ x, some x, (kx : Nat), some (iv i), some (iv x), rfl, Same.over (sm.trans sm3) ho, ?_, (bit_up hm hx2.1 hx2.2).2, by omega, ⟨hx2.1, by rw [getD_of hkx]⟩, by rw [List.length_append, hll]; rfl, ?_⟩
      · rw [upd_same, List.map_append]
        rfl
      · rw [hlo, hgo, List.append_assoc]
        rfl
    · rintro σ H' ⟨l, m, last, z, v7, v8, rfl, sm, eo, hm, hz, hL, hll, hlo⟩
      rw [Nat.sub_self] at hlo
      have e : Eb.leastOrder ⟨th, nu⟩ = l := by
        rw [hlo]
        exact List.append_nil l
      rw [← e] at eo
      exact ⟨_, rfl, q H' o (sm12.trans sm) ho0 eo⟩
theorem ok_order (F : Fun K "order" "order" s_order f fd) (T : Txt mg) (C_task_allowed : CallOk P w K mg base 2 "task_allowed" ["threads", "numbers"] (spTask K)) (C_changes_of : CallOk P w K mg base 1 "changes_of" ["threads", "row"] (spChanges K))
    (C_told_order : CallOk P w K mg base 6 "told_order" ["threads", "numbers"] (spTold K)) : FnOk P w K mg base CX0 7 f fd ["threads", "numbers"] (spOrder K) := by
  refine F.ok sc_order (fun vs H Q E h => ?_) (fun cdv A outer s H vs Q E hr h => ?_)
  · obtain ⟨a, b, th, nu, rfl, _⟩ := h
    rfl
  · obtain ⟨a, b, th, nu, rfl, hA, hB, q⟩ := h
    refine ⟨_, (pss_cons (ps_if (pt_not (pt_val (pe_cf C_task_allowed (hr.mono (by decide)) (pa_cons (pv 0) (pa_cons (pv 1) pa_nil))))) (pss_one (ps_ret (pe_lst (pa_cons (pe_gi T.REFUSED) pa_nil)))) pss_nil)
      (pss_cons (ps_set (i := 2) sc_order.nd rfl (Or.inl rfl) (pe_cf C_told_order (hr.mono (by decide)) (pa_cons (pe_callTy call_list_of (by rfl) T.list (by decide +kernel) (pa_cons (pv 0) pa_nil)) (pa_cons (pe_callTy call_list_of (by rfl) T.list (by decide +kernel) (pa_cons (pv 1) pa_nil)) pa_nil))))
      (pss_one (ps_ret (pe_op op_cat (pe_lst (pa_cons (pe_cf C_changes_of (hr.mono (by decide)) (pa_cons (pv 0) (pa_cons (pv 2) pa_nil))) pa_nil)) (pv 2)))))), ?_⟩
    refine ⟨_, rfl, _, rfl, a, b, th, nu, rfl, hA, hB, _, rfl, ite2 (fun c => ?_) (fun c => ?_)⟩
    · rw [Bool.not_eq_true'] at c
      refine ⟨by decide, fun p hp => q _ p ?_⟩
      rw [upd_same]
      unfold orderM
      rw [c, if_neg Bool.false_ne_true]
      rfl
    have c1 : taskOk th nu = true := by
      cases z : taskOk th nu with
      | true => rfl
      | false => rw [z] at c; exact absurd rfl c
    have TP := taskOk_p c1
    have te := TP.eq
    have t12 := TP.le
    refine ⟨_, rfl, a, _, rfl, .inl hA, fun l1 h1 => ?_⟩
    have s1 : Same H (upd H l1 (.lst (th.map iv))) := Same.fresh h1
    refine ⟨_, rfl, b, _, rfl, .inl (s1.seq hB), fun l2 h2 => ?_⟩
    have s2 : Same H (upd (upd H l1 (.lst (th.map iv))) l2 (.lst (nu.map iv))) := s1.trans (Same.fresh h2)
    have n12 : l1 ≠ l2 := fun e => by
      rw [← e, upd_same] at h2
      cases h2
    refine ⟨l1, l2, th, nu, rfl, SqL.of (by rw [upd_ne n12, upd_same]), SqL.of upd_same, TP, fun H3 r sm nr er => ?_⟩
    obtain ⟨gl, gm⟩ := goOn_small ⟨th, nu⟩ (Eb.still ⟨th, nu⟩) th.length 0 none
    have lo : Eb.leastOrder ⟨th, nu⟩ = Eb.goOn ⟨th, nu⟩ (Eb.still ⟨th, nu⟩) th.length 0 none := rfl
    rw [← lo] at gl gm
    have s3 : Same H H3 := s2.trans sm
    refine ⟨_, rfl, _, rfl, a, r, th, _, rfl, s3.seq hA, SqL.of er, by omega, gm, by show 1 ≤ sizeLine; decide, fun p hp => ?_⟩
    have er2 := (Same.fresh (o := .lst [iv (chg th (Eb.leastOrder ⟨th, nu⟩))]) hp) _ _ er
    refine ⟨_, rfl, p, r, _, _, rfl, rfl, upd_same, er2, ?_, fun p2 hp2 => q _ p2 ?_⟩
    · rw [List.length_map]
      exact Nat.le_of_lt (small_len (show 1 + (Eb.leastOrder ⟨th, nu⟩).length ≤ 100000 by omega))
    · rw [upd_same]
      unfold orderM
      rw [if_pos c1, List.map_cons, castL_iv]
      rfl
end
end TR
namespace TR
open PySem PySem.Spec PyProof.Rows L2
/-! ## what the top has written -/
theorem all_mk {P : Program} {w : World} {K : PySem.W.Frag} {h : Heap} {mg : Str → Option Value} {fa : Addr} (X : K.In h) (G : h.Ns mainGlobals mg) (hfa : mg "order" = some (.ref fa))
    {f_bit f_has f_all_among f_task_allowed f_may_follow f_changes_of f_first_alike f_kinds_of f_ready_after f_coming_row f_coming_table f_step_into f_best_next f_told_order f_order : Addr} {od_bit an_bit od_has an_has od_all_among an_all_among od_task_allowed an_task_allowed od_may_follow an_may_follow od_changes_of an_changes_of od_first_alike an_first_alike od_kinds_of an_kinds_of od_ready_after an_ready_after od_coming_row an_coming_row od_coming_table an_coming_table od_step_into an_step_into od_best_next an_best_next od_told_order an_told_order od_order an_order : Option Addr} {sl_bit sl_has sl_all_among sl_task_allowed sl_may_follow sl_changes_of sl_first_alike sl_kinds_of sl_ready_after sl_coming_row sl_coming_table sl_step_into sl_best_next sl_told_order sl_order : Array (Option Value)} {oc_bit kV_bit dc_bit pm_bit cd_bit ct_bit oc_has kV_has dc_has pm_has cd_has ct_has oc_all_among kV_all_among dc_all_among pm_all_among cd_all_among ct_all_among oc_task_allowed kV_task_allowed dc_task_allowed pm_task_allowed cd_task_allowed ct_task_allowed oc_may_follow kV_may_follow dc_may_follow pm_may_follow cd_may_follow ct_may_follow oc_changes_of kV_changes_of dc_changes_of pm_changes_of cd_changes_of ct_changes_of oc_first_alike kV_first_alike dc_first_alike pm_first_alike cd_first_alike ct_first_alike oc_kinds_of kV_kinds_of dc_kinds_of pm_kinds_of cd_kinds_of ct_kinds_of oc_ready_after kV_ready_after dc_ready_after pm_ready_after cd_ready_after ct_ready_after oc_coming_row kV_coming_row dc_coming_row pm_coming_row cd_coming_row ct_coming_row oc_coming_table kV_coming_table dc_coming_table pm_coming_table cd_coming_table ct_coming_table oc_step_into kV_step_into dc_step_into pm_step_into cd_step_into ct_step_into oc_best_next kV_best_next dc_best_next pm_best_next cd_best_next ct_best_next oc_told_order kV_told_order dc_told_order pm_told_order cd_told_order ct_told_order oc_order kV_order dc_order pm_order cd_order ct_order : Value}
    {tk_MOST_SHAPES tk_REFUSED tk_NOTHING_YET : Tok}
    (a_bit : PySem.W.nsIn K mainGlobals "bit" = some (some (.ref f_bit))) (l_bit : K.lookup f_bit = some ⟨oc_bit, od_bit, .func (PySem.W.fnOf "bit" "bit" (defArgs s_bit) (defBody s_bit) (defScope s_bit) .none kV_bit dc_bit pm_bit an_bit cd_bit ct_bit), sl_bit⟩) (c_bit : PySem.W.codeIn K cd_bit "bit" = true) (k_bit : PySem.W.keepIn K (.ref f_bit) = true)
    (a_has : PySem.W.nsIn K mainGlobals "has" = some (some (.ref f_has))) (l_has : K.lookup f_has = some ⟨oc_has, od_has, .func (PySem.W.fnOf "has" "has" (defArgs s_has) (defBody s_has) (defScope s_has) .none kV_has dc_has pm_has an_has cd_has ct_has), sl_has⟩) (c_has : PySem.W.codeIn K cd_has "has" = true) (k_has : PySem.W.keepIn K (.ref f_has) = true)
    (a_all_among : PySem.W.nsIn K mainGlobals "all_among" = some (some (.ref f_all_among))) (l_all_among : K.lookup f_all_among = some ⟨oc_all_among, od_all_among, .func (PySem.W.fnOf "all_among" "all_among" (defArgs s_all_among) (defBody s_all_among) (defScope s_all_among) .none kV_all_among dc_all_among pm_all_among an_all_among cd_all_among ct_all_among), sl_all_among⟩) (c_all_among : PySem.W.codeIn K cd_all_among "all_among" = true) (k_all_among : PySem.W.keepIn K (.ref f_all_among) = true)
    (a_task_allowed : PySem.W.nsIn K mainGlobals "task_allowed" = some (some (.ref f_task_allowed))) (l_task_allowed : K.lookup f_task_allowed = some ⟨oc_task_allowed, od_task_allowed, .func (PySem.W.fnOf "task_allowed" "task_allowed" (defArgs s_task_allowed) (defBody s_task_allowed) (defScope s_task_allowed) .none kV_task_allowed dc_task_allowed pm_task_allowed an_task_allowed cd_task_allowed ct_task_allowed), sl_task_allowed⟩) (c_task_allowed : PySem.W.codeIn K cd_task_allowed "task_allowed" = true) (k_task_allowed : PySem.W.keepIn K (.ref f_task_allowed) = true)
    (a_may_follow : PySem.W.nsIn K mainGlobals "may_follow" = some (some (.ref f_may_follow))) (l_may_follow : K.lookup f_may_follow = some ⟨oc_may_follow, od_may_follow, .func (PySem.W.fnOf "may_follow" "may_follow" (defArgs s_may_follow) (defBody s_may_follow) (defScope s_may_follow) .none kV_may_follow dc_may_follow pm_may_follow an_may_follow cd_may_follow ct_may_follow), sl_may_follow⟩) (c_may_follow : PySem.W.codeIn K cd_may_follow "may_follow" = true) (k_may_follow : PySem.W.keepIn K (.ref f_may_follow) = true)
    (a_changes_of : PySem.W.nsIn K mainGlobals "changes_of" = some (some (.ref f_changes_of))) (l_changes_of : K.lookup f_changes_of = some ⟨oc_changes_of, od_changes_of, .func (PySem.W.fnOf "changes_of" "changes_of" (defArgs s_changes_of) (defBody s_changes_of) (defScope s_changes_of) .none kV_changes_of dc_changes_of pm_changes_of an_changes_of cd_changes_of ct_changes_of), sl_changes_of⟩) (c_changes_of : PySem.W.codeIn K cd_changes_of "changes_of" = true) (k_changes_of : PySem.W.keepIn K (.ref f_changes_of) = true)
    (a_first_alike : PySem.W.nsIn K mainGlobals "first_alike" = some (some (.ref f_first_alike))) (l_first_alike : K.lookup f_first_alike = some ⟨oc_first_alike, od_first_alike, .func (PySem.W.fnOf "first_alike" "first_alike" (defArgs s_first_alike) (defBody s_first_alike) (defScope s_first_alike) .none kV_first_alike dc_first_alike pm_first_alike an_first_alike cd_first_alike ct_first_alike), sl_first_alike⟩) (c_first_alike : PySem.W.codeIn K cd_first_alike "first_alike" = true) (k_first_alike : PySem.W.keepIn K (.ref f_first_alike) = true)
    (a_kinds_of : PySem.W.nsIn K mainGlobals "kinds_of" = some (some (.ref f_kinds_of))) (l_kinds_of : K.lookup f_kinds_of = some ⟨oc_kinds_of, od_kinds_of, .func (PySem.W.fnOf "kinds_of" "kinds_of" (defArgs s_kinds_of) (defBody s_kinds_of) (defScope s_kinds_of) .none kV_kinds_of dc_kinds_of pm_kinds_of an_kinds_of cd_kinds_of ct_kinds_of), sl_kinds_of⟩) (c_kinds_of : PySem.W.codeIn K cd_kinds_of "kinds_of" = true) (k_kinds_of : PySem.W.keepIn K (.ref f_kinds_of) = true)
    (a_ready_after : PySem.W.nsIn K mainGlobals "ready_after" = some (some (.ref f_ready_after))) (l_ready_after : K.lookup f_ready_after = some ⟨oc_ready_after, od_ready_after, .func (PySem.W.fnOf "ready_after" "ready_after" (defArgs s_ready_after) (defBody s_ready_after) (defScope s_ready_after) .none kV_ready_after dc_ready_after pm_ready_after an_ready_after cd_ready_after ct_ready_after), sl_ready_after⟩) (c_ready_after : PySem.W.codeIn K cd_ready_after "ready_after" = true) (k_ready_after : PySem.W.keepIn K (.ref f_ready_after) = true)
    (a_coming_row : PySem.W.nsIn K mainGlobals "coming_row" = some (some (.ref f_coming_row))) (l_coming_row : K.lookup f_coming_row = some ⟨oc_coming_row, od_coming_row, .func (PySem.W.fnOf "coming_row" "coming_row" (defArgs s_coming_row) (defBody s_coming_row) (defScope s_coming_row) .none kV_coming_row dc_coming_row pm_coming_row an_coming_row cd_coming_row ct_coming_row), sl_coming_row⟩) (c_coming_row : PySem.W.codeIn K cd_coming_row "coming_row" = true) (k_coming_row : PySem.W.keepIn K (.ref f_coming_row) = true)
    (a_coming_table : PySem.W.nsIn K mainGlobals "coming_table" = some (some (.ref f_coming_table))) (l_coming_table : K.lookup f_coming_table = some ⟨oc_coming_table, od_coming_table, .func (PySem.W.fnOf "coming_table" "coming_table" (defArgs s_coming_table) (defBody s_coming_table) (defScope s_coming_table) .none kV_coming_table dc_coming_table pm_coming_table an_coming_table cd_coming_table ct_coming_table), sl_coming_table⟩) (c_coming_table : PySem.W.codeIn K cd_coming_table "coming_table" = true) (k_coming_table : PySem.W.keepIn K (.ref f_coming_table) = true)
    (a_step_into : PySem.W.nsIn K mainGlobals "step_into" = some (some (.ref f_step_into))) (l_step_into : K.lookup f_step_into = some ⟨oc_step_into, od_step_into, .func (PySem.W.fnOf "step_into" "step_into" (defArgs s_step_into) (defBody s_step_into) (defScope s_step_into) .none kV_step_into dc_step_into pm_step_into an_step_into cd_step_into ct_step_into), sl_step_into⟩) (c_step_into : PySem.W.codeIn K cd_step_into "step_into" = true) (k_step_into : PySem.W.keepIn K (.ref f_step_into) = true)
    (a_best_next : PySem.W.nsIn K mainGlobals "best_next" = some (some (.ref f_best_next))) (l_best_next : K.lookup f_best_next = some ⟨oc_best_next, od_best_next, .func (PySem.W.fnOf "best_next" "best_next" (defArgs s_best_next) (defBody s_best_next) (defScope s_best_next) .none kV_best_next dc_best_next pm_best_next an_best_next cd_best_next ct_best_next), sl_best_next⟩) (c_best_next : PySem.W.codeIn K cd_best_next "best_next" = true) (k_best_next : PySem.W.keepIn K (.ref f_best_next) = true)
    (a_told_order : PySem.W.nsIn K mainGlobals "told_order" = some (some (.ref f_told_order))) (l_told_order : K.lookup f_told_order = some ⟨oc_told_order, od_told_order, .func (PySem.W.fnOf "told_order" "told_order" (defArgs s_told_order) (defBody s_told_order) (defScope s_told_order) .none kV_told_order dc_told_order pm_told_order an_told_order cd_told_order ct_told_order), sl_told_order⟩) (c_told_order : PySem.W.codeIn K cd_told_order "told_order" = true) (k_told_order : PySem.W.keepIn K (.ref f_told_order) = true)
    (a_order : PySem.W.nsIn K mainGlobals "order" = some (some (.ref f_order))) (l_order : K.lookup f_order = some ⟨oc_order, od_order, .func (PySem.W.fnOf "order" "order" (defArgs s_order) (defBody s_order) (defScope s_order) .none kV_order dc_order pm_order an_order cd_order ct_order), sl_order⟩) (c_order : PySem.W.codeIn K cd_order "order" = true) (k_order : PySem.W.keepIn K (.ref f_order) = true)
    (z_len : PySem.W.nsIn K mainGlobals "len" = some none)
    (z_range : PySem.W.nsIn K mainGlobals "range" = some none)
    (z_min : PySem.W.nsIn K mainGlobals "min" = some none)
    (z_list : PySem.W.nsIn K mainGlobals "list" = some none)
    (g_MOST_SHAPES : PySem.W.nsIn K mainGlobals "MOST_SHAPES" = some (some (.int (12) tk_MOST_SHAPES)))
    (g_REFUSED : PySem.W.nsIn K mainGlobals "REFUSED" = some (some (.int (-1) tk_REFUSED)))
    (g_NOTHING_YET : PySem.W.nsIn K mainGlobals "NOTHING_YET" = some (some (.int (-1) tk_NOTHING_YET)))
    : ∃ fd : FuncData, (∀ (s : Shared) (us : List Value), us.length = (["threads", "numbers"] : List Str).length → BindsTo s fd ⟨us, []⟩ ((["threads", "numbers"] : List Str).zip us)) ∧ ∀ base : Heap, K.In base → base.Ns mainGlobals mg → FnOk P w K mg base CX0 7 fa fd ["threads", "numbers"] (spOrder K) := by
  have e := hfa.symm.trans (PySem.W.mg_of X G a_order)
  cases e
  have T : Txt mg := { len := PySem.W.mg_none_of X G z_len, range := PySem.W.mg_none_of X G z_range, min := PySem.W.mg_none_of X G z_min, list := PySem.W.mg_none_of X G z_list, MOST_SHAPES := ⟨_, PySem.W.mg_of X G g_MOST_SHAPES⟩, REFUSED := ⟨_, PySem.W.mg_of X G g_REFUSED⟩, NOTHING_YET := ⟨_, PySem.W.mg_of X G g_NOTHING_YET⟩ }
  have F_bit := fun_mk (st := s_bit) l_bit c_bit k_bit
  have F_has := fun_mk (st := s_has) l_has c_has k_has
  have F_all_among := fun_mk (st := s_all_among) l_all_among c_all_among k_all_among
  have F_task_allowed := fun_mk (st := s_task_allowed) l_task_allowed c_task_allowed k_task_allowed
  have F_may_follow := fun_mk (st := s_may_follow) l_may_follow c_may_follow k_may_follow
  have F_changes_of := fun_mk (st := s_changes_of) l_changes_of c_changes_of k_changes_of
  have F_first_alike := fun_mk (st := s_first_alike) l_first_alike c_first_alike k_first_alike
  have F_kinds_of := fun_mk (st := s_kinds_of) l_kinds_of c_kinds_of k_kinds_of
  have F_ready_after := fun_mk (st := s_ready_after) l_ready_after c_ready_after k_ready_after
  have F_coming_row := fun_mk (st := s_coming_row) l_coming_row c_coming_row k_coming_row
  have F_coming_table := fun_mk (st := s_coming_table) l_coming_table c_coming_table k_coming_table
  have F_step_into := fun_mk (st := s_step_into) l_step_into c_step_into k_step_into
  have F_best_next := fun_mk (st := s_best_next) l_best_next c_best_next k_best_next
  have F_told_order := fun_mk (st := s_told_order) l_told_order c_told_order k_told_order
  have F_order := fun_mk (st := s_order) l_order c_order k_order
  refine ⟨PySem.W.fnOf "order" "order" (defArgs s_order) (defBody s_order) (defScope s_order) .none kV_order dc_order pm_order an_order cd_order ct_order, fun s us hu => match us, hu with | [_, _], _ => .of_eq rfl, fun base _ _ => ?_⟩
  have C_bit : CallOk P w K mg base 1 "bit" ["i"] spBit := ⟨⟨_, _, ok_bit F_bit , PySem.W.mg_of X G a_bit, k_bit, F_bit.binds (ps := ["i"]) fun _ _ _ _ _ _ us hl => match us, hl with | [_], _ => rfl⟩⟩
  have C_has : CallOk P w K mg base 1 "has" ["number", "i"] spHas := ⟨⟨_, _, ok_has F_has , PySem.W.mg_of X G a_has, k_has, F_has.binds (ps := ["number", "i"]) fun _ _ _ _ _ _ us hl => match us, hl with | [_, _], _ => rfl⟩⟩
  have C_all_among : CallOk P w K mg base 1 "all_among" ["number", "done"] spAmong := ⟨⟨_, _, ok_all_among F_all_among , PySem.W.mg_of X G a_all_among, k_all_among, F_all_among.binds (ps := ["number", "done"]) fun _ _ _ _ _ _ us hl => match us, hl with | [_, _], _ => rfl⟩⟩
  have C_task_allowed : CallOk P w K mg base 2 "task_allowed" ["threads", "numbers"] (spTask K) := ⟨⟨_, _, ok_task_allowed F_task_allowed T C_bit, PySem.W.mg_of X G a_task_allowed, k_task_allowed, F_task_allowed.binds (ps := ["threads", "numbers"]) fun _ _ _ _ _ _ us hl => match us, hl with | [_, _], _ => rfl⟩⟩
  have C_may_follow : CallOk P w K mg base 2 "may_follow" ["numbers", "done", "j"] (spFollow K) := ⟨⟨_, _, ok_may_follow F_may_follow C_has C_all_among, PySem.W.mg_of X G a_may_follow, k_may_follow, F_may_follow.binds (ps := ["numbers", "done", "j"]) fun _ _ _ _ _ _ us hl => match us, hl with | [_, _, _], _ => rfl⟩⟩
  have C_changes_of : CallOk P w K mg base 1 "changes_of" ["threads", "row"] (spChanges K) := ⟨⟨_, _, ok_changes_of F_changes_of T, PySem.W.mg_of X G a_changes_of, k_changes_of, F_changes_of.binds (ps := ["threads", "row"]) fun _ _ _ _ _ _ us hl => match us, hl with | [_, _], _ => rfl⟩⟩
  have C_first_alike : CallOk P w K mg base 1 "first_alike" ["threads", "j"] (spFirst K) := ⟨⟨_, _, ok_first_alike F_first_alike T, PySem.W.mg_of X G a_first_alike, k_first_alike, F_first_alike.binds (ps := ["threads", "j"]) fun _ _ _ _ _ _ us hl => match us, hl with | [_, _], _ => rfl⟩⟩
  have C_kinds_of : CallOk P w K mg base 2 "kinds_of" ["threads"] (spKinds K) := ⟨⟨_, _, ok_kinds_of F_kinds_of T C_first_alike, PySem.W.mg_of X G a_kinds_of, k_kinds_of, F_kinds_of.binds (ps := ["threads"]) fun _ _ _ _ _ _ us hl => match us, hl with | [_], _ => rfl⟩⟩
  have C_ready_after : CallOk P w K mg base 3 "ready_after" ["numbers", "done"] (spReady K) := ⟨⟨_, _, ok_ready_after F_ready_after T C_may_follow, PySem.W.mg_of X G a_ready_after, k_ready_after, F_ready_after.binds (ps := ["numbers", "done"]) fun _ _ _ _ _ _ us hl => match us, hl with | [_, _], _ => rfl⟩⟩
  have C_coming_row : CallOk P w K mg base 4 "coming_row" ["kinds", "numbers", "table", "done"] (spRowC K) := ⟨⟨_, _, ok_coming_row F_coming_row T C_bit C_ready_after, PySem.W.mg_of X G a_coming_row, k_coming_row, F_coming_row.binds (ps := ["kinds", "numbers", "table", "done"]) fun _ _ _ _ _ _ us hl => match us, hl with | [_, _, _, _], _ => rfl⟩⟩
  have C_coming_table : CallOk P w K mg base 5 "coming_table" ["kinds", "numbers"] (spTable K) := ⟨⟨_, _, ok_coming_table F_coming_table T C_bit C_coming_row, PySem.W.mg_of X G a_coming_table, k_coming_table, F_coming_table.binds (ps := ["kinds", "numbers"]) fun _ _ _ _ _ _ us hl => match us, hl with | [_, _], _ => rfl⟩⟩
  have C_step_into : CallOk P w K mg base 1 "step_into" ["last", "kind"] spStep := ⟨⟨_, _, ok_step_into F_step_into T, PySem.W.mg_of X G a_step_into, k_step_into, F_step_into.binds (ps := ["last", "kind"]) fun _ _ _ _ _ _ us hl => match us, hl with | [_, _], _ => rfl⟩⟩
  have C_best_next : CallOk P w K mg base 4 "best_next" ["kinds", "numbers", "table", "done", "last"] (spBest K) := ⟨⟨_, _, ok_best_next F_best_next T C_bit C_ready_after C_step_into, PySem.W.mg_of X G a_best_next, k_best_next, F_best_next.binds (ps := ["kinds", "numbers", "table", "done", "last"]) fun _ _ _ _ _ _ us hl => match us, hl with | [_, _, _, _, _], _ => rfl⟩⟩
  have C_told_order : CallOk P w K mg base 6 "told_order" ["threads", "numbers"] (spTold K) := ⟨⟨_, _, ok_told_order F_told_order T C_bit C_kinds_of C_coming_table C_best_next, PySem.W.mg_of X G a_told_order, k_told_order, F_told_order.binds (ps := ["threads", "numbers"]) fun _ _ _ _ _ _ us hl => match us, hl with | [_, _], _ => rfl⟩⟩
  exact ok_order F_order T C_task_allowed C_changes_of C_told_order
theorem nats_of : ∀ {l : List Int}, (∀ x ∈ l, 0 ≤ x) → ∃ th, l = castL th
  | [], _ => ⟨[], rfl⟩
  | x :: r, h => by
    obtain ⟨th, e⟩ := nats_of (l := r) fun y hy => h y (List.mem_cons_of_mem _ hy)
    refine ⟨x.toNat :: th, ?_⟩
    unfold castL at e ⊢
    rw [List.map_cons, ← e, Int.toNat_of_nonneg (h x (List.mem_cons_self ..))]
theorem list_in {lo : Nat} {hi : Nat} {l : List Int} (q : (PySem.W.Codec.inLen lo hi l && l.all (PySem.W.Codec.inInt 0 4294967295)) = true) : ∃ th : List Nat, l = castL th ∧ th.length ≤ hi := by
  rw [Bool.and_eq_true] at q
  obtain ⟨th, e⟩ := nats_of (l := l) fun x hx => (PySem.W.Codec.inInt_iff.mp (List.all_eq_true.mp q.2 x hx)).1
  refine ⟨th, e, ?_⟩
  have := (PySem.W.Codec.inNat_iff.mp q.1).2
  rw [e] at this
  unfold castL at this
  rw [List.length_map] at this
  exact this
end TR
open PySem PySem.W PyProof.Rows
set_option maxRecDepth 100000 in
set_option maxHeartbeats 8000000 in
theorem PySem.Challenge.cw_threadrow_s03_order_holds : PySem.Challenge.rw_threadrow_s03_order.Holds := by
  w_on; k_headS; (case hw => exact ⟨[.list [], .list []], by decide +kernel, by decide +kernel⟩)
  k_fillS
  refine L2.walk_specK (r := PySem.Challenge.rw_threadrow_s03_order) (k := 7) (CX := L2.CX0) (ps := ["threads", "numbers"]) (sp := TR.spOrder) (by decide +kernel) rfl rfl ⟨rfl, by decide, by decide⟩ (fun w h Y => PySem.W.kIn_of Y) ?F ?S (fun _ _ _ _ z => z)
  case F =>
    intro w mg fa h Y KX G hmg
    refine' TR.all_mk KX G hmg ?a_bit ?l_bit ?c_bit ?k_bit ?a_has ?l_has ?c_has ?k_has ?a_all_among ?l_all_among ?c_all_among ?k_all_among ?a_task_allowed ?l_task_allowed ?c_task_allowed ?k_task_allowed ?a_may_follow ?l_may_follow ?c_may_follow ?k_may_follow ?a_changes_of ?l_changes_of ?c_changes_of ?k_changes_of ?a_first_alike ?l_first_alike ?c_first_alike ?k_first_alike ?a_kinds_of ?l_kinds_of ?c_kinds_of ?k_kinds_of ?a_ready_after ?l_ready_after ?c_ready_after ?k_ready_after ?a_coming_row ?l_coming_row ?c_coming_row ?k_coming_row ?a_coming_table ?l_coming_table ?c_coming_table ?k_coming_table ?a_step_into ?l_step_into ?c_step_into ?k_step_into ?a_best_next ?l_best_next ?c_best_next ?k_best_next ?a_told_order ?l_told_order ?c_told_order ?k_told_order ?a_order ?l_order ?c_order ?k_order ?z_len ?z_range ?z_min ?z_list ?g_MOST_SHAPES ?g_REFUSED ?g_NOTHING_YET
    (case a_bit => k_is); (case l_bit => k_is); (case c_bit => k_is); (case k_bit => k_is); (case a_has => k_is); (case l_has => k_is)
    (case c_has => k_is); (case k_has => k_is); (case a_all_among => k_is); (case l_all_among => k_is); (case c_all_among => k_is); (case k_all_among => k_is)
    (case a_task_allowed => k_is); (case l_task_allowed => k_is); (case c_task_allowed => k_is); (case k_task_allowed => k_is); (case a_may_follow => k_is); (case l_may_follow => k_is)
    (case c_may_follow => k_is); (case k_may_follow => k_is); (case a_changes_of => k_is); (case l_changes_of => k_is); (case c_changes_of => k_is); (case k_changes_of => k_is)
    (case a_first_alike => k_is); (case l_first_alike => k_is); (case c_first_alike => k_is); (case k_first_alike => k_is); (case a_kinds_of => k_is); (case l_kinds_of => k_is)
    (case c_kinds_of => k_is); (case k_kinds_of => k_is); (case a_ready_after => k_is); (case l_ready_after => k_is); (case c_ready_after => k_is); (case k_ready_after => k_is)
    (case a_coming_row => k_is); (case l_coming_row => k_is); (case c_coming_row => k_is); (case k_coming_row => k_is); (case a_coming_table => k_is); (case l_coming_table => k_is)
    (case c_coming_table => k_is); (case k_coming_table => k_is); (case a_step_into => k_is); (case l_step_into => k_is); (case c_step_into => k_is); (case k_step_into => k_is)
    (case a_best_next => k_is); (case l_best_next => k_is); (case c_best_next => k_is); (case k_best_next => k_is); (case a_told_order => k_is); (case l_told_order => k_is)
    (case c_told_order => k_is); (case k_told_order => k_is); (case a_order => k_is); (case l_order => k_is); (case c_order => k_is); (case k_order => k_is)
    (case z_len => k_is); (case z_range => k_is); (case z_min => k_is); (case z_list => k_is); (case g_MOST_SHAPES => k_is); (case g_REFUSED => k_is)
    (case g_NOTHING_YET => k_is)
  case S =>
    intro K H xs a hO hwi hask hx
    obtain ⟨x, y, u⟩ := a
    cases hx with
    | cons h1 hx =>
      cases hx with
      | cons h2 hx =>
        cases hx
        cases h1 with
        | lst hs1 ha1 =>
          cases h2 with
          | lst hs2 ha2 =>
            have e1 := L2.ints_dw x _ ha1
            have e2 := L2.ints_dw y _ ha2
            subst e1 e2
            have q : ((Codec.inLen 0 30 x && x.all (Codec.inInt 0 4294967295)) && ((Codec.inLen 0 30 y && y.all (Codec.inInt 0 4294967295)) && true)) = true := hwi
            obtain ⟨q1, q⟩ := Bool.and_eq_true_iff.mp q
            obtain ⟨q2, q⟩ := Bool.and_eq_true_iff.mp q
            obtain ⟨th, rfl, _⟩ := TR.list_in (l := x) q1
            obtain ⟨nu, rfl, _⟩ := TR.list_in (l := y) q2
            rw [TR.castL_iv] at hs1 hs2
            refine ⟨_, _, th, nu, rfl, hs1, hs2, fun H' p hp => ?_⟩
            show L2.Dw K H' (.ref p) (WData.list ((PyYqstfa.order (TR.castL th) (TR.castL nu)).map WData.int))
            rw [TR.order_is]
            exact .lst (L2.SqL.of hp) (L2.dw_ints _)
#print axioms PySem.Challenge.cw_threadrow_s03_order_holds
