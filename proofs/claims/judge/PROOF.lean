import PyProof.Rows.All
import Wide.All
import OpenK.AllK
import Wide.FinOn
import Open.SpecLaws
import KE.OsGo
import HandS.ForSpec
import HandS.ForMost
import PySem.Challenge.RW_threadrow_s04_judge
set_option Elab.async false
set_option linter.all false
set_option maxRecDepth 100000
set_option maxHeartbeats 4000000
namespace TR
open Eb

/-! ## lists -/
theorem getD_of {α : Type} {l : List α} {i : Nat} {x d : α} (h : l[i]? = some x) : l.getD i d = x := by
  rw [List.getD_eq_getElem?_getD, h]; rfl
theorem take_more {α : Type} {l : List α} {i : Nat} {x : α} (h : l[i]? = some x) : l.take (i + 1) = l.take i ++ [x] := by
  rw [List.take_add_one, h]; rfl
theorem drop_at {α : Type} {l : List α} {i : Nat} {x : α} (h : l[i]? = some x) : l.drop i = x :: l.drop (i + 1) := by
  obtain ⟨hi, e⟩ := List.getElem?_eq_some_iff.mp h
  rw [List.drop_eq_getElem_cons hi, e]
theorem getD_map {α β : Type} (f : α → β) (l : List α) {i : Nat} {d : α} {d' : β} (h : i < l.length) : (l.map f).getD i d' = f (l.getD i d) := by
  rw [List.getD_eq_getElem?_getD, List.getD_eq_getElem?_getD, List.getElem?_map, List.getElem?_eq_getElem h]; rfl

/-! ## bits -/
theorem and_eq_iff (a d : Nat) : (a &&& d == a) = true ↔ ∀ i, a.testBit i = true → d.testBit i = true := by
  rw [beq_iff_eq]
  constructor
  · intro h i hi
    have e := congrArg (fun n => n.testBit i) h
    simp only [Nat.testBit_and, hi, Bool.true_and] at e
    exact e
  · intro h
    apply Nat.eq_of_testBit_eq
    intro i
    rw [Nat.testBit_and]
    cases e : a.testBit i with
    | false => rfl
    | true => rw [h i e]; rfl
theorem testBit_lt {a j i : Nat} (h : a < 2 ^ j) (hi : a.testBit i = true) : i < j := by
  by_cases c : i < j
  · exact c
  · have : a < 2 ^ i := Nat.lt_of_lt_of_le h (Nat.pow_le_pow_right (by decide) (by omega))
    rw [Nat.testBit_lt_two_pow this] at hi
    cases hi
theorem testBit_add_pow {d j i : Nat} (h : d.testBit j = false) : (d + 2 ^ j).testBit i = (d.testBit i || decide (i = j)) := by
  have hr : d % 2 ^ (j + 1) < 2 ^ j := by
    apply Nat.lt_pow_two_of_testBit
    intro k hk
    rw [Nat.testBit_mod_two_pow]
    by_cases c : k < j + 1
    · have : k = j := by omega
      subst this
      simp [h]
    · simp [c]
  have e : d + 2 ^ j = 2 ^ (j + 1) * (d / 2 ^ (j + 1)) + (d % 2 ^ (j + 1) + 2 ^ j) := by
    have := Nat.div_add_mod d (2 ^ (j + 1))
    omega
  have hlt : d % 2 ^ (j + 1) + 2 ^ j < 2 ^ (j + 1) := by
    have e4 : 2 ^ (j + 1) = 2 ^ j + 2 ^ j := by rw [Nat.pow_succ]; omega
    rw [e4] at hr ⊢
    exact Nat.add_lt_add_right hr _
  have e2 : d = 2 ^ (j + 1) * (d / 2 ^ (j + 1)) + d % 2 ^ (j + 1) := (Nat.div_add_mod d (2 ^ (j + 1))).symm
  rw [e, Nat.testBit_two_pow_mul_add _ hlt]
  have e3 : d.testBit i = if i < j + 1 then (d % 2 ^ (j + 1)).testBit i else (d / 2 ^ (j + 1)).testBit (i - (j + 1)) := by
    rw [← Nat.testBit_two_pow_mul_add _ (Nat.mod_lt _ (Nat.two_pow_pos _)), ← e2]
  rw [e3]
  by_cases c : i < j + 1
  · rw [if_pos c, if_pos c, ← Nat.or_two_pow_eq_add_of_lt hr, Nat.testBit_or, Nat.testBit_two_pow]
    congr 1
    exact decide_eq_decide.mpr ⟨Eq.symm, Eq.symm⟩
  · rw [if_neg c, if_neg c]
    have : decide (i = j) = false := decide_eq_false (by omega)
    rw [this, Bool.or_false]

/-! ## the mirror of the orders' defs, over natural numbers -/
def mayFollow (nu : List Nat) (d j : Nat) : Bool := !d.testBit j && (nu.getD j 0 &&& d == nu.getD j 0)
def runOk (nu : List Nat) : List Nat → Nat → Bool
  | [], _ => true
  | j :: r, d => if j < nu.length then (if mayFollow nu d j = true then runOk nu r (d + 2 ^ j) else false) else false
def orderOk (nu tr : List Nat) : Bool := if tr.length = nu.length then runOk nu tr 0 else false
def chg (th : List Nat) : List Nat → Nat
  | a :: b :: r => (if th.getD a 0 ≠ th.getD b 0 then 1 else 0) + chg th (b :: r)
  | _ => 0
/-- the task's check from shape j on -/
def boundsFrom (nu : List Nat) (j : Nat) : Bool := (nu.drop j).zipIdx j |>.all fun x => decide (x.1 < 2 ^ x.2)
def taskOk (th nu : List Nat) : Bool := if th.length = 0 ∨ 12 < th.length then false else if nu.length ≠ th.length then false else boundsFrom nu 0

theorem chg_is (th nu : List Nat) : ∀ p : List Nat, changes ⟨th, nu⟩ p = chg th p
  | [] => rfl
  | [_] => rfl
  | a :: b :: r => by
    have ih := chg_is th nu (b :: r)
    unfold chg
    rw [← ih]
    show (List.filter _ ((a, b) :: ((b :: r).zip r))).length = _
    rw [List.filter_cons]
    show (if (th.getD a 0 != th.getD b 0) = true then _ else _ : List (Nat × Nat)).length = _ + (List.filter _ ((b :: r).zip ((b :: r).drop 1))).length
    by_cases c : th.getD a 0 = th.getD b 0
    · rw [if_neg (fun h => absurd c (bne_iff_ne.mp h)), if_neg (fun h => h c), Nat.zero_add]
      rfl
    · rw [if_pos (bne_iff_ne.mpr c), if_pos c, List.length_cons, Nat.add_comm]
      rfl
theorem boundsFrom_at {nu : List Nat} {j x : Nat} (h : nu[j]? = some x) : boundsFrom nu j = (decide (x < 2 ^ j) && boundsFrom nu (j + 1)) := by
  unfold boundsFrom
  rw [drop_at h]
  rfl
theorem boundsFrom_end {nu : List Nat} {j : Nat} (h : nu.length ≤ j) : boundsFrom nu j = true := by
  unfold boundsFrom
  rw [List.drop_eq_nil_of_le h]
  rfl
theorem taskOk_is (th nu : List Nat) : Wants.ok ⟨th, nu⟩ = taskOk th nu := by
  unfold Wants.ok taskOk
  by_cases c : th.length = 0 ∨ 12 < th.length
  · rw [if_pos c]
    rcases c with c | c
    · simp [c]
    · have : decide (th.length ≤ MOSTORDER) = false := decide_eq_false (by unfold MOSTORDER; omega)
      simp [this]
  · rw [if_neg c]
    have h1 : decide (1 ≤ th.length) = true := decide_eq_true (by omega)
    have h2 : decide (th.length ≤ MOSTORDER) = true := decide_eq_true (by unfold MOSTORDER; omega)
    simp only [h1, h2, Bool.true_and]
    by_cases c2 : nu.length = th.length
    · rw [if_neg (by simp [c2])]
      simp [c2, boundsFrom]
    · rw [if_pos c2]
      simp [c2]
structure TaskP (th nu : List Nat) : Prop where
  pos : 0 < th.length
  le : th.length ≤ 12
  eq : nu.length = th.length
  lt : ∀ j x, nu[j]? = some x → x < 2 ^ j
theorem bounds_all {nu : List Nat} (h : boundsFrom nu 0 = true) : ∀ j x, nu[j]? = some x → x < 2 ^ j := by
  intro j x e
  unfold boundsFrom at h
  rw [List.all_eq_true] at h
  have := h (x, j) (by
    rw [List.drop_zero, List.mem_zipIdx_iff_getElem?]
    simpa using e)
  exact of_decide_eq_true this
theorem taskOk_p {th nu : List Nat} (h : taskOk th nu = true) : TaskP th nu := by
  unfold taskOk at h
  by_cases c : th.length = 0 ∨ 12 < th.length
  · rw [if_pos c] at h; cases h
  · rw [if_neg c] at h
    by_cases c2 : nu.length ≠ th.length
    · rw [if_pos c2] at h; cases h
    · rw [if_neg c2] at h
      exact ⟨by omega, by omega, by omega, bounds_all h⟩

/-! ## is_order is isOrder -/
theorem nodup_all {n : Nat} {l : List Nat} (hn : l.length = n) (nd : l.Nodup) (lt : ∀ x ∈ l, x < n) : ∀ j, j < n → j ∈ l := by
  intro j hj
  apply Classical.byContradiction
  intro c
  have : (j :: l).length ≤ (List.range n).length := List.Nodup.length_le_of_subset (List.nodup_cons.mpr ⟨c, nd⟩) (by
    intro x hx
    rw [List.mem_range]
    rcases List.mem_cons.mp hx with e | e
    · omega
    · exact lt x e)
  rw [List.length_cons, List.length_range] at this
  omega
theorem all_nodup {n : Nat} {l : List Nat} (hn : l.length = n) (all : ∀ j, j < n → j ∈ l) : l.Nodup ∧ ∀ x ∈ l, x < n := by
  constructor
  · rw [List.nodup_iff_count]
    intro a
    apply Classical.byContradiction
    intro c
    have h2 : 2 ≤ l.count a := by omega
    have ha : a ∈ l := List.count_pos_iff.mp (by omega)
    have : (List.range n).length ≤ (l.erase a).length := List.Nodup.length_le_of_subset List.nodup_range (by
      intro x hx
      rw [List.mem_range] at hx
      by_cases e : x = a
      · subst e
        apply List.count_pos_iff.mp
        rw [List.count_erase_self]
        omega
      · exact (List.mem_erase_of_ne e).mpr (all x hx))
    rw [List.length_range, List.length_erase_of_mem ha] at this
    have := List.length_pos_of_mem ha
    omega
  · intro x hx
    apply Classical.byContradiction
    intro c
    have : (x :: List.range n).length ≤ l.length := List.Nodup.length_le_of_subset (List.nodup_cons.mpr ⟨by rw [List.mem_range]; exact c, List.nodup_range⟩) (by
      intro y hy
      rcases List.mem_cons.mp hy with e | e
      · rw [e]; exact hx
      · exact all y (List.mem_range.mp e))
    rw [List.length_cons, List.length_range] at this
    omega
def Good (n : Nat) (bef : Nat → Nat → Bool) : List Nat → List Nat → Prop
  | _, [] => True
  | pre, j :: r => j < n ∧ j ∉ pre ∧ (∀ i, bef i j = true → i ∈ pre) ∧ Good n bef (pre ++ [j]) r
theorem good_iff (n : Nat) (bef : Nat → Nat → Bool) : ∀ (p pre : List Nat), Good n bef pre p ↔ ∀ b x, p[b]? = some x → x < n ∧ x ∉ pre ++ p.take b ∧ ∀ i, bef i x = true → i ∈ pre ++ p.take b
  | [], pre => by
    constructor
    · intro _ b x h
      simp at h
    · intro _
      trivial
  | j :: r, pre => by
    have ih := good_iff n bef r (pre ++ [j])
    constructor
    · rintro ⟨h1, h2, h3, h4⟩ b x hb
      cases b with
      | zero =>
        have e : j = x := Option.some.inj hb
        subst e
        rw [List.take_zero, List.append_nil]
        exact ⟨h1, h2, h3⟩
      | succ b =>
        have := ih.mp h4 b x hb
        rw [List.append_assoc] at this
        exact this
    · intro h
      have h0 := h 0 j rfl
      rw [List.take_zero, List.append_nil] at h0
      refine ⟨h0.1, h0.2.1, h0.2.2, ih.mpr fun b x hb => ?_⟩
      have := h (b + 1) x hb
      rw [List.append_assoc]
      exact this
theorem mayFollow_iff {nu : List Nat} {d j : Nat} {pre : List Nat} (hd : ∀ i, d.testBit i = true ↔ i ∈ pre) : mayFollow nu d j = true ↔ j ∉ pre ∧ ∀ i, (nu.getD j 0).testBit i = true → i ∈ pre := by
  unfold mayFollow
  rw [Bool.and_eq_true, and_eq_iff, Bool.not_eq_true', ← Bool.not_eq_true, hd]
  exact and_congr Iff.rfl (forall_congr' fun i => by rw [hd])
theorem runOk_iff (nu : List Nat) : ∀ (p pre : List Nat) (d : Nat), (∀ i, d.testBit i = true ↔ i ∈ pre) → (runOk nu p d = true ↔ Good nu.length (fun i j => (nu.getD j 0).testBit i) pre p)
  | [], pre, d, hd => by
    unfold runOk Good
    simp
  | j :: r, pre, d, hd => by
    unfold runOk Good
    by_cases c : j < nu.length
    · rw [if_pos c]
      by_cases c2 : mayFollow nu d j = true
      · rw [if_pos c2]
        have c3 := (mayFollow_iff hd).mp c2
        have hf : d.testBit j = false := by
          cases e : d.testBit j with
          | false => rfl
          | true => exact absurd ((hd j).mp e) c3.1
        rw [runOk_iff nu r (pre ++ [j]) (d + 2 ^ j) (fun i => by
          rw [testBit_add_pow hf, Bool.or_eq_true, decide_eq_true_iff, hd, List.mem_append, List.mem_singleton])]
        exact ⟨fun h => ⟨c, c3.1, c3.2, h⟩, fun h => h.2.2.2⟩
      · rw [if_neg c2]
        constructor
        · intro h; cases h
        · rintro ⟨_, h2, h3, _⟩
          exact absurd ((mayFollow_iff hd).mpr ⟨h2, h3⟩) c2
    · rw [if_neg c]
      constructor
      · intro h; cases h
      · rintro ⟨h1, _⟩
        exact absurd h1 c
theorem nodup_of_take {p : List Nat} (h : ∀ b x, p[b]? = some x → x ∉ p.take b) : p.Nodup := by
  rw [List.nodup_iff_pairwise_ne, List.pairwise_iff_getElem]
  intro i j hi hj hij e
  refine h j _ (List.getElem?_eq_getElem hj) ?_
  rw [← e]
  rw [List.mem_take_iff_getElem]
  exact ⟨i, by omega, rfl⟩
theorem orderOk_is {th nu tr : List Nat} (T : TaskP th nu) : isOrder ⟨th, nu⟩ tr = orderOk nu tr := by
  unfold isOrder orderOk
  by_cases c : tr.length = nu.length
  · rw [if_pos c]
    have e1 : (tr.length == th.length) = true := by rw [c, T.eq]; exact beq_self_eq_true _
    show ((tr.length == th.length) && _) = _
    rw [e1, Bool.true_and]
    rw [Bool.eq_iff_iff, runOk_iff nu tr [] 0 (by intro i; simp), good_iff]
    rw [Bool.and_eq_true, List.all_eq_true, List.all_eq_true]
    have hn : tr.length = th.length := by rw [c, T.eq]
    constructor
    · rintro ⟨h1, h2⟩ b x hb
      obtain ⟨nd, lt⟩ := all_nodup (n := nu.length) c (fun j hj => by
        have := h1 j (by rw [List.mem_range]; show j < th.length; omega)
        exact List.contains_iff_mem.mp this)
      obtain ⟨hb1, hb2⟩ := List.getElem?_eq_some_iff.mp hb
      refine ⟨lt x (List.mem_of_getElem? hb), ?_, ?_⟩
      · rw [List.nil_append]
        intro hm
        rw [List.mem_take_iff_getElem] at hm
        obtain ⟨i, hi, e⟩ := hm
        rw [List.nodup_iff_pairwise_ne, List.pairwise_iff_getElem] at nd
        exact nd i b (by omega) hb1 (by omega) (by rw [e, hb2])
      · intro i hi
        rw [List.nil_append]
        have h3 := h2 b (List.mem_range.mpr hb1)
        rw [List.all_eq_true] at h3
        have hx : nu[x]? = some (nu.getD x 0) := by
          have : x < nu.length := lt x (List.mem_of_getElem? hb)
          rw [List.getD_eq_getElem?_getD, List.getElem?_eq_getElem this]; rfl
        have hix : i < x := testBit_lt (T.lt _ _ hx) hi
        have hx2 : x < nu.length := lt x (List.mem_of_getElem? hb)
        have h4 := h3 i (List.mem_range.mpr (by show i < th.length; have := T.eq; omega))
        have hg : tr.getD b 0 = x := getD_of hb
        rw [hg] at h4
        have hbf : Wants.before ⟨th, nu⟩ i x = true := hi
        rw [hbf, Bool.not_true, Bool.false_or] at h4
        exact List.contains_iff_mem.mp h4
    · intro h
      have nd : tr.Nodup := nodup_of_take fun b x hb => by
        have := (h b x hb).2.1
        rwa [List.nil_append] at this
      have lt : ∀ x ∈ tr, x < nu.length := fun x hx => by
        obtain ⟨b, hb⟩ := List.getElem?_of_mem hx
        exact (h b x hb).1
      refine ⟨fun j hj => List.contains_iff_mem.mpr (nodup_all c nd lt j (by have := List.mem_range.mp hj; have := T.eq; show j < nu.length; have h6 : j < th.length := List.mem_range.mp hj; omega)), fun b hb => ?_⟩
      rw [List.all_eq_true]
      intro i _
      have hb1 := List.mem_range.mp hb
      have hbx : tr[b]? = some (tr.getD b 0) := by
        rw [List.getD_eq_getElem?_getD, List.getElem?_eq_getElem hb1]; rfl
      have h3 := (h b _ hbx).2.2 i
      cases e : Wants.before ⟨th, nu⟩ i (tr.getD b 0) with
      | false => rfl
      | true =>
        rw [List.nil_append] at h3
        rw [Bool.not_true, Bool.false_or]
        exact List.contains_iff_mem.mpr (h3 e)
  · rw [if_neg c]
    have : (tr.length == th.length) = false := beq_eq_false_iff_ne.mpr (by have := T.eq; omega)
    show ((tr.length == th.length) && _) = _
    rw [this, Bool.false_and]

theorem runOk_lt {nu : List Nat} : ∀ {p : List Nat} {d : Nat}, runOk nu p d = true → ∀ x ∈ p, x < nu.length
  | [], _, _, x, hx => by cases hx
  | j :: r, d, h, x, hx => by
    unfold runOk at h
    by_cases c : j < nu.length
    · rw [if_pos c] at h
      by_cases c2 : mayFollow nu d j = true
      · rw [if_pos c2] at h
        rcases List.mem_cons.mp hx with e | e
        · rw [e]; exact c
        · exact runOk_lt h x e
      · rw [if_neg c2] at h
        cases h
    · rw [if_neg c] at h
      cases h
theorem orderOk_lt {nu tr : List Nat} (h : orderOk nu tr = true) : ∀ x ∈ tr, x < nu.length := by
  unfold orderOk at h
  by_cases c : tr.length = nu.length
  · rw [if_pos c] at h
    exact runOk_lt h
  · rw [if_neg c] at h
    cases h

/-! ## the specification of judge, of natural numbers -/
theorem nats_cast : ∀ l : List Nat, YqstfaNeutral.nats? (l.map fun (n : Nat) => (n : Int)) = some l
  | [] => rfl
  | n :: r => by
    have ih := nats_cast r
    unfold YqstfaNeutral.nats? at ih ⊢
    rw [List.map_cons, List.mapM_cons, ih]
    have : YqstfaNeutral.nat? (n : Int) = some n := by
      unfold YqstfaNeutral.nat?
      rw [if_pos (Int.natCast_nonneg n), Int.toNat_natCast]
    rw [this]
    rfl
def castL (l : List Nat) : List Int := l.map fun (n : Nat) => (n : Int)
def judgeM (th nu tr : List Nat) : List Int := if taskOk th nu = true then (if orderOk nu tr = true then [((chg th tr : Nat) : Int)] else [-3]) else [-1]
theorem judge_is (th nu tr : List Nat) : PyYqstfa.judge (castL th) (castL nu) (castL tr) = judgeM th nu tr := by
  show YqstfaNeutral.f [[4], castL th, castL nu, castL tr] = _
  have e : YqstfaNeutral.callOf [[4], castL th, castL nu, castL tr] = some (.judge ⟨th, nu⟩ tr) := by
    show (YqstfaNeutral.nats? (castL th)).bind (fun t => (YqstfaNeutral.nats? (castL nu)).bind fun o => (YqstfaNeutral.nats? (castL tr)).map fun p => Yqstfa.Call.judge ⟨t, o⟩ p) = _
    unfold castL
    rw [nats_cast, nats_cast, nats_cast]
    rfl
  unfold YqstfaNeutral.f
  rw [e]
  show YqstfaNeutral.told (if Wants.ok ⟨th, nu⟩ = true then (if isOrder ⟨th, nu⟩ tr = true then .count (changes ⟨th, nu⟩ tr) else .no (-3)) else .no (-1)) = _
  unfold judgeM
  rw [taskOk_is]
  by_cases c : taskOk th nu = true
  · rw [if_pos c, if_pos c, orderOk_is (taskOk_p c), chg_is]
    by_cases c2 : orderOk nu tr = true
    · rw [if_pos c2, if_pos c2]; rfl
    · rw [if_neg c2, if_neg c2]; rfl
  · rw [if_neg c, if_neg c]; rfl
end TR
namespace TR
open PySem PySem.Spec PyProof.Rows L2
/-! ## a def that is called, by its name -/
structure CallOk (P : Program) (w : World) (K : PySem.W.Frag) (mg : Str → Option Value) (base : Heap) (k : Nat) (x : Str) (ps : List Str) (sp : Sp) : Prop where
  ex : ∃ f fd, FnOk P w K mg base CX0 k f fd ps sp ∧ mg x = some (.ref f) ∧ PySem.W.keepIn K (.ref f) = true ∧ Binds K fd ps []
section
variable {X : Cx} {k : Nat} {x : Str} {ps : List Str} {sp : Sp} {p pos : Pos} {e : Expr} {es : List Expr} {t : TA}
theorem pe_cf (C : CallOk X.prog X.w X.K X.mg X.base k x ps sp) (hr : Room k X.A) (ha : PA X (e :: es) t) (hg : Gl X x := by rfl) (hdb : (x == ("__debug__" : Str)) = false := by decide)
    (he : starEach (e :: es) X.env = (false, eval e X.env) :: starEach es X.env := by rfl) (hpl : (backTo pos (starEach es X.env)).any (·.1) = false := by rfl) :
    PE X (.Call (.Name x p) (e :: es) [] pos) (tCall sp [] E0 t) := by
  obtain ⟨f, fd, F, hm, hk, hb⟩ := C
  exact pe_call F hr hg hm hk hb .nil pass0 ha hdb he hpl
end
/-- a constant of the top, an int -/
theorem pe_gi {X : Cx} {x : Str} {pos : Pos} {i : Int} (hm : ∃ t, X.mg x = some (.int i t)) (hg : Gl X x := by rfl) (hd : (x == ("__debug__" : Str)) = false := by decide) : PE X (.Name x pos) (tC (.int i)) := by
  obtain ⟨t, e⟩ := hm
  exact pe_glob hg e ⟨_, rfl⟩ hd
/-! ## values -/
abbrev iv (n : Nat) : V := .int (n : Int)
theorem iv_get {l : List Nat} {i : Nat} {x : Nat} (h : l[i]? = some x) : (l.map iv)[i]? = some (iv x) := by
  rw [List.getElem?_map, h]; rfl
theorem iv_at {l : List Nat} {i : Nat} {x : Nat} (h : l[i]? = some x) : atI (l.map iv) (i : Int) = some (iv x) := atI_nat (iv_get h)
theorem iv_of {l : List Nat} {i : Nat} {v : V} (h : (l.map iv)[i]? = some v) : ∃ x, l[i]? = some x ∧ v = iv x := by
  rw [List.getElem?_map] at h
  cases e : l[i]? with
  | none => rw [e] at h; cases h
  | some x => rw [e] at h; exact ⟨x, rfl, (Option.some.inj h).symm⟩
theorem get_of_lt {α : Type} {l : List α} {i : Nat} (h : i < l.length) : ∃ x, l[i]? = some x := ⟨l[i], List.getElem?_eq_getElem h⟩
theorem vint_iff {a b : Int} : decide (V.int a = V.int b) = true ↔ a = b := by
  rw [decide_eq_true_iff]
  exact ⟨V.int.inj, fun h => by rw [h]⟩
theorem vint_ne {a b : Int} : (!decide (V.int a = V.int b)) = true ↔ a ≠ b := by
  rw [Bool.not_eq_true', ← Bool.not_eq_true, vint_iff]
theorem sizeLine_big : 1000000 ≤ sizeLine := by decide
/-! ## heaps -/
theorem Same.fresh {H : Hp} {p : Addr} {o : HO} (h : H p = none) : Same H (upd H p o) := fun b x e => by
  rw [upd_ne (ne_of_none e h)]
  exact e
/-- a change at an address that was free at the start -/
theorem Same.over {H H' : Hp} {p : Addr} {o : HO} (s : Same H H') (h : H p = none) : Same H (upd H' p o) := fun b x e => by
  rw [upd_ne (ne_of_none e h)]
  exact s b x e
theorem Same.seqT {K : PySem.W.Frag} {H H' : Hp} {a : Addr} {xs : List V} (e : Same H H') (h : SqT K H a xs) : SqT K H' a xs := by
  rcases h with (h | ⟨o, h⟩) | h
  · exact .inl (.inl (e _ _ h))
  · exact .inl (.inr ⟨o, e _ _ h⟩)
  · exact .inr h
/-! ## loops over range(n), by naturals -/
theorem for_rng0 {m : Int} {n : Nat} (hm : m = (n : Int)) {g : TG} {tb : TS} {D : Ends} {σ : L2.St} {H : Hp} (Pv : Nat → L2.St → Hp → Prop) (h0 : Pv 0 σ H)
    (hs : ∀ i σ H, i < n → Pv i σ H → g (iv i) σ H fun σ2 H2 => tb { D with nx := Pv (i + 1), ct := Pv (i + 1), bk := D.nx } σ2 H2) (hd : ∀ σ H, Pv n σ H → D.nx σ H) :
    ∃ W : Nat → Nat → L2.St → Hp → Prop, (∃ m, W 0 m σ H) ∧ ∀ i k σ H, W i k σ H →
      ((Itr 0 m.toNat).stop i H ∧ D.nx σ H) ∨ ((Itr 0 m.toNat).go i H ∧ ∃ N : L2.St → Hp → Prop, (∀ σ' H', N σ' H' → ∃ m', m' < k ∧ W (i + 1) m' σ' H') ∧ ∀ x H', (Itr 0 m.toNat).yld i H x H' → g x σ H' fun σ2 H2 => tb { D with nx := N, ct := N, bk := D.nx } σ2 H2) := by
  subst hm
  rw [Int.toNat_natCast]
  refine for_range (lo := 0) (n := n) Pv h0 (fun i σ H hi p => ?_) hd
  rw [Int.zero_add]
  exact hs i σ H hi p
/-- range(1, n) -/
theorem for_rng1 {a m : Int} {n : Nat} (ha : a = 1) (hm : m = (n : Int)) {g : TG} {tb : TS} {D : Ends} {σ : L2.St} {H : Hp} (Pv : Nat → L2.St → Hp → Prop) (h0 : Pv 0 σ H)
    (hs : ∀ i σ H, i + 1 < n → Pv i σ H → g (iv (i + 1)) σ H fun σ2 H2 => tb { D with nx := Pv (i + 1), ct := Pv (i + 1), bk := D.nx } σ2 H2) (hd : ∀ σ H, Pv (n - 1) σ H → D.nx σ H) :
    ∃ W : Nat → Nat → L2.St → Hp → Prop, (∃ m, W 0 m σ H) ∧ ∀ i k σ H, W i k σ H →
      ((Itr a (m - a).toNat).stop i H ∧ D.nx σ H) ∨ ((Itr a (m - a).toNat).go i H ∧ ∃ N : L2.St → Hp → Prop, (∀ σ' H', N σ' H' → ∃ m', m' < k ∧ W (i + 1) m' σ' H') ∧ ∀ x H', (Itr a (m - a).toNat).yld i H x H' → g x σ H' fun σ2 H2 => tb { D with nx := N, ct := N, bk := D.nx } σ2 H2) := by
  subst ha hm
  have e : ((n : Int) - 1).toNat = n - 1 := by omega
  rw [e]
  refine for_range (lo := 1) (n := n - 1) Pv h0 (fun i σ H hi p => ?_) hd
  have e2 : (1 : Int) + (i : Int) = ((i + 1 : Nat) : Int) := by omega
  rw [e2]
  exact hs i σ H (by omega) p
end TR
namespace TR
open PySem PySem.Spec PyProof.Rows L2
/-! ## the text -/
def topS (i : Nat) : Stmt := PySem.Challenge.pw_threadrow_s04_judge.main.body.getD i (.Pass ⟨0, 0, 0, 0⟩)
abbrev s_bit : Stmt := topS 1
theorem sc_bit : FnScope ["i"] ["i"] (defScope s_bit) := ⟨rfl, rfl, rfl, by decide +kernel, rfl, by decide +kernel, by decide +kernel⟩
abbrev s_has : Stmt := topS 2
theorem sc_has : FnScope ["number", "i"] ["number", "i"] (defScope s_has) := ⟨rfl, rfl, rfl, by decide +kernel, rfl, by decide +kernel, by decide +kernel⟩
abbrev s_all_among : Stmt := topS 3
theorem sc_all_among : FnScope ["number", "done"] ["number", "done"] (defScope s_all_among) := ⟨rfl, rfl, rfl, by decide +kernel, rfl, by decide +kernel, by decide +kernel⟩
abbrev s_task_allowed : Stmt := topS 8
theorem sc_task_allowed : FnScope ["threads", "numbers", "j"] ["threads", "numbers"] (defScope s_task_allowed) := ⟨rfl, rfl, rfl, by decide +kernel, rfl, by decide +kernel, by decide +kernel⟩
abbrev s_may_follow : Stmt := topS 9
theorem sc_may_follow : FnScope ["numbers", "done", "j"] ["numbers", "done", "j"] (defScope s_may_follow) := ⟨rfl, rfl, rfl, by decide +kernel, rfl, by decide +kernel, by decide +kernel⟩
abbrev s_is_order : Stmt := topS 10
theorem sc_is_order : FnScope ["numbers", "tried", "done", "j"] ["numbers", "tried"] (defScope s_is_order) := ⟨rfl, rfl, rfl, by decide +kernel, rfl, by decide +kernel, by decide +kernel⟩
abbrev s_changes_of : Stmt := topS 11
theorem sc_changes_of : FnScope ["threads", "row", "many", "k"] ["threads", "row"] (defScope s_changes_of) := ⟨rfl, rfl, rfl, by decide +kernel, rfl, by decide +kernel, by decide +kernel⟩
abbrev s_judge : Stmt := topS 13
theorem sc_judge : FnScope ["threads", "numbers", "tried"] ["threads", "numbers", "tried"] (defScope s_judge) := ⟨rfl, rfl, rfl, by decide +kernel, rfl, by decide +kernel, by decide +kernel⟩
/-- what the top has of built-ins and constants -/
structure Txt (mg : Str → Option Value) : Prop where
  len : mg "len" = none
  range : mg "range" = none
  MOST_SHAPES : ∃ t, mg "MOST_SHAPES" = some (.int 12 t)
  REFUSED : ∃ t, mg "REFUSED" = some (.int (-1) t)
  NO_ORDER : ∃ t, mg "NO_ORDER" = some (.int (-3) t)
/-! ## the promises -/
def spBit : Sp := fun vs H Q _ => ∃ i : Nat, vs = [iv i] ∧ i ≤ 1000 ∧ Q (iv (2 ^ i)) H
def spHas : Sp := fun vs H Q _ => ∃ d i : Nat, vs = [iv d, iv i] ∧ Q (.bl (d.testBit i)) H
def spAmong : Sp := fun vs H Q _ => ∃ a d : Nat, vs = [iv a, iv d] ∧ Q (.bl (a &&& d == a)) H
def spFollow (K : PySem.W.Frag) : Sp := fun vs H Q _ => ∃ (a : Addr) (nu : List Nat) (d j : Nat), vs = [.ref a, iv d, iv j] ∧ SqL K H a (nu.map iv) ∧ j < nu.length ∧ Q (.bl (mayFollow nu d j)) H
def spTask (K : PySem.W.Frag) : Sp := fun vs H Q _ => ∃ (a b : Addr) (th nu : List Nat), vs = [.ref a, .ref b] ∧ SqL K H a (th.map iv) ∧ SqL K H b (nu.map iv) ∧ Q (.bl (taskOk th nu)) H
def spIsOrder (K : PySem.W.Frag) : Sp := fun vs H Q _ => ∃ (a b : Addr) (nu tr : List Nat), vs = [.ref a, .ref b] ∧ SqL K H a (nu.map iv) ∧ SqL K H b (tr.map iv) ∧ nu.length ≤ 12 ∧ Q (.bl (orderOk nu tr)) H
def spChanges (K : PySem.W.Frag) : Sp := fun vs H Q _ => ∃ (a b : Addr) (th row : List Nat), vs = [.ref a, .ref b] ∧ SqL K H a (th.map iv) ∧ SqL K H b (row.map iv) ∧ row.length ≤ 1000 ∧ (∀ x ∈ row, x < th.length) ∧ Q (iv (chg th row)) H
def spJudge (K : PySem.W.Frag) : Sp := fun vs H Q _ => ∃ (a b c : Addr) (th nu tr : List Nat), vs = [.ref a, .ref b, .ref c] ∧ SqL K H a (th.map iv) ∧ SqL K H b (nu.map iv) ∧ SqL K H c (tr.map iv) ∧ tr.length ≤ 30 ∧
  ∀ (H' : Hp) (p : Addr), H' p = some (.lst ((judgeM th nu tr).map V.int)) → Q (.ref p) H'
/-! ## numbers -/
theorem pow_iv (i : Nat) : (1 : Int) * 2 ^ ((i : Int)).toNat = ((2 ^ i : Nat) : Int) := by
  rw [Int.one_mul, Int.toNat_natCast]
  norm_cast
theorem shr_and (d i : Nat) : Builtin.bitAnd ((d : Int) / 2 ^ ((i : Int)).toNat) 1 = ((d / 2 ^ i % 2 : Nat) : Int) := by
  have e : (d : Int) / 2 ^ ((i : Int)).toNat = ((d / 2 ^ i : Nat) : Int) := by
    rw [Int.toNat_natCast]
    norm_cast
  rw [e, PyProof.Rows.bitAnd_pp (Int.natCast_nonneg _) (by decide), Int.toNat_natCast, show (1 : Int).toNat = 1 from rfl, Nat.and_one_is_mod]
theorem has_eq (d i : Nat) : decide (V.int (Builtin.bitAnd ((d : Int) / 2 ^ ((i : Int)).toNat) 1) = V.int 1) = d.testBit i := by
  rw [shr_and, Nat.testBit_eq_decide_div_mod_eq]
  refine decide_eq_decide.mpr ⟨fun h => ?_, fun h => ?_⟩
  · have := V.int.inj h
    omega
  · rw [h]; rfl
theorem among_eq (a d : Nat) : decide (V.int (Builtin.bitAnd (a : Int) (d : Int)) = V.int (a : Int)) = (a &&& d == a) := by
  rw [PyProof.Rows.bitAnd_pp (Int.natCast_nonneg _) (Int.natCast_nonneg _), Int.toNat_natCast, Int.toNat_natCast, Bool.beq_eq_decide_eq]
  refine decide_eq_decide.mpr ⟨fun h => ?_, fun h => ?_⟩
  · have := V.int.inj h
    omega
  · rw [h]
section
variable {P : Program} {w : World} {K : PySem.W.Frag} {mg : Str → Option Value} {base : Heap} {f : Addr} {fd : FuncData}
theorem ok_bit (F : Fun K "bit" "bit" s_bit f fd) : FnOk P w K mg base CX0 1 f fd ["i"] spBit := by
  refine F.ok sc_bit (fun vs H Q E h => ?_) (fun cdv A outer s H vs Q E hr h => ?_)
  · obtain ⟨i, rfl, _⟩ := h
    rfl
  · obtain ⟨i, rfl, hi, q⟩ := h
    refine ⟨_, (pss_one (ps_ret (pe_op op_shl pe_int (pv 0)))), ?_⟩
    refine ⟨_, rfl, _, _, rfl, rfl, ⟨by omega, by omega, by decide⟩, ?_⟩
    show Q (.int (1 * 2 ^ ((i : Int)).toNat)) H
    rw [pow_iv]
    exact q
theorem ok_has (F : Fun K "has" "has" s_has f fd) : FnOk P w K mg base CX0 1 f fd ["number", "i"] spHas := by
  refine F.ok sc_has (fun vs H Q E h => ?_) (fun cdv A outer s H vs Q E hr h => ?_)
  · obtain ⟨d, i, rfl, _⟩ := h
    rfl
  · obtain ⟨d, i, rfl, q⟩ := h
    refine ⟨_, (pss_one (ps_ret (pe_cmpR op_eq (pe_op op_and (pe_op op_shr (pv 0) (pv 1)) pe_int) pe_int (nomark _)))), ?_⟩
    refine ⟨_, rfl, _, rfl, _, _, rfl, rfl, by omega, _, _, rfl, rfl, rfl, ?_⟩
    rw [has_eq]
    exact q
theorem ok_all_among (F : Fun K "all_among" "all_among" s_all_among f fd) : FnOk P w K mg base CX0 1 f fd ["number", "done"] spAmong := by
  refine F.ok sc_all_among (fun vs H Q E h => ?_) (fun cdv A outer s H vs Q E hr h => ?_)
  · obtain ⟨a, d, rfl, _⟩ := h
    rfl
  · obtain ⟨a, d, rfl, q⟩ := h
    refine ⟨_, (pss_one (ps_ret (pe_cmpR op_eq (pe_op op_and (pv 0) (pv 1)) (pv 0) (nomark _)))), ?_⟩
    refine ⟨_, rfl, _, rfl, _, _, rfl, rfl, _, rfl, rfl, ?_⟩
    rw [among_eq]
    exact q
theorem ok_may_follow (F : Fun K "may_follow" "may_follow" s_may_follow f fd) (C_has : CallOk P w K mg base 1 "has" ["number", "i"] spHas) (C_all_among : CallOk P w K mg base 1 "all_among" ["number", "done"] spAmong) : FnOk P w K mg base CX0 2 f fd ["numbers", "done", "j"] (spFollow K) := by
  refine F.ok sc_may_follow (fun vs H Q E h => ?_) (fun cdv A outer s H vs Q E hr h => ?_)
  · obtain ⟨a, nu, d, j, rfl, _⟩ := h
    rfl
  · obtain ⟨a, nu, d, j, rfl, hA, hj, q⟩ := h
    refine ⟨_, (pss_one (ps_ret (pe_and (pe_not (pe_cf C_has (hr.mono (by decide)) (pa_cons (pv 1) (pa_cons (pv 2) pa_nil)))) (pe_one (pe_cf C_all_among (hr.mono (by decide)) (pa_cons (pe_ix ix_list (pv 0) (pv 2) (fun _ _ => rfl)) (pa_cons (pv 1) pa_nil))))))), ?_⟩
    obtain ⟨x, hx⟩ := get_of_lt hj
    refine ⟨_, rfl, _, rfl, d, j, rfl, _, rfl, _, rfl, ite2 (fun c => ?_) (fun c => ?_)⟩
    · refine ⟨_, rfl, _, rfl, a, _, _, _, rfl, rfl, hA, iv_at hx, _, rfl, x, d, rfl, ?_⟩
      have e : mayFollow nu d j = (x &&& d == x) := by
        unfold mayFollow
        rw [c, Bool.true_and, getD_of hx]
      rw [← e]
      exact q
    · have e : mayFollow nu d j = false := by
        unfold mayFollow
        rw [Bool.eq_false_iff.mpr c, Bool.false_and]
      rw [e] at q
      exact q
theorem ok_task_allowed (F : Fun K "task_allowed" "task_allowed" s_task_allowed f fd) (T : Txt mg) (C_bit : CallOk P w K mg base 1 "bit" ["i"] spBit) : FnOk P w K mg base CX0 2 f fd ["threads", "numbers"] (spTask K) := by
  refine F.ok sc_task_allowed (fun vs H Q E h => ?_) (fun cdv A outer s H vs Q E hr h => ?_)
  · obtain ⟨a, b, th, nu, rfl, _⟩ := h
    rfl
  · obtain ⟨a, b, th, nu, rfl, hA, hB, q⟩ := h
    refine ⟨_, (pss_cons (ps_if (PW.pt (pw_or (pt_cmpR op_eq (pe_callB call_len_seq (by rfl) T.len PySem.boot_len (pa_cons (pv 0) pa_nil)) pe_int (nomark _)) (pw_or1 (pt_cmpR op_gt (pe_callB call_len_seq (by rfl) T.len PySem.boot_len (pa_cons (pv 0) pa_nil)) (pe_gi T.MOST_SHAPES) (nomark _))))) (pss_one (ps_ret pe_bl)) pss_nil)
      (pss_cons (ps_if (pt_cmpR op_ne (pe_callB call_len_seq (by rfl) T.len PySem.boot_len (pa_cons (pv 1) pa_nil)) (pe_callB call_len_seq (by rfl) T.len PySem.boot_len (pa_cons (pv 0) pa_nil)) (nomark _)) (pss_one (ps_ret pe_bl)) pss_nil)
      (pss_cons (ps_for PassesOwn.never rfl (pi_range1 (by rfl) T.range (pa_cons (pe_callB call_len_seq (by rfl) T.len PySem.boot_len (pa_cons (pv 1) pa_nil)) pa_nil)) (pg_name (i := 2) sc_task_allowed.nd rfl (Or.inl rfl))
        (pss_one (ps_if (pt_cmpR op_ge (pe_ix ix_list (pv 1) (pv 2) (fun _ _ => rfl)) (pe_cf C_bit (hr.mono (by decide)) (pa_cons (pv 2) pa_nil)) (nomark _)) (pss_one (ps_ret pe_bl)) pss_nil)))
      (pss_one (ps_ret pe_bl))))), ?_⟩
    refine ⟨_, rfl, a, _, rfl, .inl hA, rfl, _, rfl, ite2 (fun c => iteT ?_) (fun c => ?_)⟩
    · have c1 : th.length = 0 := by
        have := vint_iff.mp c
        rw [List.length_map] at this
        omega
      have e : taskOk th nu = false := if_pos (.inl c1)
      rw [e] at q
      exact q
    have c1 : th.length ≠ 0 := fun z => c (vint_iff.mpr (by rw [List.length_map]; omega))
    refine ⟨_, rfl, a, _, rfl, .inl hA, _, _, rfl, rfl, _, rfl, ite2 (fun c => ?_) (fun c => ?_)⟩
    · have c2 : 12 < th.length := by
        have := of_decide_eq_true c
        rw [List.length_map] at this
        omega
      have e : taskOk th nu = false := if_pos (.inr c2)
      rw [e] at q
      exact q
    have c2 : ¬ 12 < th.length := fun z => c (decide_eq_true (by rw [List.length_map]; omega))
    refine ⟨_, rfl, b, _, rfl, .inl hB, _, rfl, a, _, rfl, .inl hA, rfl, _, rfl, ite2 (fun c => ?_) (fun c => ?_)⟩
    · have c3 : nu.length ≠ th.length := by
        have := vint_ne.mp c
        rw [List.length_map, List.length_map] at this
        omega
      have e : taskOk th nu = false := by
        unfold taskOk
        rw [if_neg (by omega), if_pos c3]
      rw [e] at q
      exact q
    have c3 : nu.length = th.length := Classical.byContradiction fun z => c (vint_ne.mpr (by rw [List.length_map, List.length_map]; omega))
    have e : taskOk th nu = boundsFrom nu 0 := by
      unfold taskOk
      rw [if_neg (by omega), if_neg (by omega)]
    rw [e] at q
    refine ⟨_, rfl, b, _, rfl, .inl hB, _, rfl, by omega, by rw [List.length_map]; omega, for_rng0 (n := nu.length) (by rw [List.length_map])
      (fun i σ H' => ∃ v, σ = [some (.ref a), some (.ref b), v] ∧ H' = H ∧ boundsFrom nu 0 = boundsFrom nu i) ⟨none, rfl, rfl, rfl⟩ ?_ ?_⟩
    · rintro i σ H' hi ⟨v, rfl, rfl, eb⟩
      obtain ⟨x, hx⟩ := get_of_lt hi
      refine ⟨_, rfl, _, rfl, b, _, _, _, rfl, rfl, hB, iv_at hx, _, rfl, i, rfl, by omega, _, _, rfl, rfl, _, rfl, ite2 (fun c => ?_) (fun c => ?_)⟩
      · have c4 : 2 ^ i ≤ x := by
          have := of_decide_eq_true c
          exact Int.ofNat_le.mp this
        rw [eb, boundsFrom_at hx, decide_eq_false (by omega), Bool.false_and] at q
        exact q
      · have c4 : x < 2 ^ i := by
          have c5 : ¬ ((2 ^ i : Nat) : Int) ≤ (x : Int) := fun z => c (decide_eq_true z)
          omega
        refine ⟨some (iv i), rfl, rfl, ?_⟩
        rw [eb, boundsFrom_at hx, decide_eq_true c4, Bool.true_and]
    · rintro σ H' ⟨v, rfl, rfl, eb⟩
      rw [eb, boundsFrom_end (Nat.le_refl _)] at q
      exact q
theorem ok_is_order (F : Fun K "is_order" "is_order" s_is_order f fd) (T : Txt mg) (C_bit : CallOk P w K mg base 1 "bit" ["i"] spBit) (C_may_follow : CallOk P w K mg base 2 "may_follow" ["numbers", "done", "j"] (spFollow K)) : FnOk P w K mg base CX0 3 f fd ["numbers", "tried"] (spIsOrder K) := by
  refine F.ok sc_is_order (fun vs H Q E h => ?_) (fun cdv A outer s H vs Q E hr h => ?_)
  · obtain ⟨a, b, nu, tr, rfl, _⟩ := h
    rfl
  · obtain ⟨a, b, nu, tr, rfl, hA, hB, hn, q⟩ := h
    refine ⟨_, (pss_cons (ps_if (pt_cmpR op_ne (pe_callB call_len_seq (by rfl) T.len PySem.boot_len (pa_cons (pv 1) pa_nil)) (pe_callB call_len_seq (by rfl) T.len PySem.boot_len (pa_cons (pv 0) pa_nil)) (nomark _)) (pss_one (ps_ret pe_bl)) pss_nil)
      (pss_cons (ps_set (i := 2) sc_is_order.nd rfl (Or.inl rfl) pe_int)
      (pss_cons (ps_for PassesOwn.never rfl (pi_list (pv 1)) (pg_name (i := 3) sc_is_order.nd rfl (Or.inl rfl))
        (pss_cons (ps_if (pt_cmpR op_ge (pv 3) (pe_callB call_len_seq (by rfl) T.len PySem.boot_len (pa_cons (pv 0) pa_nil)) (nomark _)) (pss_one (ps_ret pe_bl)) pss_nil)
        (pss_cons (ps_if (pt_not (pt_val (pe_cf C_may_follow (hr.mono (by decide)) (pa_cons (pv 0) (pa_cons (pv 2) (pa_cons (pv 3) pa_nil)))))) (pss_one (ps_ret pe_bl)) pss_nil)
        (pss_one (ps_aug (i := 2) sc_is_order.nd rfl (Or.inl rfl) (pe_cf C_bit (hr.mono (by decide)) (pa_cons (pv 3) pa_nil)) ip_add)))))
      (pss_one (ps_ret pe_bl))))), ?_⟩
    refine ⟨_, rfl, b, _, rfl, .inl hB, _, rfl, a, _, rfl, .inl hA, rfl, _, rfl, ite2 (fun c => ?_) (fun c => ?_)⟩
    · have c1 : tr.length ≠ nu.length := by
        have := vint_ne.mp c
        rw [List.length_map, List.length_map] at this
        omega
      have e : orderOk nu tr = false := if_neg c1
      rw [e] at q
      exact q
    have c1 : tr.length = nu.length := Classical.byContradiction fun z => c (vint_ne.mpr (by rw [List.length_map, List.length_map]; omega))
    have e : orderOk nu tr = runOk nu tr 0 := if_pos c1
    rw [e] at q
    refine ⟨_, rfl, b, rfl, ⟨_, hB⟩, for_list (K := K) (a := b) (xs := tr.map iv)
      (fun i σ H' => ∃ (d : Nat) (v : Option V), σ = [some (.ref a), some (.ref b), some (iv d), v] ∧ H' = H ∧ runOk nu tr 0 = runOk nu (tr.drop i) d) ⟨0, none, rfl, rfl, rfl⟩ (fun i σ H' _ ⟨_, _, _, e, _⟩ => e ▸ hB) ?_ ?_⟩
    · rintro i y σ H' hy ⟨d, v, rfl, rfl, er⟩
      obtain ⟨j, hj, rfl⟩ := iv_of hy
      rw [drop_at hj] at er
      refine ⟨_, rfl, _, rfl, a, _, rfl, .inl hA, _, _, rfl, rfl, _, rfl, ite2 (fun c => ?_) (fun c => ?_)⟩
      · have c2 : ¬ j < nu.length := by
          have := of_decide_eq_true c
          rw [List.length_map] at this
          omega
        have e2 : runOk nu tr 0 = false := by
          rw [er]
          exact if_neg c2
        rw [e2] at q
        exact q
      have c2 : j < nu.length := Classical.byContradiction fun z => c (decide_eq_true (by rw [List.length_map]; omega))
      have e2 : runOk nu tr 0 = if mayFollow nu d j = true then runOk nu (tr.drop (i + 1)) (d + 2 ^ j) else false := by
        rw [er]
        exact if_pos c2
      refine ⟨_, rfl, _, rfl, _, rfl, a, nu, d, j, rfl, hA, c2, _, rfl, ite2 (fun c => ?_) (fun c => ?_)⟩
      · rw [Bool.not_eq_true'] at c
        rw [c, if_neg Bool.false_ne_true] at e2
        rw [e2] at q
        exact q
      · have c3 : mayFollow nu d j = true := by
          cases z : mayFollow nu d j with
          | true => rfl
          | false => rw [z] at c; exact absurd rfl c
        rw [c3, if_pos rfl] at e2
        refine ⟨_, rfl, _, rfl, j, rfl, by omega, _, _, rfl, rfl, d + 2 ^ j, some (iv j), rfl, rfl, e2⟩
    · rintro σ H' ⟨d, v, rfl, rfl, er⟩
      have e2 : runOk nu tr 0 = true := by
        rw [er, List.length_map, List.drop_length]
        rfl
      rw [e2] at q
      exact q
theorem chg_at {th row : List Nat} {i a b : Nat} (ha : row[i]? = some a) (hb : row[i + 1]? = some b) : chg th (row.drop i) = (if th.getD a 0 ≠ th.getD b 0 then 1 else 0) + chg th (row.drop (i + 1)) := by
  rw [drop_at ha, drop_at hb]
  rfl
theorem chg_last {th row : List Nat} {i : Nat} (h : row.length ≤ i + 1) : chg th (row.drop i) = 0 := by
  cases e : row.drop i with
  | nil => rfl
  | cons x r =>
    have := congrArg List.length e
    rw [List.length_drop, List.length_cons] at this
    have h2 : r = [] := List.eq_nil_of_length_eq_zero (by omega)
    rw [h2]
    rfl
theorem ok_changes_of (F : Fun K "changes_of" "changes_of" s_changes_of f fd) (T : Txt mg) : FnOk P w K mg base CX0 1 f fd ["threads", "row"] (spChanges K) := by
  refine F.ok sc_changes_of (fun vs H Q E h => ?_) (fun cdv A outer s H vs Q E hr h => ?_)
  · obtain ⟨a, b, th, row, rfl, _⟩ := h
    rfl
  · obtain ⟨a, b, th, row, rfl, hA, hB, hl, ha, q⟩ := h
    refine ⟨_, (pss_cons (ps_set (i := 2) sc_changes_of.nd rfl (Or.inl rfl) pe_int)
      (pss_cons (ps_for PassesOwn.never rfl (pi_range2 (by rfl) T.range (pa_cons pe_int (pa_cons (pe_callB call_len_seq (by rfl) T.len PySem.boot_len (pa_cons (pv 1) pa_nil)) pa_nil))) (pg_name (i := 3) sc_changes_of.nd rfl (Or.inl rfl))
        (pss_one (ps_if (pt_cmpR op_ne (pe_ix ix_list (pv 0) (pe_ix ix_list (pv 1) (pe_op op_sub (pv 3) pe_int) (fun _ _ => rfl)) (fun _ _ => rfl)) (pe_ix ix_list (pv 0) (pe_ix ix_list (pv 1) (pv 3) (fun _ _ => rfl)) (fun _ _ => rfl)) (nomark _)) (pss_one (ps_aug (i := 2) sc_changes_of.nd rfl (Or.inl rfl) pe_int ip_add)) pss_nil)))
      (pss_one (ps_ret (pv 2))))), ?_⟩
    refine ⟨_, rfl, b, _, rfl, .inl hB, _, _, rfl, by rw [List.length_map]; omega, for_rng1 (n := row.length) rfl (by rw [List.length_map])
      (fun i σ H' => ∃ (m : Nat) (v : Option V), σ = [some (.ref a), some (.ref b), some (iv m), v] ∧ H' = H ∧ chg th row = m + chg th (row.drop i)) ⟨0, none, rfl, rfl, (Nat.zero_add _).symm⟩ ?_ ?_⟩
    · rintro i σ H' hi ⟨m, v, rfl, rfl, em⟩
      obtain ⟨x, hx⟩ := get_of_lt (show i < row.length by omega)
      obtain ⟨y, hy⟩ := get_of_lt hi
      obtain ⟨tx, htx⟩ := get_of_lt (ha x (List.mem_of_getElem? hx))
      obtain ⟨ty, hty⟩ := get_of_lt (ha y (List.mem_of_getElem? hy))
      rw [chg_at hx hy, getD_of htx, getD_of hty] at em
      have hx2 : atI (row.map iv) (((i + 1 : Nat) : Int) - 1) = some (iv x) := at_of (by omega) (iv_get hx)
      refine ⟨_, rfl, _, rfl, _, rfl, _, _, rfl, rfl, b, _, _, _, rfl, rfl, hB, hx2, a, _, _, _, rfl, rfl, hA, iv_at htx,
        _, rfl, _, rfl, _, rfl, b, _, _, _, rfl, rfl, hB, iv_at hy, a, _, _, _, rfl, rfl, hA, iv_at hty, rfl, _, rfl, ite2 (fun c => ?_) (fun c => ?_)⟩
      · have c1 : tx ≠ ty := by
          have := vint_ne.mp c
          omega
        rw [if_pos c1] at em
        exact ⟨_, rfl, _, _, rfl, rfl, m + 1, some (iv (i + 1)), rfl, rfl, by omega⟩
      · have c1 : ¬ tx ≠ ty := fun z => c (vint_ne.mpr (by omega))
        rw [if_neg c1] at em
        exact ⟨m, some (iv (i + 1)), rfl, rfl, by omega⟩
    · rintro σ H' ⟨m, v, rfl, rfl, em⟩
      rw [chg_last (by omega), Nat.add_zero] at em
      rw [em] at q
      exact ⟨_, rfl, q⟩
theorem ok_judge (F : Fun K "judge" "judge" s_judge f fd) (T : Txt mg) (C_task_allowed : CallOk P w K mg base 2 "task_allowed" ["threads", "numbers"] (spTask K)) (C_is_order : CallOk P w K mg base 3 "is_order" ["numbers", "tried"] (spIsOrder K))
    (C_changes_of : CallOk P w K mg base 1 "changes_of" ["threads", "row"] (spChanges K)) : FnOk P w K mg base CX0 4 f fd ["threads", "numbers", "tried"] (spJudge K) := by
  refine F.ok sc_judge (fun vs H Q E h => ?_) (fun cdv A outer s H vs Q E hr h => ?_)
  · obtain ⟨a, b, c, th, nu, tr, rfl, _⟩ := h
    rfl
  · obtain ⟨a, b, c, th, nu, tr, rfl, hA, hB, hC, hl, q⟩ := h
    refine ⟨_, (pss_cons (ps_if (pt_not (pt_val (pe_cf C_task_allowed (hr.mono (by decide)) (pa_cons (pv 0) (pa_cons (pv 1) pa_nil))))) (pss_one (ps_ret (pe_lst (pa_cons (pe_gi T.REFUSED) pa_nil)))) pss_nil)
      (pss_cons (ps_if (pt_not (pt_val (pe_cf C_is_order (hr.mono (by decide)) (pa_cons (pv 1) (pa_cons (pv 2) pa_nil))))) (pss_one (ps_ret (pe_lst (pa_cons (pe_gi T.NO_ORDER) pa_nil)))) pss_nil)
      (pss_one (ps_ret (pe_lst (pa_cons (pe_cf C_changes_of (hr.mono (by decide)) (pa_cons (pv 0) (pa_cons (pv 2) pa_nil))) pa_nil)))))), ?_⟩
    refine ⟨_, rfl, _, rfl, a, b, th, nu, rfl, hA, hB, _, rfl, ite2 (fun c => ?_) (fun c => ?_)⟩
    · rw [Bool.not_eq_true'] at c
      refine ⟨by decide, fun p hp => q _ p ?_⟩
      rw [upd_same]
      unfold judgeM
      rw [c, if_neg Bool.false_ne_true]
      rfl
    have c1 : taskOk th nu = true := by
      cases z : taskOk th nu with
      | true => rfl
      | false => rw [z] at c; exact absurd rfl c
    have TP := taskOk_p c1
    refine ⟨_, rfl, _, rfl, b, _, nu, tr, rfl, hB, hC, by have := TP.eq; have := TP.le; omega, _, rfl, ite2 (fun c => ?_) (fun c => ?_)⟩
    · rw [Bool.not_eq_true'] at c
      refine ⟨by decide, fun p hp => q _ p ?_⟩
      rw [upd_same]
      unfold judgeM
      rw [c1, c, if_pos rfl, if_neg Bool.false_ne_true]
      rfl
    have c2 : orderOk nu tr = true := by
      cases z : orderOk nu tr with
      | true => rfl
      | false => rw [z] at c; exact absurd rfl c
    refine ⟨_, rfl, _, rfl, a, _, th, tr, rfl, hA, hC, by omega, fun x hx => ?_, by show 1 ≤ sizeLine; decide, fun p hp => q _ p ?_⟩
    · rw [← TP.eq]
      exact orderOk_lt c2 x hx
    · rw [upd_same]
      unfold judgeM
      rw [c1, c2, if_pos rfl, if_pos rfl]
      rfl
end
end TR
namespace TR
open PySem PySem.Spec PyProof.Rows L2
/-! ## what the top has written -/
theorem all_mk {P : Program} {w : World} {K : PySem.W.Frag} {h : Heap} {mg : Str → Option Value} {fa : Addr} (X : K.In h) (G : h.Ns mainGlobals mg) (hfa : mg "judge" = some (.ref fa))
    {f_bit f_has f_all_among f_task_allowed f_may_follow f_is_order f_changes_of f_judge : Addr} {od_bit an_bit od_has an_has od_all_among an_all_among od_task_allowed an_task_allowed od_may_follow an_may_follow od_is_order an_is_order od_changes_of an_changes_of od_judge an_judge : Option Addr} {sl_bit sl_has sl_all_among sl_task_allowed sl_may_follow sl_is_order sl_changes_of sl_judge : Array (Option Value)} {oc_bit kV_bit dc_bit pm_bit cd_bit ct_bit oc_has kV_has dc_has pm_has cd_has ct_has oc_all_among kV_all_among dc_all_among pm_all_among cd_all_among ct_all_among oc_task_allowed kV_task_allowed dc_task_allowed pm_task_allowed cd_task_allowed ct_task_allowed oc_may_follow kV_may_follow dc_may_follow pm_may_follow cd_may_follow ct_may_follow oc_is_order kV_is_order dc_is_order pm_is_order cd_is_order ct_is_order oc_changes_of kV_changes_of dc_changes_of pm_changes_of cd_changes_of ct_changes_of oc_judge kV_judge dc_judge pm_judge cd_judge ct_judge : Value}
    {tk_MOST_SHAPES tk_REFUSED tk_NO_ORDER : Tok}
    (a_bit : PySem.W.nsIn K mainGlobals "bit" = some (some (.ref f_bit))) (l_bit : K.lookup f_bit = some ⟨oc_bit, od_bit, .func (PySem.W.fnOf "bit" "bit" (defArgs s_bit) (defBody s_bit) (defScope s_bit) .none kV_bit dc_bit pm_bit an_bit cd_bit ct_bit), sl_bit⟩) (c_bit : PySem.W.codeIn K cd_bit "bit" = true) (k_bit : PySem.W.keepIn K (.ref f_bit) = true)
    (a_has : PySem.W.nsIn K mainGlobals "has" = some (some (.ref f_has))) (l_has : K.lookup f_has = some ⟨oc_has, od_has, .func (PySem.W.fnOf "has" "has" (defArgs s_has) (defBody s_has) (defScope s_has) .none kV_has dc_has pm_has an_has cd_has ct_has), sl_has⟩) (c_has : PySem.W.codeIn K cd_has "has" = true) (k_has : PySem.W.keepIn K (.ref f_has) = true)
    (a_all_among : PySem.W.nsIn K mainGlobals "all_among" = some (some (.ref f_all_among))) (l_all_among : K.lookup f_all_among = some ⟨oc_all_among, od_all_among, .func (PySem.W.fnOf "all_among" "all_among" (defArgs s_all_among) (defBody s_all_among) (defScope s_all_among) .none kV_all_among dc_all_among pm_all_among an_all_among cd_all_among ct_all_among), sl_all_among⟩) (c_all_among : PySem.W.codeIn K cd_all_among "all_among" = true) (k_all_among : PySem.W.keepIn K (.ref f_all_among) = true)
    (a_task_allowed : PySem.W.nsIn K mainGlobals "task_allowed" = some (some (.ref f_task_allowed))) (l_task_allowed : K.lookup f_task_allowed = some ⟨oc_task_allowed, od_task_allowed, .func (PySem.W.fnOf "task_allowed" "task_allowed" (defArgs s_task_allowed) (defBody s_task_allowed) (defScope s_task_allowed) .none kV_task_allowed dc_task_allowed pm_task_allowed an_task_allowed cd_task_allowed ct_task_allowed), sl_task_allowed⟩) (c_task_allowed : PySem.W.codeIn K cd_task_allowed "task_allowed" = true) (k_task_allowed : PySem.W.keepIn K (.ref f_task_allowed) = true)
    (a_may_follow : PySem.W.nsIn K mainGlobals "may_follow" = some (some (.ref f_may_follow))) (l_may_follow : K.lookup f_may_follow = some ⟨oc_may_follow, od_may_follow, .func (PySem.W.fnOf "may_follow" "may_follow" (defArgs s_may_follow) (defBody s_may_follow) (defScope s_may_follow) .none kV_may_follow dc_may_follow pm_may_follow an_may_follow cd_may_follow ct_may_follow), sl_may_follow⟩) (c_may_follow : PySem.W.codeIn K cd_may_follow "may_follow" = true) (k_may_follow : PySem.W.keepIn K (.ref f_may_follow) = true)
    (a_is_order : PySem.W.nsIn K mainGlobals "is_order" = some (some (.ref f_is_order))) (l_is_order : K.lookup f_is_order = some ⟨oc_is_order, od_is_order, .func (PySem.W.fnOf "is_order" "is_order" (defArgs s_is_order) (defBody s_is_order) (defScope s_is_order) .none kV_is_order dc_is_order pm_is_order an_is_order cd_is_order ct_is_order), sl_is_order⟩) (c_is_order : PySem.W.codeIn K cd_is_order "is_order" = true) (k_is_order : PySem.W.keepIn K (.ref f_is_order) = true)
    (a_changes_of : PySem.W.nsIn K mainGlobals "changes_of" = some (some (.ref f_changes_of))) (l_changes_of : K.lookup f_changes_of = some ⟨oc_changes_of, od_changes_of, .func (PySem.W.fnOf "changes_of" "changes_of" (defArgs s_changes_of) (defBody s_changes_of) (defScope s_changes_of) .none kV_changes_of dc_changes_of pm_changes_of an_changes_of cd_changes_of ct_changes_of), sl_changes_of⟩) (c_changes_of : PySem.W.codeIn K cd_changes_of "changes_of" = true) (k_changes_of : PySem.W.keepIn K (.ref f_changes_of) = true)
    (a_judge : PySem.W.nsIn K mainGlobals "judge" = some (some (.ref f_judge))) (l_judge : K.lookup f_judge = some ⟨oc_judge, od_judge, .func (PySem.W.fnOf "judge" "judge" (defArgs s_judge) (defBody s_judge) (defScope s_judge) .none kV_judge dc_judge pm_judge an_judge cd_judge ct_judge), sl_judge⟩) (c_judge : PySem.W.codeIn K cd_judge "judge" = true) (k_judge : PySem.W.keepIn K (.ref f_judge) = true)
    (z_len : PySem.W.nsIn K mainGlobals "len" = some none)
    (z_range : PySem.W.nsIn K mainGlobals "range" = some none)
    (g_MOST_SHAPES : PySem.W.nsIn K mainGlobals "MOST_SHAPES" = some (some (.int (12) tk_MOST_SHAPES)))
    (g_REFUSED : PySem.W.nsIn K mainGlobals "REFUSED" = some (some (.int (-1) tk_REFUSED)))
    (g_NO_ORDER : PySem.W.nsIn K mainGlobals "NO_ORDER" = some (some (.int (-3) tk_NO_ORDER)))
    : ∃ fd : FuncData, (∀ (s : Shared) (us : List Value), us.length = (["threads", "numbers", "tried"] : List Str).length → BindsTo s fd ⟨us, []⟩ ((["threads", "numbers", "tried"] : List Str).zip us)) ∧ ∀ base : Heap, K.In base → base.Ns mainGlobals mg → FnOk P w K mg base CX0 4 fa fd ["threads", "numbers", "tried"] (spJudge K) := by
  have e := hfa.symm.trans (PySem.W.mg_of X G a_judge)
  cases e
  have T : Txt mg := { len := PySem.W.mg_none_of X G z_len, range := PySem.W.mg_none_of X G z_range, MOST_SHAPES := ⟨_, PySem.W.mg_of X G g_MOST_SHAPES⟩, REFUSED := ⟨_, PySem.W.mg_of X G g_REFUSED⟩, NO_ORDER := ⟨_, PySem.W.mg_of X G g_NO_ORDER⟩ }
  have F_bit := fun_mk (st := s_bit) l_bit c_bit k_bit
  have F_has := fun_mk (st := s_has) l_has c_has k_has
  have F_all_among := fun_mk (st := s_all_among) l_all_among c_all_among k_all_among
  have F_task_allowed := fun_mk (st := s_task_allowed) l_task_allowed c_task_allowed k_task_allowed
  have F_may_follow := fun_mk (st := s_may_follow) l_may_follow c_may_follow k_may_follow
  have F_is_order := fun_mk (st := s_is_order) l_is_order c_is_order k_is_order
  have F_changes_of := fun_mk (st := s_changes_of) l_changes_of c_changes_of k_changes_of
  have F_judge := fun_mk (st := s_judge) l_judge c_judge k_judge
  refine ⟨PySem.W.fnOf "judge" "judge" (defArgs s_judge) (defBody s_judge) (defScope s_judge) .none kV_judge dc_judge pm_judge an_judge cd_judge ct_judge, fun s us hu => match us, hu with | [_, _, _], _ => .of_eq rfl, fun base _ _ => ?_⟩
  have C_bit : CallOk P w K mg base 1 "bit" ["i"] spBit := ⟨⟨_, _, ok_bit F_bit , PySem.W.mg_of X G a_bit, k_bit, F_bit.binds (ps := ["i"]) fun _ _ _ _ _ _ us hl => match us, hl with | [_], _ => rfl⟩⟩
  have C_has : CallOk P w K mg base 1 "has" ["number", "i"] spHas := ⟨⟨_, _, ok_has F_has , PySem.W.mg_of X G a_has, k_has, F_has.binds (ps := ["number", "i"]) fun _ _ _ _ _ _ us hl => match us, hl with | [_, _], _ => rfl⟩⟩
  have C_all_among : CallOk P w K mg base 1 "all_among" ["number", "done"] spAmong := ⟨⟨_, _, ok_all_among F_all_among , PySem.W.mg_of X G a_all_among, k_all_among, F_all_among.binds (ps := ["number", "done"]) fun _ _ _ _ _ _ us hl => match us, hl with | [_, _], _ => rfl⟩⟩
  have C_task_allowed : CallOk P w K mg base 2 "task_allowed" ["threads", "numbers"] (spTask K) := ⟨⟨_, _, ok_task_allowed F_task_allowed T C_bit, PySem.W.mg_of X G a_task_allowed, k_task_allowed, F_task_allowed.binds (ps := ["threads", "numbers"]) fun _ _ _ _ _ _ us hl => match us, hl with | [_, _], _ => rfl⟩⟩
  have C_may_follow : CallOk P w K mg base 2 "may_follow" ["numbers", "done", "j"] (spFollow K) := ⟨⟨_, _, ok_may_follow F_may_follow C_has C_all_among, PySem.W.mg_of X G a_may_follow, k_may_follow, F_may_follow.binds (ps := ["numbers", "done", "j"]) fun _ _ _ _ _ _ us hl => match us, hl with | [_, _, _], _ => rfl⟩⟩
  have C_is_order : CallOk P w K mg base 3 "is_order" ["numbers", "tried"] (spIsOrder K) := ⟨⟨_, _, ok_is_order F_is_order T C_bit C_may_follow, PySem.W.mg_of X G a_is_order, k_is_order, F_is_order.binds (ps := ["numbers", "tried"]) fun _ _ _ _ _ _ us hl => match us, hl with | [_, _], _ => rfl⟩⟩
  have C_changes_of : CallOk P w K mg base 1 "changes_of" ["threads", "row"] (spChanges K) := ⟨⟨_, _, ok_changes_of F_changes_of T, PySem.W.mg_of X G a_changes_of, k_changes_of, F_changes_of.binds (ps := ["threads", "row"]) fun _ _ _ _ _ _ us hl => match us, hl with | [_, _], _ => rfl⟩⟩
  exact ok_judge F_judge T C_task_allowed C_is_order C_changes_of
theorem castL_iv (l : List Nat) : (castL l).map V.int = l.map iv := by
  unfold castL
  rw [List.map_map]
  rfl
theorem nats_of : ∀ {l : List Int}, (∀ x ∈ l, 0 ≤ x) → ∃ th, l = castL th
  | [], _ => ⟨[], rfl⟩
  | x :: r, h => by
    obtain ⟨th, e⟩ := nats_of (l := r) fun y hy => h y (List.mem_cons_of_mem _ hy)
    refine ⟨x.toNat :: th, ?_⟩
    unfold castL at e ⊢
    rw [List.map_cons, ← e, Int.toNat_of_nonneg (h x (List.mem_cons_self ..))]
theorem list_in {lo : Nat} {hi : Nat} {l : List Int} (q : (PySem.W.Codec.inLen lo hi l && l.all (PySem.W.Codec.inInt 0 4294967295)) = true) : ∃ th : List Nat, l = castL th ∧ th.length ≤ hi := by
  rw [Bool.and_eq_true] at q
  obtain ⟨th, e⟩ := nats_of (l := l) fun x hx => (PySem.W.Codec.inInt_iff.mp (List.all_eq_true.mp q.2 x hx)).1
  refine ⟨th, e, ?_⟩
  have := (PySem.W.Codec.inNat_iff.mp q.1).2
  rw [e] at this
  unfold castL at this
  rw [List.length_map] at this
  exact this
end TR
open PySem PySem.W PyProof.Rows
set_option maxRecDepth 100000 in
set_option maxHeartbeats 8000000 in
theorem PySem.Challenge.cw_threadrow_s04_judge_holds : PySem.Challenge.rw_threadrow_s04_judge.Holds := by
  w_on; k_headS; (case hw => exact ⟨[.list [], .list [], .list []], by decide +kernel, by decide +kernel⟩)
  k_fillS
  refine L2.walk_specK (r := PySem.Challenge.rw_threadrow_s04_judge) (k := 4) (CX := L2.CX0) (ps := ["threads", "numbers", "tried"]) (sp := TR.spJudge) (by decide +kernel) rfl rfl ⟨rfl, by decide, by decide⟩ (fun w h Y => PySem.W.kIn_of Y) ?F ?S (fun _ _ _ _ z => z)
  case F =>
    intro w mg fa h Y KX G hmg
    refine' TR.all_mk KX G hmg ?a_bit ?l_bit ?c_bit ?k_bit ?a_has ?l_has ?c_has ?k_has ?a_all_among ?l_all_among ?c_all_among ?k_all_among ?a_task_allowed ?l_task_allowed ?c_task_allowed ?k_task_allowed ?a_may_follow ?l_may_follow ?c_may_follow ?k_may_follow ?a_is_order ?l_is_order ?c_is_order ?k_is_order ?a_changes_of ?l_changes_of ?c_changes_of ?k_changes_of ?a_judge ?l_judge ?c_judge ?k_judge ?z_len ?z_range ?g_MOST_SHAPES ?g_REFUSED ?g_NO_ORDER
    (case a_bit => k_is); (case l_bit => k_is); (case c_bit => k_is); (case k_bit => k_is); (case a_has => k_is); (case l_has => k_is)
    (case c_has => k_is); (case k_has => k_is); (case a_all_among => k_is); (case l_all_among => k_is); (case c_all_among => k_is); (case k_all_among => k_is)
    (case a_task_allowed => k_is); (case l_task_allowed => k_is); (case c_task_allowed => k_is); (case k_task_allowed => k_is); (case a_may_follow => k_is); (case l_may_follow => k_is)
    (case c_may_follow => k_is); (case k_may_follow => k_is); (case a_is_order => k_is); (case l_is_order => k_is); (case c_is_order => k_is); (case k_is_order => k_is)
    (case a_changes_of => k_is); (case l_changes_of => k_is); (case c_changes_of => k_is); (case k_changes_of => k_is); (case a_judge => k_is); (case l_judge => k_is)
    (case c_judge => k_is); (case k_judge => k_is); (case z_len => k_is); (case z_range => k_is); (case g_MOST_SHAPES => k_is); (case g_REFUSED => k_is)
    (case g_NO_ORDER => k_is)
  case S =>
    intro K H xs a hO hwi hask hx
    obtain ⟨x, y, z, u⟩ := a
    cases hx with
    | cons h1 hx =>
      cases hx with
      | cons h2 hx =>
        cases hx with
        | cons h3 hx =>
          cases hx
          cases h1 with
          | lst hs1 ha1 =>
            cases h2 with
            | lst hs2 ha2 =>
              cases h3 with
              | lst hs3 ha3 =>
                have e1 := L2.ints_dw x _ ha1
                have e2 := L2.ints_dw y _ ha2
                have e3 := L2.ints_dw z _ ha3
                subst e1 e2 e3
                have q : ((Codec.inLen 0 30 x && x.all (Codec.inInt 0 4294967295)) && ((Codec.inLen 0 30 y && y.all (Codec.inInt 0 4294967295)) && ((Codec.inLen 0 30 z && z.all (Codec.inInt 0 4294967295)) && true))) = true := hwi
                obtain ⟨q1, q⟩ := Bool.and_eq_true_iff.mp q
                obtain ⟨q2, q⟩ := Bool.and_eq_true_iff.mp q
                obtain ⟨q3, q⟩ := Bool.and_eq_true_iff.mp q
                obtain ⟨th, rfl, _⟩ := TR.list_in (l := x) q1
                obtain ⟨nu, rfl, _⟩ := TR.list_in (l := y) q2
                obtain ⟨tr, rfl, hl⟩ := TR.list_in (l := z) q3
                rw [TR.castL_iv] at hs1 hs2 hs3
                refine ⟨_, _, _, th, nu, tr, rfl, hs1, hs2, hs3, hl, fun H' p hp => ?_⟩
                show L2.Dw K H' (.ref p) (WData.list ((PyYqstfa.judge (TR.castL th) (TR.castL nu) (TR.castL tr)).map WData.int))
                rw [TR.judge_is]
                exact .lst (L2.SqL.of hp) (L2.dw_ints _)
#print axioms PySem.Challenge.cw_threadrow_s04_judge_holds
