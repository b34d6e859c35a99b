import PyProof.Rows.All
import Wide.All
import OpenK.AllK
import Wide.FinOn
import Open.SpecLaws
import KE.OsGo
import HandS.ForSpec
import HandS.CallLocal
import HandS.Comp
import HandS.NoneIn
import HandS.More
import PySem.Challenge.RW_roomnames_s01_answers
set_option Elab.async false
set_option maxRecDepth 100000
set_option maxHeartbeats 4000000
set_option linter.unusedVariables false
/-! # The plain law: how the flat list of calls is gone through, and what each call asks. No program in sight. -/
namespace Rn
open Sv46 (Abs Guest Walker Spot At)
/-- how many numbers stand behind a call's number and its object -/
def many (p : Int) : Nat := if p = 0 then 2 else if p = 1 then 0 else if p = 2 then 1 else if p = 3 then 0 else if p = 4 then 0 else if p = 5 then 0 else if p = 6 then 2 else if p = 7 then 1 else 0
theorem nine {p : Int} (h0 : 0 ≤ p) (h8 : p ≤ 8) : p = 0 ∨ p = 1 ∨ p = 2 ∨ p = 3 ∨ p = 4 ∨ p = 5 ∨ p = 6 ∨ p = 7 ∨ p = 8 := by omega
theorem shape_in {p : Int} {q : Nat × Nat} (h : PySv46.shape p = some q) : 0 ≤ p ∧ p ≤ 8 := by
  unfold PySv46.shape at h
  by_cases h0 : p = 0; · omega
  by_cases h1 : p = 1; · omega
  by_cases h2 : p = 2; · omega
  by_cases h3 : p = 3; · omega
  by_cases h4 : p = 4; · omega
  by_cases h5 : p = 5; · omega
  by_cases h6 : p = 6; · omega
  by_cases h7 : p = 7; · omega
  by_cases h8 : p = 8; · omega
  rw [if_neg h0, if_neg h1, if_neg h2, if_neg h3, if_neg h4, if_neg h5, if_neg h6, if_neg h7, if_neg h8] at h
  cases h
theorem shape_many {p : Int} (h0 : 0 ≤ p) (h8 : p ≤ 8) : PySv46.shape p = some (many p + 1, 0) := by
  rcases nine h0 h8 with e | e | e | e | e | e | e | e | e <;> subst e <;> rfl
/-- one call off the front -/
theorem call_front {p : Int} {r t : List Int} {c : List (List Int)} (h : PyFlat.call PySv46.shape (p :: r) = some (c, t)) :
    0 ≤ p ∧ p ≤ 8 ∧ ∃ (k : Int) (nums : List Int), r = k :: (nums ++ t) ∧ nums.length = many p ∧ c = [p :: k :: nums] := by
  unfold PyFlat.call at h
  dsimp only at h
  cases e : PySv46.shape p with
  | none =>
    rw [e] at h
    cases h
  | some q =>
    obtain ⟨h0, h8⟩ := shape_in e
    refine ⟨h0, h8, ?_⟩
    rw [shape_many h0 h8] at h
    dsimp only at h
    by_cases hl : r.length < many p + 1
    · rw [if_pos hl] at h
      cases h
    · rw [if_neg hl] at h
      have h2 : some ((p :: r.take (many p + 1)) :: ([] : List (List Int)), r.drop (many p + 1)) = some (c, t) := h
      obtain ⟨e1, e2⟩ := Prod.mk.inj (Option.some.inj h2)
      cases r with
      | nil => exact absurd (show ([] : List Int).length < many p + 1 from Nat.succ_pos _) hl
      | cons k r =>
        have e1' : [p :: k :: r.take (many p)] = c := e1
        have e2' : r.drop (many p) = t := e2
        refine ⟨k, r.take (many p), ?_, ?_, e1'.symm⟩
        · rw [← e2', List.take_append_drop]
        · rw [List.length_take]
          rw [List.length_cons] at hl
          omega
theorem whole_id (c : List (List Int)) : PySv46.whole c = c := by
  unfold PySv46.whole
  split <;> rfl
theorem map_whole (cs : List (List (List Int))) : cs.map PySv46.whole = cs := by
  have e : PySv46.whole = id := funext whole_id
  rw [e, List.map_id]
/-- what a call asks of the objects and of its numbers -/
structure CallOk (S : List Abs) (p k : Int) (nums : List Int) : Prop where
  p0 : 0 ≤ p
  p8 : p ≤ 8
  k0 : 0 ≤ k
  k8 : k < 8
  len : nums.length = many p
  guest : (p = 1 ∨ p = 2 ∨ p = 3 ∨ p = 4 ∨ p = 5) → ∃ x, S.getD k.toNat Abs.none = .guest x
  walker : (p = 7 ∨ p = 8) → ∃ x, S.getD k.toNat Abs.none = .walker x
  val : (p = 2 ∨ p = 7) → ∃ v : Nat, nums = [(v : Int)]
  two : (p = 0) → ∃ me n : Int, nums = [me, n]
  own : (p = 6) → ∃ (me : Nat) (n : Int), nums = [(me : Int), n] ∧ (me : Int) < 18446744073709551616
/-- what is left of the list of calls, from a place on, with the objects as they stand and what was answered so far -/
structure Left (ns : List Int) (i : Nat) (S : List Abs) (out : List Int) : Prop where
  le : i ≤ ns.length
  ex : ∃ (f : Nat) (cs : List (List (List Int))), PyFlat.calls PySv46.shape f (ns.drop i) = some cs ∧ PyInside.calls PySv46.bound cs = true ∧ Sv46Neutral.fits S cs = true ∧
    out ++ PyFlat.told (PyFlat.played Sv46Neutral.step S cs) = PySv46.answers ns
  few : (PySv46.answers ns).length ≤ 10000000
theorem Left.start {ns : List Int} (h : PySv46.answers_asked ns = true) : Left ns 0 Sv46Neutral.start [] := by
  unfold PySv46.answers_asked at h
  cases e : PyFlat.calls PySv46.shape ns.length ns with
  | none =>
    rw [e] at h
    cases h
  | some raw =>
    rw [e] at h
    dsimp only at h
    rw [map_whole] at h
    simp only [Bool.and_eq_true] at h
    obtain ⟨⟨⟨⟨_, _⟩, h3⟩, h4⟩, h5⟩ := h
    refine ⟨Nat.zero_le _, ⟨ns.length, raw, e, h3, ?_, ?_⟩, ?_⟩
    · unfold Sv46Neutral.asked at h4
      simp only [Bool.and_eq_true] at h4
      exact h4.2.2.2.1
    · show PyFlat.told (PyFlat.played Sv46Neutral.step Sv46Neutral.start raw) = PySv46.answers ns
      unfold PySv46.answers PySv46.calls
      rw [e]
      dsimp only
      rw [map_whole]
    · exact of_decide_eq_true h5
theorem Left.done {ns : List Int} {i : Nat} {S : List Abs} {out : List Int} (h : Left ns i S out) (hi : ¬ i < ns.length) : out = PySv46.answers ns := by
  obtain ⟨f, cs, h1, _, _, h4⟩ := h.ex
  have e : ns.drop i = [] := List.drop_eq_nil_of_le (by omega)
  rw [e] at h1
  have e2 : some ([] : List (List (List Int))) = some cs := by
    rw [← h1]
    cases f <;> rfl
  cases e2
  rw [← h4]
  show out = out ++ []
  rw [List.append_nil]
theorem Left.short {ns : List Int} {i : Nat} {S : List Abs} {out : List Int} (h : Left ns i S out) : out.length ≤ 10000000 := by
  obtain ⟨f, cs, _, _, _, h4⟩ := h.ex
  have e := congrArg List.length h4
  rw [List.length_append] at e
  have := h.few
  omega
theorem each_two {lo hi lo' hi' x y : Int} {b : List (Int × Int)} {l : List Int} (h : PyInside.each ((lo, hi) :: (lo', hi') :: b) (x :: y :: l) = true) : (lo ≤ x ∧ x ≤ hi) ∧ (lo' ≤ y ∧ y ≤ hi') := by
  simp only [PyInside.each, PyInside.within, Bool.and_eq_true, decide_eq_true_eq] at h
  exact ⟨h.1, h.2.1⟩
theorem each_one {lo hi x : Int} {b : List (Int × Int)} {l : List Int} (h : PyInside.each ((lo, hi) :: b) (x :: l) = true) : lo ≤ x ∧ x ≤ hi := by
  simp only [PyInside.each, PyInside.within, Bool.and_eq_true, decide_eq_true_eq] at h
  exact h.1
theorem len0 {l : List Int} (h : l.length = 0) : l = [] := List.length_eq_zero_iff.mp h
theorem len1 {l : List Int} (h : l.length = 1) : ∃ a, l = [a] := List.length_eq_one_iff.mp h
theorem len2 {l : List Int} (h : l.length = 2) : ∃ a b, l = [a, b] := by
  match l, h with
  | [a, b], _ => exact ⟨a, b, rfl⟩
theorem begun_guest {p : Int} {x : Abs} (hp : p.toNat % 10 < 6) (h : Sv46Neutral.begun p x = true) : ∃ y, x = .guest y := by
  cases x with
  | none => cases h
  | guest y => exact ⟨y, rfl⟩
  | walker y =>
    have h2 : 6 < p.toNat % 10 := of_decide_eq_true h
    omega
theorem begun_walker {p : Int} {x : Abs} (hp : ¬ p.toNat % 10 < 6) (h : Sv46Neutral.begun p x = true) : ∃ y, x = .walker y := by
  cases x with
  | none => cases h
  | walker y => exact ⟨y, rfl⟩
  | guest y =>
    have h2 : p.toNat % 10 < 6 := of_decide_eq_true h
    omega
theorem call_ok {S : List Abs} {p k : Int} {nums : List Int} (h0 : 0 ≤ p) (h8 : p ≤ 8) (len : nums.length = many p) (hb : PyInside.call PySv46.bound [p :: k :: nums] = true)
    (hf : ((p.toNat == 0 || p.toNat == 6) || Sv46Neutral.begun p (S.getD k.toNat Abs.none)) = true) : CallOk S p k nums := by
  have hE : PyInside.each (PySv46.bound p).1 (k :: nums) = true := by
    have h2 : (PyInside.each (PySv46.bound p).1 (k :: nums) && PyInside.lists (PySv46.bound p).2 []) = true := hb
    exact (Bool.and_eq_true_iff.mp h2).1
  have hk : 0 ≤ k ∧ k ≤ 7 := by
    rcases nine h0 h8 with e | e | e | e | e | e | e | e | e <;> subst e <;> exact each_one hE
  have hg : (p = 1 ∨ p = 2 ∨ p = 3 ∨ p = 4 ∨ p = 5) → ∃ x, S.getD k.toNat Abs.none = .guest x := by
    intro hp
    refine begun_guest (p := p) (by omega) ?_
    have e1 : (p.toNat == 0) = false := beq_eq_false_iff_ne.mpr (by omega)
    have e2 : (p.toNat == 6) = false := beq_eq_false_iff_ne.mpr (by omega)
    rw [e1, e2] at hf
    exact hf
  have hw : (p = 7 ∨ p = 8) → ∃ x, S.getD k.toNat Abs.none = .walker x := by
    intro hp
    refine begun_walker (p := p) (by omega) ?_
    have e1 : (p.toNat == 0) = false := beq_eq_false_iff_ne.mpr (by omega)
    have e2 : (p.toNat == 6) = false := beq_eq_false_iff_ne.mpr (by omega)
    rw [e1, e2] at hf
    exact hf
  refine ⟨h0, h8, hk.1, by omega, len, hg, hw, fun hp => ?_, fun hp => ?_, fun hp => ?_⟩
  · rcases hp with e | e <;> subst e
    · obtain ⟨v, rfl⟩ := len1 len
      have := (each_two hE).2
      exact ⟨v.toNat, by rw [Int.toNat_of_nonneg this.1]⟩
    · obtain ⟨v, rfl⟩ := len1 len
      have := (each_two hE).2
      exact ⟨v.toNat, by rw [Int.toNat_of_nonneg this.1]⟩
  · subst hp
    exact len2 len
  · subst hp
    obtain ⟨me, n, rfl⟩ := len2 len
    have := (each_two hE).2
    refine ⟨me.toNat, n, by rw [Int.toNat_of_nonneg this.1], ?_⟩
    rw [Int.toNat_of_nonneg this.1]
    omega
/-- one turn -/
theorem Left.turn {ns : List Int} {i : Nat} {S : List Abs} {out : List Int} (h : Left ns i S out) (hi : i < ns.length) : ∃ (p k : Int) (nums : List Int),
    ns[i]? = some p ∧ ns[i + 1]? = some k ∧ (ns.drop (i + 2)).take (many p) = nums ∧ i + 2 + many p ≤ ns.length ∧ CallOk S p k nums ∧
    Left ns (i + 2 + many p) (Sv46Neutral.step S [p :: k :: nums]).1 (out ++ (((Sv46Neutral.step S [p :: k :: nums]).2.length : Nat) : Int) :: (Sv46Neutral.step S [p :: k :: nums]).2) := by
  obtain ⟨f, cs, h1, h2, h3, h4⟩ := h.ex
  have ed : ns.drop i = ns[i] :: ns.drop (i + 1) := List.drop_eq_getElem_cons hi
  rw [ed] at h1
  cases f with
  | zero =>
    have h1' : (none : Option (List (List (List Int)))) = some cs := h1
    cases h1'
  | succ f =>
    unfold PyFlat.calls at h1
    cases e : PyFlat.call PySv46.shape (ns[i] :: ns.drop (i + 1)) with
    | none =>
      rw [e] at h1
      cases h1
    | some q =>
      obtain ⟨c, t⟩ := q
      rw [e] at h1
      dsimp only at h1
      obtain ⟨p0, p8, k, nums, er, el, ec⟩ := call_front e
      cases e2 : PyFlat.calls PySv46.shape f t with
      | none =>
        rw [e2] at h1
        cases h1
      | some ds =>
        rw [e2] at h1
        cases h1
        subst ec
        have hb : PyInside.call PySv46.bound [ns[i] :: k :: nums] = true ∧ PyInside.calls PySv46.bound ds = true := by
          have h2' : (PyInside.call PySv46.bound [ns[i] :: k :: nums] && PyInside.calls PySv46.bound ds) = true := h2
          exact Bool.and_eq_true_iff.mp h2'
        have hf : ((ns[i].toNat == 0 || ns[i].toNat == 6) || Sv46Neutral.begun ns[i] (S.getD k.toNat Abs.none)) = true ∧ Sv46Neutral.fits (Sv46Neutral.step S [ns[i] :: k :: nums]).1 ds = true := by
          have h3' : (((ns[i].toNat == 0 || ns[i].toNat == 6) || Sv46Neutral.begun ns[i] (S.getD k.toNat Abs.none)) && Sv46Neutral.fits (Sv46Neutral.step S [ns[i] :: k :: nums]).1 ds) = true := h3
          exact Bool.and_eq_true_iff.mp h3'
        have hlen : (ns.drop (i + 1)).length = (k :: (nums ++ t)).length := congrArg List.length er
        rw [List.length_drop, List.length_cons, List.length_append] at hlen
        have e3 : ns.drop (i + 2) = nums ++ t := by
          have := congrArg (List.drop 1) er
          rw [List.drop_drop] at this
          exact this
        have e4 : ns.drop (i + 2 + many ns[i]) = t := by
          rw [← List.drop_drop, e3, ← el]
          exact List.drop_left
        refine ⟨ns[i], k, nums, List.getElem?_eq_getElem hi, ?_, ?_, by omega, call_ok p0 p8 el hb.1 hf.1, by omega, ⟨f, ds, ?_, hb.2, hf.2, ?_⟩, h.few⟩
        · have := congrArg (fun l => l[0]?) er
          simp only [List.getElem?_drop, List.getElem?_cons_zero, Nat.add_zero] at this
          exact this
        · rw [e3, ← el]
          exact List.take_left
        · rw [e4]
          exact e2
        · rw [← h4]
          show (out ++ _) ++ PyFlat.told _ = out ++ (((Sv46Neutral.step S [ns[i] :: k :: nums]).2.length : Int) :: (Sv46Neutral.step S [ns[i] :: k :: nums]).2 ++ PyFlat.told (PyFlat.played Sv46Neutral.step (Sv46Neutral.step S [ns[i] :: k :: nums]).1 ds))
          rw [List.append_assoc]
end Rn
/-! # The heap: how a process lies in it; the promises of the defs; small rules -/
namespace Rn
open PySem PySem.Spec PyProof.Rows L2
open Sv46 (Abs Guest Walker Spot At)
theorem ifT {c : Bool} {A B : Prop} (hc : c = true) (h : A) : if c = true then A else B := by
  rw [if_pos hc]
  exact h
theorem ifF {c : Bool} {A B : Prop} (hc : c = false) (h : B) : if c = true then A else B := by
  rw [if_neg (by rw [hc]; exact Bool.false_ne_true)]
  exact h
theorem lkH {k : Str} {v : V} {r : List (Str × V)} : List.lookup k ((k, v) :: r) = some v := by
  rw [List.lookup_cons, beq_self_eq_true]
theorem lkP {k g : Str} {v : V} {r : List (Str × V)} {o : Option V} (h : (k == g) = false) (t : List.lookup k r = o) : List.lookup k ((g, v) :: r) = o := by
  rw [List.lookup_cons, h]
  exact t
theorem ptH {f : Str} {v x : V} {r : List (Str × V)} : putF f v ((f, x) :: r) = (f, v) :: r := if_pos rfl
theorem ptP {f g : Str} {v x : V} {r q : List (Str × V)} (h : ¬ g = f) (t : putF f v r = q) : putF f v ((g, x) :: r) = (g, x) :: q := by
  rw [← t]
  exact if_neg h
theorem ptN {f : Str} {v : V} : putF f v [] = [(f, v)] := rfl
/-! ### the fields -/
def gF (me n : Int) (st : Str) (o d g : Int) : List (Str × V) := [("me", .int me), ("n", .int n), ("stand", .str st), ("other", .int o), ("drawn", .int d), ("greatest", .int g)]
def wF (me n r q : Int) (st : Str) : List (Str × V) := [("me", .int me), ("n", .int n), ("row", .int r), ("place", .int q), ("stand", .str st)]
theorem gF_me {me n : Int} {st : Str} {o d g : Int} : (gF me n st o d g).lookup ("me" : Str) = some (.int me) := lkH
theorem gF_n {me n : Int} {st : Str} {o d g : Int} : (gF me n st o d g).lookup ("n" : Str) = some (.int n) := lkP (by decide +kernel) (lkH)
theorem gF_stand {me n : Int} {st : Str} {o d g : Int} : (gF me n st o d g).lookup ("stand" : Str) = some (.str st) := lkP (by decide +kernel) (lkP (by decide +kernel) (lkH))
theorem gF_other {me n : Int} {st : Str} {o d g : Int} : (gF me n st o d g).lookup ("other" : Str) = some (.int o) := lkP (by decide +kernel) (lkP (by decide +kernel) (lkP (by decide +kernel) (lkH)))
theorem gF_drawn {me n : Int} {st : Str} {o d g : Int} : (gF me n st o d g).lookup ("drawn" : Str) = some (.int d) := lkP (by decide +kernel) (lkP (by decide +kernel) (lkP (by decide +kernel) (lkP (by decide +kernel) (lkH))))
theorem gF_greatest {me n : Int} {st : Str} {o d g : Int} : (gF me n st o d g).lookup ("greatest" : Str) = some (.int g) := lkP (by decide +kernel) (lkP (by decide +kernel) (lkP (by decide +kernel) (lkP (by decide +kernel) (lkP (by decide +kernel) (lkH)))))
theorem gF_no_want {me n : Int} {st : Str} {o d g : Int} : (gF me n st o d g).lookup ("want" : Str) = none := lkP (by decide +kernel) (lkP (by decide +kernel) (lkP (by decide +kernel) (lkP (by decide +kernel) (lkP (by decide +kernel) (lkP (by decide +kernel) (rfl))))))
theorem gF_no_leave {me n : Int} {st : Str} {o d g : Int} : (gF me n st o d g).lookup ("leave" : Str) = none := lkP (by decide +kernel) (lkP (by decide +kernel) (lkP (by decide +kernel) (lkP (by decide +kernel) (lkP (by decide +kernel) (lkP (by decide +kernel) (rfl))))))
theorem gF_no_got {me n : Int} {st : Str} {o d g : Int} : (gF me n st o d g).lookup ("got" : Str) = none := lkP (by decide +kernel) (lkP (by decide +kernel) (lkP (by decide +kernel) (lkP (by decide +kernel) (lkP (by decide +kernel) (lkP (by decide +kernel) (rfl))))))
theorem gF_no_wrote {me n : Int} {st : Str} {o d g : Int} : (gF me n st o d g).lookup ("wrote" : Str) = none := lkP (by decide +kernel) (lkP (by decide +kernel) (lkP (by decide +kernel) (lkP (by decide +kernel) (lkP (by decide +kernel) (lkP (by decide +kernel) (rfl))))))
theorem gF_no_number {me n : Int} {st : Str} {o d g : Int} : (gF me n st o d g).lookup ("number" : Str) = none := lkP (by decide +kernel) (lkP (by decide +kernel) (lkP (by decide +kernel) (lkP (by decide +kernel) (lkP (by decide +kernel) (lkP (by decide +kernel) (rfl))))))
theorem gF_no_seen {me n : Int} {st : Str} {o d g : Int} : (gF me n st o d g).lookup ("seen" : Str) = none := lkP (by decide +kernel) (lkP (by decide +kernel) (lkP (by decide +kernel) (lkP (by decide +kernel) (lkP (by decide +kernel) (lkP (by decide +kernel) (rfl))))))
theorem gF_no_look_at {me n : Int} {st : Str} {o d g : Int} : (gF me n st o d g).lookup ("look_at" : Str) = none := lkP (by decide +kernel) (lkP (by decide +kernel) (lkP (by decide +kernel) (lkP (by decide +kernel) (lkP (by decide +kernel) (lkP (by decide +kernel) (rfl))))))
theorem gF_no_watched {me n : Int} {st : Str} {o d g : Int} : (gF me n st o d g).lookup ("watched" : Str) = none := lkP (by decide +kernel) (lkP (by decide +kernel) (lkP (by decide +kernel) (lkP (by decide +kernel) (lkP (by decide +kernel) (lkP (by decide +kernel) (rfl))))))
theorem gF_no_goes_behind {me n : Int} {st : Str} {o d g : Int} : (gF me n st o d g).lookup ("goes_behind" : Str) = none := lkP (by decide +kernel) (lkP (by decide +kernel) (lkP (by decide +kernel) (lkP (by decide +kernel) (lkP (by decide +kernel) (lkP (by decide +kernel) (rfl))))))
theorem gF_no_waited {me n : Int} {st : Str} {o d g : Int} : (gF me n st o d g).lookup ("waited" : Str) = none := lkP (by decide +kernel) (lkP (by decide +kernel) (lkP (by decide +kernel) (lkP (by decide +kernel) (lkP (by decide +kernel) (lkP (by decide +kernel) (rfl))))))
theorem gF_p_stand {me n : Int} {st : Str} {o d g : Int} {z : Str} : putF "stand" (.str z) (gF me n st o d g) = gF me n z o d g := ptP (by decide +kernel) (ptP (by decide +kernel) (ptH))
theorem gF_p_other {me n : Int} {st : Str} {o d g : Int} {z : Int} : putF "other" (.int z) (gF me n st o d g) = gF me n st z d g := ptP (by decide +kernel) (ptP (by decide +kernel) (ptP (by decide +kernel) (ptH)))
theorem gF_p_drawn {me n : Int} {st : Str} {o d g : Int} {z : Int} : putF "drawn" (.int z) (gF me n st o d g) = gF me n st o z g := ptP (by decide +kernel) (ptP (by decide +kernel) (ptP (by decide +kernel) (ptP (by decide +kernel) (ptH))))
theorem gF_p_greatest {me n : Int} {st : Str} {o d g : Int} {z : Int} : putF "greatest" (.int z) (gF me n st o d g) = gF me n st o d z := ptP (by decide +kernel) (ptP (by decide +kernel) (ptP (by decide +kernel) (ptP (by decide +kernel) (ptP (by decide +kernel) (ptH)))))
theorem wF_me {me n r q : Int} {st : Str} : (wF me n r q st).lookup ("me" : Str) = some (.int me) := lkH
theorem wF_n {me n r q : Int} {st : Str} : (wF me n r q st).lookup ("n" : Str) = some (.int n) := lkP (by decide +kernel) (lkH)
theorem wF_row {me n r q : Int} {st : Str} : (wF me n r q st).lookup ("row" : Str) = some (.int r) := lkP (by decide +kernel) (lkP (by decide +kernel) (lkH))
theorem wF_place {me n r q : Int} {st : Str} : (wF me n r q st).lookup ("place" : Str) = some (.int q) := lkP (by decide +kernel) (lkP (by decide +kernel) (lkP (by decide +kernel) (lkH)))
theorem wF_stand {me n r q : Int} {st : Str} : (wF me n r q st).lookup ("stand" : Str) = some (.str st) := lkP (by decide +kernel) (lkP (by decide +kernel) (lkP (by decide +kernel) (lkP (by decide +kernel) (lkH))))
theorem wF_no_here {me n r q : Int} {st : Str} : (wF me n r q st).lookup ("here" : Str) = none := lkP (by decide +kernel) (lkP (by decide +kernel) (lkP (by decide +kernel) (lkP (by decide +kernel) (lkP (by decide +kernel) (rfl)))))
theorem wF_no_go_on {me n r q : Int} {st : Str} : (wF me n r q st).lookup ("go_on" : Str) = none := lkP (by decide +kernel) (lkP (by decide +kernel) (lkP (by decide +kernel) (lkP (by decide +kernel) (lkP (by decide +kernel) (rfl)))))
theorem wF_no_got {me n r q : Int} {st : Str} : (wF me n r q st).lookup ("got" : Str) = none := lkP (by decide +kernel) (lkP (by decide +kernel) (lkP (by decide +kernel) (lkP (by decide +kernel) (lkP (by decide +kernel) (rfl)))))
theorem wF_no_wrote {me n r q : Int} {st : Str} : (wF me n r q st).lookup ("wrote" : Str) = none := lkP (by decide +kernel) (lkP (by decide +kernel) (lkP (by decide +kernel) (lkP (by decide +kernel) (lkP (by decide +kernel) (rfl)))))
theorem wF_no_tried {me n r q : Int} {st : Str} : (wF me n r q st).lookup ("tried" : Str) = none := lkP (by decide +kernel) (lkP (by decide +kernel) (lkP (by decide +kernel) (lkP (by decide +kernel) (lkP (by decide +kernel) (rfl)))))
theorem wF_no_looked {me n r q : Int} {st : Str} : (wF me n r q st).lookup ("looked" : Str) = none := lkP (by decide +kernel) (lkP (by decide +kernel) (lkP (by decide +kernel) (lkP (by decide +kernel) (lkP (by decide +kernel) (rfl)))))
theorem wF_p_row {me n r q : Int} {st : Str} {z : Int} : putF "row" (.int z) (wF me n r q st) = wF me n z q st := ptP (by decide +kernel) (ptP (by decide +kernel) (ptH))
theorem wF_p_place {me n r q : Int} {st : Str} {z : Int} : putF "place" (.int z) (wF me n r q st) = wF me n r z st := ptP (by decide +kernel) (ptP (by decide +kernel) (ptP (by decide +kernel) (ptH)))
theorem wF_p_stand {me n r q : Int} {st : Str} {z : Str} : putF "stand" (.str z) (wF me n r q st) = wF me n r q z := ptP (by decide +kernel) (ptP (by decide +kernel) (ptP (by decide +kernel) (ptP (by decide +kernel) (ptH))))
theorem gF_len {me n : Int} {st : Str} {o d g : Int} : (gF me n st o d g).length < 1000 := by show 6 < 1000; decide
theorem wF_len {me n r q : Int} {st : Str} : (wF me n r q st).length < 1000 := by show 5 < 1000; decide
/-! ### the words -/
def gw : Spot → Str
  | .outside => "outside"
  | .draws => "drawing"
  | .sees _ _ => "seeing"
  | .takes => "numbering"
  | .drawn => "drawn"
  | .asks _ => "watching"
  | .waits _ => "waiting"
  | .inside => "inside"
  | .leaves => "leaving"
def ww : At → Str
  | .writes => "coming"
  | .looks => "trying"
  | .shuts => "shutting"
  | .reads => "looking"
  | .stops => "done"
  | .lost => "done"
def Og : Spot → Int → Int → Prop
  | .sees j h, o, g => o = (j : Int) ∧ g = (h : Int)
  | .asks j, o, _ => o = (j : Int)
  | .waits j, o, _ => o = (j : Int)
  | _, _, _ => True
/-! ### a process at an address -/
def GAt (C : Addr) (a : Addr) (x : Guest) (H : Hp) : Prop := ∃ (dx : Addr) (o g : Int), H a = some (.ins C dx (gF x.me x.n (gw x.spot) o x.number g)) ∧ Og x.spot o g
def WAt (C : Addr) (a : Addr) (x : Walker) (H : Hp) : Prop := ∃ (dx : Addr) (r q : Int), H a = some (.ins C dx (wF x.me x.n r q (ww x.at_))) ∧
  (x.at_ = .stops ∨ x.at_ = .lost ∨ (r = (x.row : Int) ∧ q = (x.place : Int) ∧ x.row < x.n ∧ x.n ≤ 8))
/-- all but the object at a is as it was -/
def Frm (H H' : Hp) (a : Addr) : Prop := ∀ b o, H b = some o → b ≠ a → H' b = some o
theorem Frm.refl (H : Hp) (a : Addr) : Frm H H a := fun _ _ h _ => h
theorem Frm.put {H H1 : Hp} {a : Addr} {o : HO} (h : Frm H H1 a) : Frm H (upd H1 a o) a := fun b u e n => by
  rw [upd_ne n]
  exact h b u e n
/-- what a method gives back: a new list of whole numbers, the object as A tells it, all else as it was -/
def Post (A : Hp → Prop) (H : Hp) (a : Addr) (ans : List Int) (Q : VK) : Prop := ∀ (H' : Hp) (p : Addr), A H' → H p = none → H' p = some (.lst (ans.map V.int)) → Frm H H' a → Q (.ref p) H'
theorem Post.fin {A : Hp → Prop} {H H1 : Hp} {a p : Addr} {o : HO} {ans : List Int} {Q : VK} (k : Post A H a ans Q) (h1 : H1 a = some o) (hA : ∀ H', H' a = some o → A H') (fr : Frm H H1 a) (hp : H1 p = none) :
    Q (.ref p) (upd H1 p (.lst (ans.map V.int))) := by
  have hpa : a ≠ p := ne_of_none h1 hp
  have hnew : H p = none := by
    cases e : H p with
    | none => rfl
    | some u =>
      rw [fr p u e (Ne.symm hpa)] at hp
      cases hp
  refine k _ p (hA _ ((upd_ne hpa).trans h1)) hnew upd_same fun b u e n => ?_
  have e1 := fr b u e n
  exact (upd_ne (ne_of_none e1 hp)).trans e1
def gRes (x : Guest) (r : Option Guest) : Guest × List Int := match r with
  | some y => (y, [(y.wants : Int)])
  | none => (x, [-4])
def wRes (x : Walker) (r : Option Walker) : Walker × List Int := match r with
  | some y => (y, [(y.wants : Int)])
  | none => (x, [-4])
def gNum (x : Guest) : List Int := if x.spot = .takes ∨ x.spot = .leaves then [0, (x.number : Int)] else [-4]
/-! ### the promises -/
def spAdd (c : Int) : Sp := fun vs H Q _ => ∃ j : Int, vs = [.int j] ∧ Q (.int (c + j)) H
def spCross : Sp := fun vs H Q _ => ∃ r q : Int, vs = [.int r, .int q] ∧ (-(2 ^ 64) < r ∧ r < 2 ^ 64) ∧ Q (.int (r * (r + 1) / 2 + q)) H
def spBeyond : Sp := fun vs H Q _ => ∃ r n : Int, vs = [.int r, .int n] ∧ Q (.bl (decide (n ≤ r))) H
def spGo : Sp := fun vs H Q _ => ∃ me n : Int, vs = [.int me, .int n] ∧ Q (.bl (decide (1 ≤ n ∧ n ≤ 8 ∧ 0 < me ∧ me < 18446744073709551616))) H
def spCan : Sp := fun vs H Q _ => ∃ me n : Int, vs = [.int me, .int n] ∧ Q (.bl (decide (2 ≤ n ∧ n ≤ 8 ∧ 0 ≤ me ∧ me < n))) H
def spGInit (C : Addr) : Sp := fun vs H Q _ => ∃ (a dx : Addr) (me n : Int), vs = [.ref a, .int me, .int n] ∧ H a = some (.ins C dx []) ∧
  ∀ H' : Hp, H' a = some (.ins C dx (gF me n "outside" 0 0 0)) → Frm H H' a → Q .non H'
def spWInit (C : Addr) : Sp := fun vs H Q _ => ∃ (a dx : Addr) (me n : Int), vs = [.ref a, .int me, .int n] ∧ H a = some (.ins C dx []) ∧
  ∀ H' : Hp, H' a = some (.ins C dx (wF me n 0 0 "coming")) → Frm H H' a → Q .non H'
def spHere (C : Addr) : Sp := fun vs H Q _ => ∃ (a dx : Addr) (me n : Int) (r q : Nat) (st : Str), vs = [.ref a] ∧ H a = some (.ins C dx (wF me n r q st)) ∧ r < 9 ∧ Q (.int (Sv46.crossing r q : Nat)) H
def spGoOn (C : Addr) : Sp := fun vs H Q _ => ∃ (a dx : Addr) (x : Walker) (right : Bool) (q : Int) (st : Str), vs = [.ref a, .int q] ∧ q = ((if right = true then x.place + 1 else x.place : Nat) : Int) ∧
  H a = some (.ins C dx (wF x.me x.n x.row x.place st)) ∧ x.row < x.n ∧ x.n ≤ 8 ∧ Post (WAt C a (x.goes right)) H a [((x.goes right).wants : Int)] Q
def spWGot (C : Addr) (A : At → Prop) : Sp := fun vs H Q _ => ∃ (a : Addr) (x : Walker) (v : Nat), vs = [.ref a, .int v] ∧ WAt C a x H ∧ A x.at_ ∧ Post (WAt C a (wRes x (x.got v)).1) H a (wRes x (x.got v)).2 Q
def spWWrote (C : Addr) : Sp := fun vs H Q _ => ∃ (a : Addr) (x : Walker), vs = [.ref a] ∧ WAt C a x H ∧ Post (WAt C a (wRes x x.wrote).1) H a (wRes x x.wrote).2 Q
def spGGot (C : Addr) (A : Spot → Prop) : Sp := fun vs H Q _ => ∃ (a : Addr) (x : Guest) (v : Nat), vs = [.ref a, .int v] ∧ GAt C a x H ∧ A x.spot ∧ Post (GAt C a (gRes x (x.got v)).1) H a (gRes x (x.got v)).2 Q
def spGWrote (C : Addr) : Sp := fun vs H Q _ => ∃ (a : Addr) (x : Guest), vs = [.ref a] ∧ GAt C a x H ∧ Post (GAt C a (gRes x x.wrote).1) H a (gRes x x.wrote).2 Q
def spGWant (C : Addr) : Sp := fun vs H Q _ => ∃ (a : Addr) (x : Guest), vs = [.ref a] ∧ GAt C a x H ∧ Post (GAt C a (gRes x x.want).1) H a (gRes x x.want).2 Q
def spGLeave (C : Addr) : Sp := fun vs H Q _ => ∃ (a : Addr) (x : Guest), vs = [.ref a] ∧ GAt C a x H ∧ Post (GAt C a (gRes x x.leave).1) H a (gRes x x.leave).2 Q
def spGNum (C : Addr) : Sp := fun vs H Q _ => ∃ (a : Addr) (x : Guest), vs = [.ref a] ∧ GAt C a x H ∧ Post (GAt C a x) H a (gNum x) Q
def spLook (C : Addr) : Sp := fun vs H Q _ => ∃ (a dx : Addr) (x : Guest) (j : Nat) (o g : Int) (st : Str), vs = [.ref a, .int j] ∧ H a = some (.ins C dx (gF x.me x.n st o x.number g)) ∧ Post (GAt C a (x.next j)) H a [((x.next j).wants : Int)] Q
def spBehind (C : Addr) : Sp := fun vs H Q _ => ∃ (a dx : Addr) (x : Guest) (j v : Nat) (g : Int) (st : Str), vs = [.ref a, .int v] ∧ H a = some (.ins C dx (gF x.me x.n st j x.number g)) ∧
  Q (.bl (decide (v = 0 ∨ x.number < v ∨ (v = x.number ∧ x.me < j)))) H
/-! ### the eight objects -/
def Lies (CG CW : Addr) (H : Hp) : Abs → V → Prop
  | .none, v => v = .non
  | .guest x, v => ∃ a, v = .ref a ∧ GAt CG a x H
  | .walker x, v => ∃ a, v = .ref a ∧ WAt CW a x H
structure Obs (CG CW : Addr) (H : Hp) (b : Addr) (os : List V) (S : List Abs) : Prop where
  at_ : H b = some (.lst os)
  lo : os.length = 8
  ls : S.length = 8
  each : ∀ (i : Nat) (v : V), os[i]? = some v → Lies CG CW H (S.getD i Abs.none) v
  inj : ∀ (i j : Nat) (a : Addr), os[i]? = some (.ref a) → os[j]? = some (.ref a) → i = j
/-- what is no process and not the list of objects is as it was -/
def Kept (H H' : Hp) (b : Addr) : Prop := ∀ c o, H c = some o → c ≠ b → (∀ C dx fs, o ≠ .ins C dx fs) → H' c = some o
def spDeed (CG CW : Addr) (p : Int) : Sp := fun vs H Q _ => ∃ (b nb : Addr) (k : Int) (nums : List Int) (os : List V) (S : List Abs), vs = [.ref b, .int k, .ref nb] ∧ Obs CG CW H b os S ∧ H nb = some (.lst (nums.map V.int)) ∧ CallOk S p k nums ∧
  ∀ (H' : Hp) (q : Addr) (os' : List V), Obs CG CW H' b os' (Sv46Neutral.step S [p :: k :: nums]).1 → H q = none → H' q = some (.lst ((Sv46Neutral.step S [p :: k :: nums]).2.map V.int)) → Kept H H' b → Q (.ref q) H'
/-- answers: a list of ints is handed in, the specification's list comes out -/
def spAns (K : PySem.W.Frag) : Sp := fun vs H Q _ => ∃ (a : Addr) (ns : List Int), vs = [.ref a] ∧ SqL K H a (ns.map V.int) ∧ OnlyF H ∧ PySv46.answers_asked ns = true ∧ ns.length ≤ 16000 ∧
  ∀ (H' : Hp) (p : Addr), H' p = some (.lst ((PySv46.answers ns).map V.int)) → Q (.ref p) H'
/-! ### defs and methods as callers know them -/
structure Gd (P : Program) (w : World) (K : PySem.W.Frag) (mg : Str → Option Value) (base : Heap) (x : Str) (k : Nat) (f : Addr) (fd : FuncData) (ps : List Str) (sp : Sp) : Prop where
  ok : FnOk P w K mg base CX0 k f fd ps sp
  m : mg x = some (.ref f)
  kp : PySem.W.keepIn K (.ref f) = true
  b : Binds K fd ps []
structure Md (P : Program) (w : World) (K : PySem.W.Frag) (mg : Str → Option Value) (base : Heap) (C : Addr) (x : Str) (k : Nat) (f : Addr) (fd : FuncData) (ps : List Str) (sp : Sp) : Prop where
  ok : FnOk P w K mg base CX0 k f fd ps sp
  m : Meth K C x f
  b : Binds K fd ps []
structure Gt (K : PySem.W.Frag) (C : Addr) : Prop where
  cl : Cls K C
  n_me : NoAttr K C "me"
  n_n : NoAttr K C "n"
  n_stand : NoAttr K C "stand"
  n_other : NoAttr K C "other"
  n_drawn : NoAttr K C "drawn"
  n_greatest : NoAttr K C "greatest"
structure Wt (K : PySem.W.Frag) (C : Addr) : Prop where
  cl : Cls K C
  n_me : NoAttr K C "me"
  n_n : NoAttr K C "n"
  n_row : NoAttr K C "row"
  n_place : NoAttr K C "place"
  n_stand : NoAttr K C "stand"
/-- the constants of the top -/
structure Ct (mg : Str → Option Value) : Prop where
  c_INSIDE : ∃ t, mg "INSIDE" = some (.int (0) t)
  c_OUTSIDE : ∃ t, mg "OUTSIDE" = some (.int (1) t)
  c_READ_DRAWING : ∃ t, mg "READ_DRAWING" = some (.int (16) t)
  c_READ_NUMBER : ∃ t, mg "READ_NUMBER" = some (.int (32) t)
  c_WRITE_DRAWING : ∃ t, mg "WRITE_DRAWING" = some (.int (64) t)
  c_WRITE_NOT_DRAWING : ∃ t, mg "WRITE_NOT_DRAWING" = some (.int (65) t)
  c_WRITE_NUMBER : ∃ t, mg "WRITE_NUMBER" = some (.int (66) t)
  c_WRITE_WHO : ∃ t, mg "WRITE_WHO" = some (.int (128) t)
  c_READ_WHO : ∃ t, mg "READ_WHO" = some (.int (256) t)
  c_READ_SHUT : ∃ t, mg "READ_SHUT" = some (.int (384) t)
  c_WRITE_SHUT : ∃ t, mg "WRITE_SHUT" = some (.int (512) t)
  c_NO_NAME : ∃ t, mg "NO_NAME" = some (.int (64) t)
  c_NOT_NOW : ∃ t, mg "NOT_NOW" = some (.int (-4) t)
  c_NO_ARGUMENTS : ∃ t, mg "NO_ARGUMENTS" = some (.int (-2) t)
  c_ALL : ∃ t, mg "ALL" = some (.int (18446744073709551616) t)
  c_LEAST_MANY_naming : ∃ t, mg "LEAST_MANY_naming" = some (.int (1) t)
  c_MOST_MANY_naming : ∃ t, mg "MOST_MANY_naming" = some (.int (8) t)
  c_LEAST_MANY_room : ∃ t, mg "LEAST_MANY_room" = some (.int (2) t)
  c_MOST_MANY_room : ∃ t, mg "MOST_MANY_room" = some (.int (8) t)
  c_MOST_OBJECTS : ∃ t, mg "MOST_OBJECTS" = some (.int (8) t)
/-- a constant read -/
theorem pe_ct {X : Cx} {x : Str} {i : Int} {pos : Pos} (h : ∃ t, X.mg x = some (.int i t)) (hg : Gl X x) (hd : (x == ("__debug__" : Str)) = false := by decide) : PE X (.Name x pos) (tC (.int i)) := by
  obtain ⟨t, h⟩ := h
  exact pe_glob hg h ⟨_, rfl⟩ hd
/-! ### places of the text -/
def topS (i : Nat) : Stmt := PySem.Challenge.pw_roomnames_s01_answers.main.body.getD i (.Pass ⟨0, 0, 0, 0⟩)
end Rn
/-! # The defs of the top that call none -/
namespace Rn
open PySem PySem.Spec PyProof.Rows L2
open Sv46 (Abs Guest Walker Spot At)
section
variable {P : Program} {w : World} {K : PySem.W.Frag} {mg : Str → Option Value} {base : Heap} {C CG CW : Addr}
theorem q_bl {Q : VK} {H : Hp} {b c : Bool} (q : Q (.bl b) H) (e : b = c) : Q (.bl c) H := by
  rw [← e]
  exact q
theorem q_int {Q : VK} {H : Hp} {b c : Int} (q : Q (.int b) H) (e : b = c) : Q (.int c) H := by
  rw [← e]
  exact q
theorem sc_drawing_of : FnScope ["j"] ["j"] (defScope (topS 16)) := ⟨rfl, rfl, rfl, by decide +kernel, rfl, by decide +kernel, by decide +kernel⟩
theorem ok_drawing_of {f : Addr} {fd : FuncData} (F : Fun K "drawing_of" "drawing_of" (topS 16) f fd) (T : Ct mg) : FnOk P w K mg base CX0 1 f fd ["j"] (spAdd 16) := by
  refine F.ok sc_drawing_of (fun vs H Q E h => ?_) (fun cdv A outer s H vs Q E hr h => ?_)
  · obtain ⟨j, rfl, _⟩ := h
    rfl
  · obtain ⟨j, rfl, q⟩ := h
    refine ⟨_, pss_one (ps_ret (pe_op op_add (pe_ct T.c_READ_DRAWING rfl) (pv 0))), ?_⟩
    exact ⟨_, rfl, _, _, rfl, rfl, q⟩
theorem sc_number_of : FnScope ["j"] ["j"] (defScope (topS 17)) := ⟨rfl, rfl, rfl, by decide +kernel, rfl, by decide +kernel, by decide +kernel⟩
theorem ok_number_of {f : Addr} {fd : FuncData} (F : Fun K "number_of" "number_of" (topS 17) f fd) (T : Ct mg) : FnOk P w K mg base CX0 1 f fd ["j"] (spAdd 32) := by
  refine F.ok sc_number_of (fun vs H Q E h => ?_) (fun cdv A outer s H vs Q E hr h => ?_)
  · obtain ⟨j, rfl, _⟩ := h
    rfl
  · obtain ⟨j, rfl, q⟩ := h
    refine ⟨_, pss_one (ps_ret (pe_op op_add (pe_ct T.c_READ_NUMBER rfl) (pv 0))), ?_⟩
    exact ⟨_, rfl, _, _, rfl, rfl, q⟩
theorem sc_write_who : FnScope ["c"] ["c"] (defScope (topS 18)) := ⟨rfl, rfl, rfl, by decide +kernel, rfl, by decide +kernel, by decide +kernel⟩
theorem ok_write_who {f : Addr} {fd : FuncData} (F : Fun K "write_who" "write_who" (topS 18) f fd) (T : Ct mg) : FnOk P w K mg base CX0 1 f fd ["c"] (spAdd 128) := by
  refine F.ok sc_write_who (fun vs H Q E h => ?_) (fun cdv A outer s H vs Q E hr h => ?_)
  · obtain ⟨j, rfl, _⟩ := h
    rfl
  · obtain ⟨j, rfl, q⟩ := h
    refine ⟨_, pss_one (ps_ret (pe_op op_add (pe_ct T.c_WRITE_WHO rfl) (pv 0))), ?_⟩
    exact ⟨_, rfl, _, _, rfl, rfl, q⟩
theorem sc_read_who : FnScope ["c"] ["c"] (defScope (topS 19)) := ⟨rfl, rfl, rfl, by decide +kernel, rfl, by decide +kernel, by decide +kernel⟩
theorem ok_read_who {f : Addr} {fd : FuncData} (F : Fun K "read_who" "read_who" (topS 19) f fd) (T : Ct mg) : FnOk P w K mg base CX0 1 f fd ["c"] (spAdd 256) := by
  refine F.ok sc_read_who (fun vs H Q E h => ?_) (fun cdv A outer s H vs Q E hr h => ?_)
  · obtain ⟨j, rfl, _⟩ := h
    rfl
  · obtain ⟨j, rfl, q⟩ := h
    refine ⟨_, pss_one (ps_ret (pe_op op_add (pe_ct T.c_READ_WHO rfl) (pv 0))), ?_⟩
    exact ⟨_, rfl, _, _, rfl, rfl, q⟩
theorem sc_read_shut : FnScope ["c"] ["c"] (defScope (topS 20)) := ⟨rfl, rfl, rfl, by decide +kernel, rfl, by decide +kernel, by decide +kernel⟩
theorem ok_read_shut {f : Addr} {fd : FuncData} (F : Fun K "read_shut" "read_shut" (topS 20) f fd) (T : Ct mg) : FnOk P w K mg base CX0 1 f fd ["c"] (spAdd 384) := by
  refine F.ok sc_read_shut (fun vs H Q E h => ?_) (fun cdv A outer s H vs Q E hr h => ?_)
  · obtain ⟨j, rfl, _⟩ := h
    rfl
  · obtain ⟨j, rfl, q⟩ := h
    refine ⟨_, pss_one (ps_ret (pe_op op_add (pe_ct T.c_READ_SHUT rfl) (pv 0))), ?_⟩
    exact ⟨_, rfl, _, _, rfl, rfl, q⟩
theorem sc_write_shut : FnScope ["c"] ["c"] (defScope (topS 21)) := ⟨rfl, rfl, rfl, by decide +kernel, rfl, by decide +kernel, by decide +kernel⟩
theorem ok_write_shut {f : Addr} {fd : FuncData} (F : Fun K "write_shut" "write_shut" (topS 21) f fd) (T : Ct mg) : FnOk P w K mg base CX0 1 f fd ["c"] (spAdd 512) := by
  refine F.ok sc_write_shut (fun vs H Q E h => ?_) (fun cdv A outer s H vs Q E hr h => ?_)
  · obtain ⟨j, rfl, _⟩ := h
    rfl
  · obtain ⟨j, rfl, q⟩ := h
    refine ⟨_, pss_one (ps_ret (pe_op op_add (pe_ct T.c_WRITE_SHUT rfl) (pv 0))), ?_⟩
    exact ⟨_, rfl, _, _, rfl, rfl, q⟩
theorem sc_crossing : FnScope ["row", "place"] ["row", "place"] (defScope (topS 23)) := ⟨rfl, rfl, rfl, by decide +kernel, rfl, by decide +kernel, by decide +kernel⟩
theorem ok_crossing {f : Addr} {fd : FuncData} (F : Fun K "crossing" "crossing" (topS 23) f fd) : FnOk P w K mg base CX0 1 f fd ["row", "place"] spCross := by
  refine F.ok sc_crossing (fun vs H Q E h => ?_) (fun cdv A outer s H vs Q E hr h => ?_)
  · obtain ⟨r, c, rfl, _⟩ := h
    rfl
  · obtain ⟨r, c, rfl, hb, q⟩ := h
    refine ⟨_, pss_one (ps_ret (pe_op op_add (pe_op op_fdiv (pe_op op_mul (pv 0) (pe_op op_add (pv 0) pe_int)) pe_int) (pv 1))), ?_⟩
    exact ⟨_, rfl, _, rfl, _, _, rfl, rfl, _, _, rfl, rfl, .inl hb, _, _, rfl, rfl, ⟨by decide, by decide⟩, _, rfl, _, _, rfl, rfl, q⟩
theorem sc_is_beyond : FnScope ["row", "n"] ["row", "n"] (defScope (topS 24)) := ⟨rfl, rfl, rfl, by decide +kernel, rfl, by decide +kernel, by decide +kernel⟩
theorem ok_is_beyond {f : Addr} {fd : FuncData} (F : Fun K "is_beyond" "is_beyond" (topS 24) f fd) : FnOk P w K mg base CX0 1 f fd ["row", "n"] spBeyond := by
  refine F.ok sc_is_beyond (fun vs H Q E h => ?_) (fun cdv A outer s H vs Q E hr h => ?_)
  · obtain ⟨r, c, rfl, _⟩ := h
    rfl
  · obtain ⟨r, c, rfl, q⟩ := h
    refine ⟨_, pss_one (ps_ret (pe_cmpR op_ge (pv 0) (pv 1) (nomark _))), ?_⟩
    exact ⟨_, rfl, _, rfl, _, _, rfl, rfl, q⟩
theorem sc_can_go : FnScope ["me", "n"] ["me", "n"] (defScope (topS 28)) := ⟨rfl, rfl, rfl, by decide +kernel, rfl, by decide +kernel, by decide +kernel⟩
theorem ok_can_go {f : Addr} {fd : FuncData} (F : Fun K "can_go" "can_go" (topS 28) f fd) (T : Ct mg) : FnOk P w K mg base CX0 1 f fd ["me", "n"] spGo := by
  refine F.ok sc_can_go (fun vs H Q E h => ?_) (fun cdv A outer s H vs Q E hr h => ?_)
  · obtain ⟨r, c, rfl, _⟩ := h
    rfl
  · obtain ⟨me, n, rfl, q⟩ := h
    refine ⟨_, pss_one (ps_ret (pe_and (pe_chain op_le op_le (pe_ct T.c_LEAST_MANY_naming rfl) (pv 1) (pe_ct T.c_MOST_MANY_naming rfl)) (pe_one (pe_chain op_lt op_lt pe_int (pv 0) (pe_ct T.c_ALL rfl))))), ?_⟩
    refine ⟨_, rfl, _, _, rfl, rfl, _, rfl, ?_⟩
    by_cases h1 : 1 ≤ n
    · refine ifT (decide_eq_true h1) ⟨_, _, rfl, rfl, _, rfl, ?_⟩
      by_cases h2 : n ≤ 8
      · refine ifT (decide_eq_true h2) ⟨_, rfl, _, _, rfl, rfl, _, rfl, ?_⟩
        by_cases h3 : 0 < me
        · refine ifT (decide_eq_true h3) ⟨_, _, rfl, rfl, ?_⟩
          exact q_bl q (decide_eq_decide.mpr (by omega))
        · refine ifF (decide_eq_false h3) ?_
          exact q_bl q (decide_eq_false (by omega))
      · refine ifF (decide_eq_false h2) ?_
        exact q_bl q (decide_eq_false (by omega))
    · refine ifF (decide_eq_false h1) ⟨_, rfl, ?_⟩
      refine ifF rfl ?_
      exact q_bl q (decide_eq_false (by omega))
theorem sc_can_begin : FnScope ["me", "n"] ["me", "n"] (defScope (topS 33)) := ⟨rfl, rfl, rfl, by decide +kernel, rfl, by decide +kernel, by decide +kernel⟩
theorem ok_can_begin {f : Addr} {fd : FuncData} (F : Fun K "can_begin" "can_begin" (topS 33) f fd) (T : Ct mg) : FnOk P w K mg base CX0 1 f fd ["me", "n"] spCan := by
  refine F.ok sc_can_begin (fun vs H Q E h => ?_) (fun cdv A outer s H vs Q E hr h => ?_)
  · obtain ⟨r, c, rfl, _⟩ := h
    rfl
  · obtain ⟨me, n, rfl, q⟩ := h
    refine ⟨_, pss_one (ps_ret (pe_and (pe_chain op_le op_le (pe_ct T.c_LEAST_MANY_room rfl) (pv 1) (pe_ct T.c_MOST_MANY_room rfl)) (pe_one (pe_chain op_le op_lt pe_int (pv 0) (pv 1))))), ?_⟩
    refine ⟨_, rfl, _, _, rfl, rfl, _, rfl, ?_⟩
    by_cases h1 : 2 ≤ n
    · refine ifT (decide_eq_true h1) ⟨_, _, rfl, rfl, _, rfl, ?_⟩
      by_cases h2 : n ≤ 8
      · refine ifT (decide_eq_true h2) ⟨_, rfl, _, _, rfl, rfl, _, rfl, ?_⟩
        by_cases h3 : 0 ≤ me
        · refine ifT (decide_eq_true h3) ⟨_, rfl, _, _, rfl, rfl, ?_⟩
          exact q_bl q (decide_eq_decide.mpr (by omega))
        · refine ifF (decide_eq_false h3) ?_
          exact q_bl q (decide_eq_false (by omega))
      · refine ifF (decide_eq_false h2) ?_
        exact q_bl q (decide_eq_false (by omega))
    · refine ifF (decide_eq_false h1) ⟨_, rfl, ?_⟩
      refine ifF rfl ?_
      exact q_bl q (decide_eq_false (by omega))
end
end Rn
/-! # The walker's methods -/
namespace Rn
open PySem PySem.Spec PyProof.Rows L2
open Sv46 (Abs Guest Walker Spot At)
section
variable {P : Program} {w : World} {K : PySem.W.Frag} {mg : Str → Option Value} {base : Heap} {C CG CW : Addr}
/-- a store to a field, told by what the fields are then -/
theorem st_go {N : L2.St → Hp → Prop} {σ : L2.St} {H : Hp} {a dx : Addr} {f : Str} {y : V} {fs gs : List (Str × V)} (h : H a = some (.ins C dx fs)) (c : Cls K C) (n : NoAttr K C f) (l : fs.length < 1000) (e : putF f y fs = gs)
    (k : N σ (upd H a (.ins C dx gs))) : ∃ a1 C1 dx1 fs1, V.ref a = .ref a1 ∧ H a1 = some (.ins C1 dx1 fs1) ∧ Cls K C1 ∧ NoAttr K C1 f ∧ fs1.length < 1000 ∧ N σ (upd H a1 (.ins C1 dx1 (putF f y fs1))) := by
  subst e
  exact ⟨a, C, dx, fs, rfl, h, c, n, l, k⟩
/-- the same behind an operator -/
theorem st_op {N : L2.St → Hp → Prop} {σ : L2.St} {H : Hp} {a dx : Addr} {f : Str} {y : V} {fs gs : List (Str × V)} (h : H a = some (.ins C dx fs)) (l : fs.length < 1000) (e : putF f y fs = gs)
    (k : N σ (upd H a (.ins C dx gs))) : ∃ dx1 fs1, H a = some (.ins C dx1 fs1) ∧ fs1.length < 1000 ∧ N σ (upd H a (.ins C dx1 (putF f y fs1))) := by
  subst e
  exact ⟨dx, fs, h, l, k⟩
/-- the end of a method: a new list -/
theorem fin_l {A : Hp → Prop} {H H1 : Hp} {a : Addr} {o : HO} {ans : List Int} {xs : List V} {Q : VK} (k : Post A H a ans Q) (e : ans.map V.int = xs) (hl : ans.length ≤ 2) (h1 : H1 a = some o) (hA : ∀ H2, H2 a = some o → A H2) (fr : Frm H H1 a) :
    xs.length ≤ sizeLine ∧ ∀ p, H1 p = none → Q (.ref p) (upd H1 p (.lst xs)) := by
  subst e
  refine ⟨?_, fun p hp => k.fin h1 hA fr hp⟩
  rw [List.length_map]
  exact Nat.le_trans hl (by decide)
theorem cross_cast (r q : Nat) : (r : Int) * ((r : Int) + 1) / 2 + (q : Int) = ((Sv46.crossing r q : Nat) : Int) := by
  unfold Sv46.crossing
  rw [Int.natCast_add, Int.natCast_ediv, Int.natCast_mul, Int.natCast_add]
  rfl
theorem one_int {x y : Int} (e : x = y) : [x].map V.int = [V.int y] := by
  rw [e]
  rfl
theorem s_ne {a b : Str} (h : (a == b) = false) : decide (V.str a = V.str b) = false := dec_str.trans h
theorem s_eq {a : Str} : decide (V.str a = V.str a) = true := decide_eq_true rfl
theorem n_ne {a b : Str} (h : (a == b) = false) : (!decide (V.str a = V.str b)) = true := by
  rw [s_ne h]
  rfl
theorem n_eq {a : Str} : (!decide (V.str a = V.str a)) = false := by
  rw [s_eq]
  rfl
theorem i_ne {a b : Nat} (h : ¬ a = b) : (!decide (V.int (a : Int) = V.int (b : Int))) = true := by
  rw [decide_eq_false (show ¬ V.int (a : Int) = V.int (b : Int) from fun e => h (by have := V.int.inj e; omega))]
  rfl
theorem i_eq {a b : Nat} (h : a = b) : (!decide (V.int (a : Int) = V.int (b : Int))) = false := by
  rw [h, decide_eq_true rfl]
  rfl
theorem sc_w___init__ : FnScope ["self", "me", "n"] ["self", "me", "n"] (defScope (inClass (topS 29) 0)) := ⟨rfl, rfl, rfl, by decide +kernel, rfl, by decide +kernel, by decide +kernel⟩
theorem ok_w___init__ {f : Addr} {fd : FuncData} (F : Fun K "__init__" "Walker.__init__" (inClass (topS 29) 0) f fd) (T : Wt K C) : FnOk P w K mg base CX0 1 f fd ["self", "me", "n"] (spWInit C) := by
  refine F.ok sc_w___init__ (fun vs H Q E h => ?_) (fun cdv A outer s H vs Q E hr h => ?_)
  · obtain ⟨_, _, _, _, rfl, _⟩ := h
    rfl
  · obtain ⟨a, dx, me, n, rfl, h, k⟩ := h
    refine ⟨_, (pss_cons (ps_fld (pv 0) (pv 1) rfl) (pss_cons (ps_fld (pv 0) (pv 2) rfl) (pss_cons (ps_fld (pv 0) pe_int rfl) (pss_cons (ps_fld (pv 0) pe_int rfl) (pss_one (ps_fld (pv 0) pe_str rfl)))))), ?_⟩
    refine ⟨_, rfl, _, rfl, st_go h T.cl T.n_me (by decide) ptN ?_⟩
    refine ⟨_, rfl, _, rfl, st_go upd_same T.cl T.n_n (by show 1 < 1000; decide) (ptP (by decide +kernel) ptN) ?_⟩
    refine ⟨_, rfl, st_go upd_same T.cl T.n_row (by show 2 < 1000; decide) (ptP (by decide +kernel) (ptP (by decide +kernel) ptN)) ?_⟩
    refine ⟨_, rfl, st_go upd_same T.cl T.n_place (by show 3 < 1000; decide) (ptP (by decide +kernel) (ptP (by decide +kernel) (ptP (by decide +kernel) ptN))) ?_⟩
    refine ⟨_, rfl, st_go upd_same T.cl T.n_stand (by show 4 < 1000; decide) (ptP (by decide +kernel) (ptP (by decide +kernel) (ptP (by decide +kernel) (ptP (by decide +kernel) ptN)))) ?_⟩
    exact k _ upd_same (Frm.refl H a).put.put.put.put.put
theorem sc_w_here : FnScope ["self"] ["self"] (defScope (inClass (topS 29) 1)) := ⟨rfl, rfl, rfl, by decide +kernel, rfl, by decide +kernel, by decide +kernel⟩
theorem ok_w_here {f : Addr} {fd : FuncData} (F : Fun K "here" "Walker.here" (inClass (topS 29) 1) f fd) (T : Wt K C) {fX : Addr} {dX : FuncData} (X : Gd P w K mg base "crossing" 1 fX dX ["row", "place"] (spCross)) : FnOk P w K mg base CX0 2 f fd ["self"] (spHere C) := by
  refine F.ok sc_w_here (fun vs H Q E h => ?_) (fun cdv A outer s H vs Q E hr h => ?_)
  · obtain ⟨_, _, _, _, _, _, _, rfl, _⟩ := h
    rfl
  · obtain ⟨a, dx, me, n, r, q, st, rfl, h, hb, k⟩ := h
    refine ⟨_, (pss_one (ps_ret (pe_call X.ok hr rfl X.m X.kp X.b .nil pass0 (pa_cons (pe_fld (pv 0) rfl) (pa_cons (pe_fld (pv 0) rfl) pa_nil))))), ?_⟩
    refine ⟨_, rfl, a, C, dx, _, _, rfl, h, T.cl, T.n_row, wF_row, _, rfl, a, C, dx, _, _, rfl, h, T.cl, T.n_place, wF_place, r, q, rfl, ⟨by omega, by omega⟩, ?_⟩
    exact q_int k (cross_cast r q).symm
theorem sc_w_go_on : FnScope ["self", "place"] ["self", "place"] (defScope (inClass (topS 29) 2)) := ⟨rfl, rfl, rfl, by decide +kernel, rfl, by decide +kernel, by decide +kernel⟩
theorem ok_w_go_on {f : Addr} {fd : FuncData} (F : Fun K "go_on" "Walker.go_on" (inClass (topS 29) 2) f fd) (T : Wt K C) (T0 : Ct mg) {fM : Addr} {dM : FuncData} (M : Md P w K mg base C "here" 2 fM dM ["self"] (spHere C)) {fB : Addr} {dB : FuncData} (B : Gd P w K mg base "is_beyond" 1 fB dB ["row", "n"] (spBeyond)) {fW : Addr} {dW : FuncData} (W : Gd P w K mg base "write_who" 1 fW dW ["c"] (spAdd 128)) : FnOk P w K mg base CX0 3 f fd ["self", "place"] (spGoOn C) := by
  refine F.ok sc_w_go_on (fun vs H Q E h => ?_) (fun cdv A outer s H vs Q E hr h => ?_)
  · obtain ⟨_, _, _, _, _, _, rfl, _⟩ := h
    rfl
  · obtain ⟨a, dx, x, right, q, st, rfl, hq, h, hr1, hr2, k⟩ := h
    have hr1' : Room 1 _ := hr.mono (by decide)
    refine ⟨_, (pss_cons (ps_fldaug (pv 0) pe_int in_add) (pss_cons (ps_fld (pv 0) (pv 1) rfl) (pss_cons (ps_if (pt_val (pe_call B.ok hr1' rfl B.m B.kp B.b .nil pass0 (pa_cons (pe_fld (pv 0) rfl) (pa_cons (pe_fld (pv 0) rfl) pa_nil)))) (pss_cons (ps_fld (pv 0) pe_str rfl) (pss_one (ps_ret (pe_lst (pa_cons (pe_ct T0.c_NO_NAME rfl) pa_nil))))) pss_nil) (pss_cons (ps_fld (pv 0) pe_str rfl) (pss_one (ps_ret (pe_lst (pa_cons (pe_call W.ok hr1' rfl W.m W.kp W.b .nil pass0 (pa_cons (pe_meth0 (pv 0) T.cl M.m M.ok hr M.b .nil pass0) pa_nil)) pa_nil)))))))), ?_⟩
    have e1 : putF "row" (.int ((x.row : Int) + 1)) (wF x.me x.n x.row x.place st) = wF x.me x.n ((x.row + 1 : Nat) : Int) x.place st := by
      rw [wF_p_row, Int.natCast_add]
      rfl
    refine ⟨_, rfl, a, C, dx, _, _, rfl, h, T.cl, T.n_row, wF_row, _, _, rfl, rfl, st_op h wF_len e1 ?_⟩
    refine ⟨_, rfl, _, rfl, st_go upd_same T.cl T.n_place wF_len wF_p_place ?_⟩
    refine ⟨_, rfl, a, C, dx, _, _, rfl, upd_same, T.cl, T.n_row, wF_row, _, rfl, a, C, dx, _, _, rfl, upd_same, T.cl, T.n_n, wF_n, _, _, rfl, _, rfl, ?_⟩
    by_cases c : x.row + 1 < x.n
    · refine ifF (decide_eq_false (by omega)) ?_
      refine ⟨_, rfl, st_go upd_same T.cl T.n_stand wF_len wF_p_stand ?_⟩
      subst hq
      refine ⟨_, rfl, a, dx, _, rfl, upd_same, wF_no_here, a, dx, _, _, _, _, _, rfl, upd_same, by omega, _, rfl, ?_⟩
      have e : x.goes right = { x with row := x.row + 1, place := if right = true then x.place + 1 else x.place, at_ := .writes } := if_pos c
      rw [e] at k
      exact fin_l k (one_int (Int.natCast_add _ _)) (by show 1 ≤ 2; decide) upd_same (fun H2 z => ⟨dx, _, _, z, .inr (.inr ⟨rfl, rfl, c, hr2⟩)⟩) (Frm.refl H a).put.put.put
    · refine ifT (decide_eq_true (by omega)) ?_
      refine ⟨_, rfl, st_go upd_same T.cl T.n_stand wF_len wF_p_stand ?_⟩
      have e : x.goes right = { x with at_ := .lost } := if_neg c
      rw [e] at k
      exact fin_l k rfl (by show 1 ≤ 2; decide) upd_same (fun H2 z => ⟨dx, _, _, z, .inr (.inl rfl)⟩) (Frm.refl H a).put.put.put
end
end Rn
/-! # The walker's methods, further -/
namespace Rn
open PySem PySem.Spec PyProof.Rows L2
open Sv46 (Abs Guest Walker Spot At)
section
variable {P : Program} {w : World} {K : PySem.W.Frag} {mg : Str → Option Value} {base : Heap} {C CG CW : Addr}
theorem sc_w_wrote : FnScope ["self"] ["self"] (defScope (inClass (topS 29) 4)) := ⟨rfl, rfl, rfl, by decide +kernel, rfl, by decide +kernel, by decide +kernel⟩
theorem ok_w_wrote {f : Addr} {fd : FuncData} (F : Fun K "wrote" "Walker.wrote" (inClass (topS 29) 4) f fd) (T : Wt K C) (T0 : Ct mg) {fM : Addr} {dM : FuncData} (M : Md P w K mg base C "here" 2 fM dM ["self"] (spHere C)) {fS : Addr} {dS : FuncData} (S : Gd P w K mg base "read_shut" 1 fS dS ["c"] (spAdd 384)) {fR : Addr} {dR : FuncData} (R : Gd P w K mg base "read_who" 1 fR dR ["c"] (spAdd 256)) : FnOk P w K mg base CX0 3 f fd ["self"] (spWWrote C) := by
  refine F.ok sc_w_wrote (fun vs H Q E h => ?_) (fun cdv A outer s H vs Q E hr h => ?_)
  · obtain ⟨_, _, rfl, _⟩ := h
    rfl
  · obtain ⟨a, ⟨me, n, row, place, at_⟩, rfl, ⟨dx, r, q, h, hc⟩, k⟩ := h
    have hr1 : Room 1 _ := hr.mono (by decide)
    refine ⟨_, (pss_cons (ps_if (pt_cmpR op_eq (pe_fld (pv 0) rfl) pe_str (nomark _)) (pss_cons (ps_fld (pv 0) pe_str rfl) (pss_one (ps_ret (pe_lst (pa_cons (pe_call S.ok hr1 rfl S.m S.kp S.b .nil pass0 (pa_cons (pe_meth0 (pv 0) T.cl M.m M.ok hr M.b .nil pass0) pa_nil)) pa_nil))))) pss_nil) (pss_cons (ps_if (pt_cmpR op_eq (pe_fld (pv 0) rfl) pe_str (nomark _)) (pss_cons (ps_fld (pv 0) pe_str rfl) (pss_one (ps_ret (pe_lst (pa_cons (pe_call R.ok hr1 rfl R.m R.kp R.b .nil pass0 (pa_cons (pe_meth0 (pv 0) T.cl M.m M.ok hr M.b .nil pass0) pa_nil)) pa_nil))))) pss_nil) (pss_one (ps_ret (pe_lst (pa_cons (pe_ct T0.c_NOT_NOW rfl) pa_nil)))))), ?_⟩
    refine ⟨_, rfl, a, C, dx, _, _, rfl, h, T.cl, T.n_stand, wF_stand, rfl, _, rfl, ?_⟩
    cases at_ with
    | writes =>
      obtain ⟨rfl, rfl, hrn, hn8⟩ : r = (row : Int) ∧ q = (place : Int) ∧ row < n ∧ n ≤ 8 := by
        rcases hc with z | z | z
        · cases z
        · cases z
        · exact z
      refine ifT s_eq ⟨_, rfl, st_go h T.cl T.n_stand wF_len wF_p_stand ?_⟩
      refine ⟨_, rfl, a, dx, _, rfl, upd_same, wF_no_here, a, dx, _, _, row, place, _, rfl, upd_same, by omega, _, rfl, ?_⟩
      exact fin_l k (one_int (Int.natCast_add _ _)) (by show 1 ≤ 2; decide) upd_same (fun H2 z => ⟨dx, _, _, z, .inr (.inr ⟨rfl, rfl, hrn, hn8⟩)⟩) (Frm.refl H a).put
    | shuts =>
      obtain ⟨rfl, rfl, hrn, hn8⟩ : r = (row : Int) ∧ q = (place : Int) ∧ row < n ∧ n ≤ 8 := by
        rcases hc with z | z | z
        · cases z
        · cases z
        · exact z
      refine ifF (s_ne (a := "shutting") (by decide +kernel)) ⟨_, rfl, a, C, dx, _, _, rfl, h, T.cl, T.n_stand, wF_stand, rfl, _, rfl, ?_⟩
      refine ifT s_eq ⟨_, rfl, st_go h T.cl T.n_stand wF_len wF_p_stand ?_⟩
      refine ⟨_, rfl, a, dx, _, rfl, upd_same, wF_no_here, a, dx, _, _, row, place, _, rfl, upd_same, by omega, _, rfl, ?_⟩
      exact fin_l k (one_int (Int.natCast_add _ _)) (by show 1 ≤ 2; decide) upd_same (fun H2 z => ⟨dx, _, _, z, .inr (.inr ⟨rfl, rfl, hrn, hn8⟩)⟩) (Frm.refl H a).put
    | looks =>
      refine ifF (s_ne (a := "trying") (by decide +kernel)) ⟨_, rfl, a, C, dx, _, _, rfl, h, T.cl, T.n_stand, wF_stand, rfl, _, rfl, ?_⟩
      refine ifF (s_ne (a := "trying") (by decide +kernel)) ?_
      exact fin_l k rfl (by show 1 ≤ 2; decide) h (fun H2 z => ⟨dx, r, q, z, hc⟩) (Frm.refl H a)
    | reads =>
      refine ifF (s_ne (a := "looking") (by decide +kernel)) ⟨_, rfl, a, C, dx, _, _, rfl, h, T.cl, T.n_stand, wF_stand, rfl, _, rfl, ?_⟩
      refine ifF (s_ne (a := "looking") (by decide +kernel)) ?_
      exact fin_l k rfl (by show 1 ≤ 2; decide) h (fun H2 z => ⟨dx, r, q, z, hc⟩) (Frm.refl H a)
    | stops =>
      refine ifF (s_ne (a := "done") (by decide +kernel)) ⟨_, rfl, a, C, dx, _, _, rfl, h, T.cl, T.n_stand, wF_stand, rfl, _, rfl, ?_⟩
      refine ifF (s_ne (a := "done") (by decide +kernel)) ?_
      exact fin_l k rfl (by show 1 ≤ 2; decide) h (fun H2 z => ⟨dx, r, q, z, hc⟩) (Frm.refl H a)
    | lost =>
      refine ifF (s_ne (a := "done") (by decide +kernel)) ⟨_, rfl, a, C, dx, _, _, rfl, h, T.cl, T.n_stand, wF_stand, rfl, _, rfl, ?_⟩
      refine ifF (s_ne (a := "done") (by decide +kernel)) ?_
      exact fin_l k rfl (by show 1 ≤ 2; decide) h (fun H2 z => ⟨dx, r, q, z, hc⟩) (Frm.refl H a)
theorem sc_w_tried : FnScope ["self", "value"] ["self", "value"] (defScope (inClass (topS 29) 5)) := ⟨rfl, rfl, rfl, by decide +kernel, rfl, by decide +kernel, by decide +kernel⟩
theorem ok_w_tried {f : Addr} {fd : FuncData} (F : Fun K "tried" "Walker.tried" (inClass (topS 29) 5) f fd) (T : Wt K C) {fM : Addr} {dM : FuncData} (M : Md P w K mg base C "here" 2 fM dM ["self"] (spHere C)) {fO : Addr} {dO : FuncData} (O : Md P w K mg base C "go_on" 3 fO dO ["self", "place"] (spGoOn C)) {fW : Addr} {dW : FuncData} (W : Gd P w K mg base "write_shut" 1 fW dW ["c"] (spAdd 512)) : FnOk P w K mg base CX0 4 f fd ["self", "value"] (spWGot C (· = .looks)) := by
  refine F.ok sc_w_tried (fun vs H Q E h => ?_) (fun cdv A outer s H vs Q E hr h => ?_)
  · obtain ⟨_, _, _, rfl, _⟩ := h
    rfl
  · obtain ⟨a, ⟨me, n, row, place, at_⟩, v, rfl, ⟨dx, r, q, h, hc⟩, hA, k⟩ := h
    have hr1 : Room 1 _ := hr.mono (by decide)
    have hr2 : Room 2 _ := hr.mono (by decide)
    have hA : at_ = .looks := hA
    subst hA
    refine ⟨_, (pss_cons (ps_if (pt_cmpR op_ne (pv 1) pe_int (nomark _)) (pss_one (ps_ret (pe_meth (pv 0) T.cl O.m O.ok hr O.b .nil pass0 (pa_cons (pe_op op_add (pe_fld (pv 0) rfl) pe_int) pa_nil)))) pss_nil) (pss_cons (ps_fld (pv 0) pe_str rfl) (pss_one (ps_ret (pe_lst (pa_cons (pe_call W.ok hr1 rfl W.m W.kp W.b .nil pass0 (pa_cons (pe_meth0 (pv 0) T.cl M.m M.ok hr2 M.b .nil pass0) pa_nil)) pa_nil)))))), ?_⟩
    refine ⟨_, rfl, rfl, _, rfl, ?_⟩
    obtain ⟨rfl, rfl, hrn, hn8⟩ : r = (row : Int) ∧ q = (place : Int) ∧ row < n ∧ n ≤ 8 := by
      rcases hc with z | z | z
      · cases z
      · cases z
      · exact z
    by_cases c : v = 0
    · refine ifF (i_eq c) ⟨_, rfl, st_go h T.cl T.n_stand wF_len wF_p_stand ?_⟩
      refine ⟨_, rfl, a, dx, _, rfl, upd_same, wF_no_here, a, dx, _, _, row, place, _, rfl, upd_same, by omega, _, rfl, ?_⟩
      have e : Walker.got ⟨me, n, row, place, .looks⟩ v = some ⟨me, n, row, place, .shuts⟩ := congrArg some (if_pos c)
      rw [e] at k
      exact fin_l k (one_int (Int.natCast_add _ _)) (by show 1 ≤ 2; decide) upd_same (fun H2 z => ⟨dx, _, _, z, .inr (.inr ⟨rfl, rfl, hrn, hn8⟩)⟩) (Frm.refl H a).put
    · refine ifT (i_ne c) ?_
      have e : Walker.got ⟨me, n, row, place, .looks⟩ v = some (Walker.goes ⟨me, n, row, place, .looks⟩ true) := congrArg some (if_neg c)
      rw [e] at k
      exact ⟨_, rfl, a, dx, _, rfl, h, wF_no_go_on, _, rfl, a, C, dx, _, _, rfl, h, T.cl, T.n_place, wF_place, _, _, rfl, rfl, a, dx, ⟨me, n, row, place, .looks⟩, true, _, _, rfl, rfl, h, hrn, hn8, k⟩
theorem sc_w_looked : FnScope ["self", "value"] ["self", "value"] (defScope (inClass (topS 29) 6)) := ⟨rfl, rfl, rfl, by decide +kernel, rfl, by decide +kernel, by decide +kernel⟩
theorem ok_w_looked {f : Addr} {fd : FuncData} (F : Fun K "looked" "Walker.looked" (inClass (topS 29) 6) f fd) (T : Wt K C) {fM : Addr} {dM : FuncData} (M : Md P w K mg base C "here" 2 fM dM ["self"] (spHere C)) {fO : Addr} {dO : FuncData} (O : Md P w K mg base C "go_on" 3 fO dO ["self", "place"] (spGoOn C)) : FnOk P w K mg base CX0 4 f fd ["self", "value"] (spWGot C (· = .reads)) := by
  refine F.ok sc_w_looked (fun vs H Q E h => ?_) (fun cdv A outer s H vs Q E hr h => ?_)
  · obtain ⟨_, _, _, rfl, _⟩ := h
    rfl
  · obtain ⟨a, ⟨me, n, row, place, at_⟩, v, rfl, ⟨dx, r, q, h, hc⟩, hA, k⟩ := h
    have hr1 : Room 1 _ := hr.mono (by decide)
    have hr2 : Room 2 _ := hr.mono (by decide)
    have hA : at_ = .reads := hA
    subst hA
    refine ⟨_, (pss_cons (ps_if (pt_cmpR op_ne (pv 1) (pe_fld (pv 0) rfl) (nomark _)) (pss_one (ps_ret (pe_meth (pv 0) T.cl O.m O.ok hr O.b .nil pass0 (pa_cons (pe_fld (pv 0) rfl) pa_nil)))) pss_nil) (pss_cons (ps_fld (pv 0) pe_str rfl) (pss_one (ps_ret (pe_lst (pa_cons (pe_meth0 (pv 0) T.cl M.m M.ok hr2 M.b .nil pass0) pa_nil)))))), ?_⟩
    refine ⟨_, rfl, _, rfl, a, C, dx, _, _, rfl, h, T.cl, T.n_me, wF_me, rfl, _, rfl, ?_⟩
    obtain ⟨rfl, rfl, hrn, hn8⟩ : r = (row : Int) ∧ q = (place : Int) ∧ row < n ∧ n ≤ 8 := by
      rcases hc with z | z | z
      · cases z
      · cases z
      · exact z
    by_cases c : v = me
    · refine ifF (i_eq c) ⟨_, rfl, st_go h T.cl T.n_stand wF_len wF_p_stand ?_⟩
      refine ⟨_, rfl, a, dx, _, rfl, upd_same, wF_no_here, a, dx, _, _, row, place, _, rfl, upd_same, by omega, ?_⟩
      have e : Walker.got ⟨me, n, row, place, .reads⟩ v = some ⟨me, n, row, place, .stops⟩ := congrArg some (if_pos c)
      rw [e] at k
      exact fin_l k rfl (by show 1 ≤ 2; decide) upd_same (fun H2 z => ⟨dx, _, _, z, .inl rfl⟩) (Frm.refl H a).put
    · refine ifT (i_ne c) ?_
      have e : Walker.got ⟨me, n, row, place, .reads⟩ v = some (Walker.goes ⟨me, n, row, place, .reads⟩ false) := congrArg some (if_neg c)
      rw [e] at k
      exact ⟨_, rfl, a, dx, _, rfl, h, wF_no_go_on, _, rfl, a, C, dx, _, _, rfl, h, T.cl, T.n_place, wF_place, a, dx, ⟨me, n, row, place, .reads⟩, false, _, _, rfl, rfl, h, hrn, hn8, k⟩
theorem sc_w_got : FnScope ["self", "value"] ["self", "value"] (defScope (inClass (topS 29) 3)) := ⟨rfl, rfl, rfl, by decide +kernel, rfl, by decide +kernel, by decide +kernel⟩
theorem ok_w_got {f : Addr} {fd : FuncData} (F : Fun K "got" "Walker.got" (inClass (topS 29) 3) f fd) (T : Wt K C) (T0 : Ct mg) {fU : Addr} {dU : FuncData} (U : Md P w K mg base C "tried" 4 fU dU ["self", "value"] (spWGot C (· = .looks))) {fL : Addr} {dL : FuncData} (L : Md P w K mg base C "looked" 4 fL dL ["self", "value"] (spWGot C (· = .reads))) : FnOk P w K mg base CX0 5 f fd ["self", "value"] (spWGot C (fun _ => True)) := by
  refine F.ok sc_w_got (fun vs H Q E h => ?_) (fun cdv A outer s H vs Q E hr h => ?_)
  · obtain ⟨_, _, _, rfl, _⟩ := h
    rfl
  · obtain ⟨a, ⟨me, n, row, place, at_⟩, v, rfl, ⟨dx, r, q, h, hc⟩, _, k⟩ := h
    refine ⟨_, (pss_cons (ps_if (pt_cmpR op_eq (pe_fld (pv 0) rfl) pe_str (nomark _)) (pss_one (ps_ret (pe_meth (pv 0) T.cl U.m U.ok hr U.b .nil pass0 (pa_cons (pv 1) pa_nil)))) pss_nil) (pss_cons (ps_if (pt_cmpR op_eq (pe_fld (pv 0) rfl) pe_str (nomark _)) (pss_one (ps_ret (pe_meth (pv 0) T.cl L.m L.ok hr L.b .nil pass0 (pa_cons (pv 1) pa_nil)))) pss_nil) (pss_one (ps_ret (pe_lst (pa_cons (pe_ct T0.c_NOT_NOW rfl) pa_nil)))))), ?_⟩
    refine ⟨_, rfl, a, C, dx, _, _, rfl, h, T.cl, T.n_stand, wF_stand, rfl, _, rfl, ?_⟩
    cases at_ with
    | looks =>
      exact ifT s_eq ⟨_, rfl, a, dx, _, rfl, h, wF_no_tried, _, rfl, a, ⟨me, n, row, place, .looks⟩, v, rfl, ⟨dx, r, q, h, hc⟩, rfl, k⟩
    | reads =>
      refine ifF (s_ne (a := "looking") (by decide +kernel)) ⟨_, rfl, a, C, dx, _, _, rfl, h, T.cl, T.n_stand, wF_stand, rfl, _, rfl, ?_⟩
      exact ifT s_eq ⟨_, rfl, a, dx, _, rfl, h, wF_no_looked, _, rfl, a, ⟨me, n, row, place, .reads⟩, v, rfl, ⟨dx, r, q, h, hc⟩, rfl, k⟩
    | writes =>
      refine ifF (s_ne (a := "coming") (by decide +kernel)) ⟨_, rfl, a, C, dx, _, _, rfl, h, T.cl, T.n_stand, wF_stand, rfl, _, rfl, ?_⟩
      refine ifF (s_ne (a := "coming") (by decide +kernel)) ?_
      exact fin_l k rfl (by show 1 ≤ 2; decide) h (fun H2 z => ⟨dx, r, q, z, hc⟩) (Frm.refl H a)
    | shuts =>
      refine ifF (s_ne (a := "shutting") (by decide +kernel)) ⟨_, rfl, a, C, dx, _, _, rfl, h, T.cl, T.n_stand, wF_stand, rfl, _, rfl, ?_⟩
      refine ifF (s_ne (a := "shutting") (by decide +kernel)) ?_
      exact fin_l k rfl (by show 1 ≤ 2; decide) h (fun H2 z => ⟨dx, r, q, z, hc⟩) (Frm.refl H a)
    | stops =>
      refine ifF (s_ne (a := "done") (by decide +kernel)) ⟨_, rfl, a, C, dx, _, _, rfl, h, T.cl, T.n_stand, wF_stand, rfl, _, rfl, ?_⟩
      refine ifF (s_ne (a := "done") (by decide +kernel)) ?_
      exact fin_l k rfl (by show 1 ≤ 2; decide) h (fun H2 z => ⟨dx, r, q, z, hc⟩) (Frm.refl H a)
    | lost =>
      refine ifF (s_ne (a := "done") (by decide +kernel)) ⟨_, rfl, a, C, dx, _, _, rfl, h, T.cl, T.n_stand, wF_stand, rfl, _, rfl, ?_⟩
      refine ifF (s_ne (a := "done") (by decide +kernel)) ?_
      exact fin_l k rfl (by show 1 ≤ 2; decide) h (fun H2 z => ⟨dx, r, q, z, hc⟩) (Frm.refl H a)
end
end Rn
/-! # The guest's methods -/
namespace Rn
open PySem PySem.Spec PyProof.Rows L2
open Sv46 (Abs Guest Walker Spot At)
section
variable {P : Program} {w : World} {K : PySem.W.Frag} {mg : Str → Option Value} {base : Heap} {C CG CW : Addr}
theorem i_eqT {a b : Nat} (h : a = b) : decide (V.int (a : Int) = V.int (b : Int)) = true := by
  rw [h]
  exact decide_eq_true rfl
theorem i_neF {a b : Nat} (h : ¬ a = b) : decide (V.int (a : Int) = V.int (b : Int)) = false := by
  rw [decide_eq_false (show ¬ V.int (a : Int) = V.int (b : Int) from fun e => h (by have := V.int.inj e; omega))]
theorem max_cast {g v : Nat} : (if (v : Int) > (g : Int) then (v : Int) else (g : Int)) = ((max g v : Nat) : Int) := by
  by_cases h : g < v
  · rw [if_pos (by omega), Nat.max_eq_right (by omega)]
  · rw [if_neg (by omega), Nat.max_eq_left (by omega)]
theorem modW {h : Nat} : ((h : Int) + 1) % 18446744073709551616 = (((h + 1) % Sv46.W : Nat) : Int) := by
  unfold Sv46.W
  rw [Int.natCast_emod, Int.natCast_add]
  rfl
theorem sc_g___init__ : FnScope ["self", "me", "n"] ["self", "me", "n"] (defScope (inClass (topS 34) 0)) := ⟨rfl, rfl, rfl, by decide +kernel, rfl, by decide +kernel, by decide +kernel⟩
theorem ok_g___init__ {f : Addr} {fd : FuncData} (F : Fun K "__init__" "Guest.__init__" (inClass (topS 34) 0) f fd) (T : Gt K C) : FnOk P w K mg base CX0 1 f fd ["self", "me", "n"] (spGInit C) := by
  refine F.ok sc_g___init__ (fun vs H Q E h => ?_) (fun cdv A outer s H vs Q E hr h => ?_)
  · obtain ⟨_, _, _, _, rfl, _⟩ := h
    rfl
  · obtain ⟨a, dx, me, n, rfl, h, k⟩ := h
    refine ⟨_, (pss_cons (ps_fld (pv 0) (pv 1) rfl) (pss_cons (ps_fld (pv 0) (pv 2) rfl) (pss_cons (ps_fld (pv 0) pe_str rfl) (pss_cons (ps_fld (pv 0) pe_int rfl) (pss_cons (ps_fld (pv 0) pe_int rfl) (pss_one (ps_fld (pv 0) pe_int rfl))))))), ?_⟩
    refine ⟨_, rfl, _, rfl, st_go h T.cl T.n_me (by show 0 < 1000; decide) ptN ?_⟩
    refine ⟨_, rfl, _, rfl, st_go upd_same T.cl T.n_n (by show 1 < 1000; decide) (ptP (by decide +kernel) ptN) ?_⟩
    refine ⟨_, rfl, st_go upd_same T.cl T.n_stand (by show 2 < 1000; decide) (ptP (by decide +kernel) (ptP (by decide +kernel) ptN)) ?_⟩
    refine ⟨_, rfl, st_go upd_same T.cl T.n_other (by show 3 < 1000; decide) (ptP (by decide +kernel) (ptP (by decide +kernel) (ptP (by decide +kernel) ptN))) ?_⟩
    refine ⟨_, rfl, st_go upd_same T.cl T.n_drawn (by show 4 < 1000; decide) (ptP (by decide +kernel) (ptP (by decide +kernel) (ptP (by decide +kernel) (ptP (by decide +kernel) ptN)))) ?_⟩
    refine ⟨_, rfl, st_go upd_same T.cl T.n_greatest (by show 5 < 1000; decide) (ptP (by decide +kernel) (ptP (by decide +kernel) (ptP (by decide +kernel) (ptP (by decide +kernel) (ptP (by decide +kernel) ptN))))) ?_⟩
    exact k _ upd_same (Frm.refl H a).put.put.put.put.put.put
theorem sc_g_want : FnScope ["self"] ["self"] (defScope (inClass (topS 34) 1)) := ⟨rfl, rfl, rfl, by decide +kernel, rfl, by decide +kernel, by decide +kernel⟩
theorem ok_g_want {f : Addr} {fd : FuncData} (F : Fun K "want" "Guest.want" (inClass (topS 34) 1) f fd) (T : Gt K C) (T0 : Ct mg) : FnOk P w K mg base CX0 1 f fd ["self"] (spGWant C) := by
  refine F.ok sc_g_want (fun vs H Q E h => ?_) (fun cdv A outer s H vs Q E hr h => ?_)
  · obtain ⟨_, _, rfl, _⟩ := h
    rfl
  · obtain ⟨a, ⟨me, n, num, spot⟩, rfl, ⟨dx, o, g, h, hog⟩, k⟩ := h
    refine ⟨_, (pss_cons (ps_if (pt_cmpR op_ne (pe_fld (pv 0) rfl) pe_str (nomark _)) (pss_one (ps_ret (pe_lst (pa_cons (pe_ct T0.c_NOT_NOW rfl) pa_nil)))) pss_nil) (pss_cons (ps_fld (pv 0) pe_str rfl) (pss_one (ps_ret (pe_lst (pa_cons (pe_ct T0.c_WRITE_DRAWING rfl) pa_nil)))))), ?_⟩
    refine ⟨_, rfl, a, C, dx, _, _, rfl, h, T.cl, T.n_stand, gF_stand, rfl, _, rfl, ?_⟩
    cases spot with
    | outside =>
      refine ifF n_eq ⟨_, rfl, st_go h T.cl T.n_stand gF_len gF_p_stand ?_⟩
      have e : Guest.want ⟨me, n, num, .outside⟩ = some ⟨me, n, num, .draws⟩ := if_pos rfl
      rw [e] at k
      exact fin_l k rfl (by show 1 ≤ 2; decide) upd_same (fun H2 z => ⟨dx, o, g, z, trivial⟩) (Frm.refl H a).put
    | draws =>
      refine ifT (n_ne (a := "drawing") (by decide +kernel)) ?_
      have e : Guest.want ⟨me, n, num, .draws⟩ = none := if_neg (fun z => nomatch z)
      rw [e] at k
      exact fin_l k rfl (by show 1 ≤ 2; decide) h (fun H2 z => ⟨dx, o, g, z, hog⟩) (Frm.refl H a)
    | sees j gr =>
      refine ifT (n_ne (a := "seeing") (by decide +kernel)) ?_
      have e : Guest.want ⟨me, n, num, .sees j gr⟩ = none := if_neg (fun z => nomatch z)
      rw [e] at k
      exact fin_l k rfl (by show 1 ≤ 2; decide) h (fun H2 z => ⟨dx, o, g, z, hog⟩) (Frm.refl H a)
    | takes =>
      refine ifT (n_ne (a := "numbering") (by decide +kernel)) ?_
      have e : Guest.want ⟨me, n, num, .takes⟩ = none := if_neg (fun z => nomatch z)
      rw [e] at k
      exact fin_l k rfl (by show 1 ≤ 2; decide) h (fun H2 z => ⟨dx, o, g, z, hog⟩) (Frm.refl H a)
    | drawn =>
      refine ifT (n_ne (a := "drawn") (by decide +kernel)) ?_
      have e : Guest.want ⟨me, n, num, .drawn⟩ = none := if_neg (fun z => nomatch z)
      rw [e] at k
      exact fin_l k rfl (by show 1 ≤ 2; decide) h (fun H2 z => ⟨dx, o, g, z, hog⟩) (Frm.refl H a)
    | asks j =>
      refine ifT (n_ne (a := "watching") (by decide +kernel)) ?_
      have e : Guest.want ⟨me, n, num, .asks j⟩ = none := if_neg (fun z => nomatch z)
      rw [e] at k
      exact fin_l k rfl (by show 1 ≤ 2; decide) h (fun H2 z => ⟨dx, o, g, z, hog⟩) (Frm.refl H a)
    | waits j =>
      refine ifT (n_ne (a := "waiting") (by decide +kernel)) ?_
      have e : Guest.want ⟨me, n, num, .waits j⟩ = none := if_neg (fun z => nomatch z)
      rw [e] at k
      exact fin_l k rfl (by show 1 ≤ 2; decide) h (fun H2 z => ⟨dx, o, g, z, hog⟩) (Frm.refl H a)
    | inside =>
      refine ifT (n_ne (a := "inside") (by decide +kernel)) ?_
      have e : Guest.want ⟨me, n, num, .inside⟩ = none := if_neg (fun z => nomatch z)
      rw [e] at k
      exact fin_l k rfl (by show 1 ≤ 2; decide) h (fun H2 z => ⟨dx, o, g, z, hog⟩) (Frm.refl H a)
    | leaves =>
      refine ifT (n_ne (a := "leaving") (by decide +kernel)) ?_
      have e : Guest.want ⟨me, n, num, .leaves⟩ = none := if_neg (fun z => nomatch z)
      rw [e] at k
      exact fin_l k rfl (by show 1 ≤ 2; decide) h (fun H2 z => ⟨dx, o, g, z, hog⟩) (Frm.refl H a)
theorem sc_g_leave : FnScope ["self"] ["self"] (defScope (inClass (topS 34) 2)) := ⟨rfl, rfl, rfl, by decide +kernel, rfl, by decide +kernel, by decide +kernel⟩
theorem ok_g_leave {f : Addr} {fd : FuncData} (F : Fun K "leave" "Guest.leave" (inClass (topS 34) 2) f fd) (T : Gt K C) (T0 : Ct mg) : FnOk P w K mg base CX0 1 f fd ["self"] (spGLeave C) := by
  refine F.ok sc_g_leave (fun vs H Q E h => ?_) (fun cdv A outer s H vs Q E hr h => ?_)
  · obtain ⟨_, _, rfl, _⟩ := h
    rfl
  · obtain ⟨a, ⟨me, n, num, spot⟩, rfl, ⟨dx, o, g, h, hog⟩, k⟩ := h
    refine ⟨_, (pss_cons (ps_if (pt_cmpR op_ne (pe_fld (pv 0) rfl) pe_str (nomark _)) (pss_one (ps_ret (pe_lst (pa_cons (pe_ct T0.c_NOT_NOW rfl) pa_nil)))) pss_nil) (pss_cons (ps_fld (pv 0) pe_str rfl) (pss_cons (ps_fld (pv 0) pe_int rfl) (pss_one (ps_ret (pe_lst (pa_cons (pe_ct T0.c_WRITE_NUMBER rfl) pa_nil))))))), ?_⟩
    refine ⟨_, rfl, a, C, dx, _, _, rfl, h, T.cl, T.n_stand, gF_stand, rfl, _, rfl, ?_⟩
    cases spot with
    | outside =>
      refine ifT (n_ne (a := "outside") (by decide +kernel)) ?_
      have e : Guest.leave ⟨me, n, num, .outside⟩ = none := if_neg (fun z => nomatch z)
      rw [e] at k
      exact fin_l k rfl (by show 1 ≤ 2; decide) h (fun H2 z => ⟨dx, o, g, z, hog⟩) (Frm.refl H a)
    | draws =>
      refine ifT (n_ne (a := "drawing") (by decide +kernel)) ?_
      have e : Guest.leave ⟨me, n, num, .draws⟩ = none := if_neg (fun z => nomatch z)
      rw [e] at k
      exact fin_l k rfl (by show 1 ≤ 2; decide) h (fun H2 z => ⟨dx, o, g, z, hog⟩) (Frm.refl H a)
    | sees j gr =>
      refine ifT (n_ne (a := "seeing") (by decide +kernel)) ?_
      have e : Guest.leave ⟨me, n, num, .sees j gr⟩ = none := if_neg (fun z => nomatch z)
      rw [e] at k
      exact fin_l k rfl (by show 1 ≤ 2; decide) h (fun H2 z => ⟨dx, o, g, z, hog⟩) (Frm.refl H a)
    | takes =>
      refine ifT (n_ne (a := "numbering") (by decide +kernel)) ?_
      have e : Guest.leave ⟨me, n, num, .takes⟩ = none := if_neg (fun z => nomatch z)
      rw [e] at k
      exact fin_l k rfl (by show 1 ≤ 2; decide) h (fun H2 z => ⟨dx, o, g, z, hog⟩) (Frm.refl H a)
    | drawn =>
      refine ifT (n_ne (a := "drawn") (by decide +kernel)) ?_
      have e : Guest.leave ⟨me, n, num, .drawn⟩ = none := if_neg (fun z => nomatch z)
      rw [e] at k
      exact fin_l k rfl (by show 1 ≤ 2; decide) h (fun H2 z => ⟨dx, o, g, z, hog⟩) (Frm.refl H a)
    | asks j =>
      refine ifT (n_ne (a := "watching") (by decide +kernel)) ?_
      have e : Guest.leave ⟨me, n, num, .asks j⟩ = none := if_neg (fun z => nomatch z)
      rw [e] at k
      exact fin_l k rfl (by show 1 ≤ 2; decide) h (fun H2 z => ⟨dx, o, g, z, hog⟩) (Frm.refl H a)
    | waits j =>
      refine ifT (n_ne (a := "waiting") (by decide +kernel)) ?_
      have e : Guest.leave ⟨me, n, num, .waits j⟩ = none := if_neg (fun z => nomatch z)
      rw [e] at k
      exact fin_l k rfl (by show 1 ≤ 2; decide) h (fun H2 z => ⟨dx, o, g, z, hog⟩) (Frm.refl H a)
    | inside =>
      refine ifF n_eq ⟨_, rfl, st_go h T.cl T.n_stand gF_len gF_p_stand ?_⟩
      refine ⟨_, rfl, st_go upd_same T.cl T.n_drawn gF_len gF_p_drawn ?_⟩
      have e : Guest.leave ⟨me, n, num, .inside⟩ = some ⟨me, n, 0, .leaves⟩ := if_pos rfl
      rw [e] at k
      exact fin_l k rfl (by show 1 ≤ 2; decide) upd_same (fun H2 z => ⟨dx, o, g, z, trivial⟩) (Frm.refl H a).put.put
    | leaves =>
      refine ifT (n_ne (a := "leaving") (by decide +kernel)) ?_
      have e : Guest.leave ⟨me, n, num, .leaves⟩ = none := if_neg (fun z => nomatch z)
      rw [e] at k
      exact fin_l k rfl (by show 1 ≤ 2; decide) h (fun H2 z => ⟨dx, o, g, z, hog⟩) (Frm.refl H a)
theorem sc_g_number : FnScope ["self"] ["self"] (defScope (inClass (topS 34) 5)) := ⟨rfl, rfl, rfl, by decide +kernel, rfl, by decide +kernel, by decide +kernel⟩
theorem ok_g_number {f : Addr} {fd : FuncData} (F : Fun K "number" "Guest.number" (inClass (topS 34) 5) f fd) (T : Gt K C) (T0 : Ct mg) : FnOk P w K mg base CX0 1 f fd ["self"] (spGNum C) := by
  refine F.ok sc_g_number (fun vs H Q E h => ?_) (fun cdv A outer s H vs Q E hr h => ?_)
  · obtain ⟨_, _, rfl, _⟩ := h
    rfl
  · obtain ⟨a, ⟨me, n, num, spot⟩, rfl, ⟨dx, o, g, h, hog⟩, k⟩ := h
    refine ⟨_, (pss_cons (ps_if (PW.pt (pw_and (pt_cmpR op_ne (pe_fld (pv 0) rfl) pe_str (nomark _)) (pw_and1 (pt_cmpR op_ne (pe_fld (pv 0) rfl) pe_str (nomark _))))) (pss_one (ps_ret (pe_lst (pa_cons (pe_ct T0.c_NOT_NOW rfl) pa_nil)))) pss_nil) (pss_one (ps_ret (pe_lst (pa_cons pe_int (pa_cons (pe_fld (pv 0) rfl) pa_nil)))))), ?_⟩
    refine ⟨_, rfl, a, C, dx, _, _, rfl, h, T.cl, T.n_stand, gF_stand, rfl, _, rfl, ?_⟩
    cases spot with
    | outside =>
      refine ifT (n_ne (a := "outside") (by decide +kernel)) ⟨_, rfl, a, C, dx, _, _, rfl, h, T.cl, T.n_stand, gF_stand, rfl, _, rfl, ?_⟩
      refine ifT (n_ne (a := "outside") (by decide +kernel)) ?_
      have e : gNum ⟨me, n, num, .outside⟩ = [-4] := if_neg (fun z => z.elim (fun z => nomatch z) (fun z => nomatch z))
      rw [e] at k
      exact fin_l k rfl (by show 1 ≤ 2; decide) h (fun H2 z => ⟨dx, o, g, z, hog⟩) (Frm.refl H a)
    | draws =>
      refine ifT (n_ne (a := "drawing") (by decide +kernel)) ⟨_, rfl, a, C, dx, _, _, rfl, h, T.cl, T.n_stand, gF_stand, rfl, _, rfl, ?_⟩
      refine ifT (n_ne (a := "drawing") (by decide +kernel)) ?_
      have e : gNum ⟨me, n, num, .draws⟩ = [-4] := if_neg (fun z => z.elim (fun z => nomatch z) (fun z => nomatch z))
      rw [e] at k
      exact fin_l k rfl (by show 1 ≤ 2; decide) h (fun H2 z => ⟨dx, o, g, z, hog⟩) (Frm.refl H a)
    | sees j gr =>
      refine ifT (n_ne (a := "seeing") (by decide +kernel)) ⟨_, rfl, a, C, dx, _, _, rfl, h, T.cl, T.n_stand, gF_stand, rfl, _, rfl, ?_⟩
      refine ifT (n_ne (a := "seeing") (by decide +kernel)) ?_
      have e : gNum ⟨me, n, num, .sees j gr⟩ = [-4] := if_neg (fun z => z.elim (fun z => nomatch z) (fun z => nomatch z))
      rw [e] at k
      exact fin_l k rfl (by show 1 ≤ 2; decide) h (fun H2 z => ⟨dx, o, g, z, hog⟩) (Frm.refl H a)
    | takes =>
      refine ifF n_eq (ifF rfl ?_)
      have e : gNum ⟨me, n, num, .takes⟩ = [0, (num : Int)] := if_pos (.inl rfl)
      rw [e] at k
      refine ⟨_, rfl, a, C, dx, _, _, rfl, h, T.cl, T.n_drawn, gF_drawn, ?_⟩
      exact fin_l k rfl (by show 2 ≤ 2; decide) h (fun H2 z => ⟨dx, o, g, z, hog⟩) (Frm.refl H a)
    | drawn =>
      refine ifT (n_ne (a := "drawn") (by decide +kernel)) ⟨_, rfl, a, C, dx, _, _, rfl, h, T.cl, T.n_stand, gF_stand, rfl, _, rfl, ?_⟩
      refine ifT (n_ne (a := "drawn") (by decide +kernel)) ?_
      have e : gNum ⟨me, n, num, .drawn⟩ = [-4] := if_neg (fun z => z.elim (fun z => nomatch z) (fun z => nomatch z))
      rw [e] at k
      exact fin_l k rfl (by show 1 ≤ 2; decide) h (fun H2 z => ⟨dx, o, g, z, hog⟩) (Frm.refl H a)
    | asks j =>
      refine ifT (n_ne (a := "watching") (by decide +kernel)) ⟨_, rfl, a, C, dx, _, _, rfl, h, T.cl, T.n_stand, gF_stand, rfl, _, rfl, ?_⟩
      refine ifT (n_ne (a := "watching") (by decide +kernel)) ?_
      have e : gNum ⟨me, n, num, .asks j⟩ = [-4] := if_neg (fun z => z.elim (fun z => nomatch z) (fun z => nomatch z))
      rw [e] at k
      exact fin_l k rfl (by show 1 ≤ 2; decide) h (fun H2 z => ⟨dx, o, g, z, hog⟩) (Frm.refl H a)
    | waits j =>
      refine ifT (n_ne (a := "waiting") (by decide +kernel)) ⟨_, rfl, a, C, dx, _, _, rfl, h, T.cl, T.n_stand, gF_stand, rfl, _, rfl, ?_⟩
      refine ifT (n_ne (a := "waiting") (by decide +kernel)) ?_
      have e : gNum ⟨me, n, num, .waits j⟩ = [-4] := if_neg (fun z => z.elim (fun z => nomatch z) (fun z => nomatch z))
      rw [e] at k
      exact fin_l k rfl (by show 1 ≤ 2; decide) h (fun H2 z => ⟨dx, o, g, z, hog⟩) (Frm.refl H a)
    | inside =>
      refine ifT (n_ne (a := "inside") (by decide +kernel)) ⟨_, rfl, a, C, dx, _, _, rfl, h, T.cl, T.n_stand, gF_stand, rfl, _, rfl, ?_⟩
      refine ifT (n_ne (a := "inside") (by decide +kernel)) ?_
      have e : gNum ⟨me, n, num, .inside⟩ = [-4] := if_neg (fun z => z.elim (fun z => nomatch z) (fun z => nomatch z))
      rw [e] at k
      exact fin_l k rfl (by show 1 ≤ 2; decide) h (fun H2 z => ⟨dx, o, g, z, hog⟩) (Frm.refl H a)
    | leaves =>
      refine ifT (n_ne (a := "leaving") (by decide +kernel)) ⟨_, rfl, a, C, dx, _, _, rfl, h, T.cl, T.n_stand, gF_stand, rfl, _, rfl, ?_⟩
      refine ifF n_eq ?_
      have e : gNum ⟨me, n, num, .leaves⟩ = [0, (num : Int)] := if_pos (.inr rfl)
      rw [e] at k
      refine ⟨_, rfl, a, C, dx, _, _, rfl, h, T.cl, T.n_drawn, gF_drawn, ?_⟩
      exact fin_l k rfl (by show 2 ≤ 2; decide) h (fun H2 z => ⟨dx, o, g, z, hog⟩) (Frm.refl H a)
theorem sc_g_look_at : FnScope ["self", "j"] ["self", "j"] (defScope (inClass (topS 34) 7)) := ⟨rfl, rfl, rfl, by decide +kernel, rfl, by decide +kernel, by decide +kernel⟩
theorem ok_g_look_at {f : Addr} {fd : FuncData} (F : Fun K "look_at" "Guest.look_at" (inClass (topS 34) 7) f fd) (T : Gt K C) (T0 : Ct mg) {fD : Addr} {dD : FuncData} (D : Gd P w K mg base "drawing_of" 1 fD dD ["j"] (spAdd 16)) : FnOk P w K mg base CX0 2 f fd ["self", "j"] (spLook C) := by
  refine F.ok sc_g_look_at (fun vs H Q E h => ?_) (fun cdv A outer s H vs Q E hr h => ?_)
  · obtain ⟨_, _, _, _, _, _, _, rfl, _⟩ := h
    rfl
  · obtain ⟨a, dx, x, j, o, g, st, rfl, h, k⟩ := h
    refine ⟨_, (pss_cons (ps_if (pt_cmpR op_eq (pv 1) (pe_fld (pv 0) rfl) (nomark _)) (pss_one (ps_aug (i := 1) sc_g_look_at.nd rfl (.inl rfl) pe_int ip_add)) pss_nil) (pss_cons (ps_if (pt_cmpR op_ge (pv 1) (pe_fld (pv 0) rfl) (nomark _)) (pss_cons (ps_fld (pv 0) pe_str rfl) (pss_one (ps_ret (pe_lst (pa_cons (pe_ct T0.c_INSIDE rfl) pa_nil))))) pss_nil) (pss_cons (ps_fld (pv 0) (pv 1) rfl) (pss_cons (ps_fld (pv 0) pe_str rfl) (pss_one (ps_ret (pe_lst (pa_cons (pe_call D.ok hr rfl D.m D.kp D.b .nil pass0 (pa_cons (pv 1) pa_nil)) pa_nil)))))))), ?_⟩
    refine ⟨_, rfl, _, rfl, a, C, dx, _, _, rfl, h, T.cl, T.n_me, gF_me, rfl, _, rfl, ?_⟩
    by_cases c : j = x.me
    · refine ifT (i_eqT c) ⟨_, rfl, _, _, rfl, rfl, ?_⟩
      refine ⟨_, rfl, _, rfl, a, C, dx, _, _, rfl, h, T.cl, T.n_n, gF_n, _, _, rfl, rfl, _, rfl, ?_⟩
      by_cases c2 : j + 1 < x.n
      · refine ifF (decide_eq_false (show ¬ (x.n : Int) ≤ (j : Int) + 1 by omega)) ⟨_, rfl, _, rfl, st_go h T.cl T.n_other gF_len gF_p_other ?_⟩
        refine ⟨_, rfl, st_go upd_same T.cl T.n_stand gF_len gF_p_stand ?_⟩
        have e : x.next j = { x with spot := .asks (j + 1) } := by
          show (if (if j = x.me then j + 1 else j) < x.n then ({ x with spot := .asks (if j = x.me then j + 1 else j) } : Guest) else { x with spot := .inside }) = _
          rw [if_pos c, if_pos c2]
        rw [e] at k
        refine ⟨_, rfl, _, rfl, ?_⟩
        exact fin_l k (one_int (Int.natCast_add _ _)) (by show 1 ≤ 2; decide) upd_same (fun H2 z => ⟨dx, _, g, z, rfl⟩) (Frm.refl H a).put.put
      · refine ifT (decide_eq_true (show (x.n : Int) ≤ (j : Int) + 1 by omega)) ⟨_, rfl, st_go h T.cl T.n_stand gF_len gF_p_stand ?_⟩
        have e : x.next j = { x with spot := .inside } := by
          show (if (if j = x.me then j + 1 else j) < x.n then ({ x with spot := .asks (if j = x.me then j + 1 else j) } : Guest) else { x with spot := .inside }) = _
          rw [if_pos c, if_neg c2]
        rw [e] at k
        exact fin_l k rfl (by show 1 ≤ 2; decide) upd_same (fun H2 z => ⟨dx, _, g, z, trivial⟩) (Frm.refl H a).put
    · refine ifF (i_neF c) ?_
      refine ⟨_, rfl, _, rfl, a, C, dx, _, _, rfl, h, T.cl, T.n_n, gF_n, _, _, rfl, rfl, _, rfl, ?_⟩
      by_cases c2 : j < x.n
      · refine ifF (decide_eq_false (show ¬ (x.n : Int) ≤ (j : Int) by omega)) ⟨_, rfl, _, rfl, st_go h T.cl T.n_other gF_len gF_p_other ?_⟩
        refine ⟨_, rfl, st_go upd_same T.cl T.n_stand gF_len gF_p_stand ?_⟩
        have e : x.next j = { x with spot := .asks (j) } := by
          show (if (if j = x.me then j + 1 else j) < x.n then ({ x with spot := .asks (if j = x.me then j + 1 else j) } : Guest) else { x with spot := .inside }) = _
          rw [if_neg c, if_pos c2]
        rw [e] at k
        refine ⟨_, rfl, _, rfl, ?_⟩
        exact fin_l k (one_int (Int.natCast_add _ _)) (by show 1 ≤ 2; decide) upd_same (fun H2 z => ⟨dx, _, g, z, rfl⟩) (Frm.refl H a).put.put
      · refine ifT (decide_eq_true (show (x.n : Int) ≤ (j : Int) by omega)) ⟨_, rfl, st_go h T.cl T.n_stand gF_len gF_p_stand ?_⟩
        have e : x.next j = { x with spot := .inside } := by
          show (if (if j = x.me then j + 1 else j) < x.n then ({ x with spot := .asks (if j = x.me then j + 1 else j) } : Guest) else { x with spot := .inside }) = _
          rw [if_neg c, if_neg c2]
        rw [e] at k
        exact fin_l k rfl (by show 1 ≤ 2; decide) upd_same (fun H2 z => ⟨dx, _, g, z, trivial⟩) (Frm.refl H a).put
theorem sc_g_wrote : FnScope ["self"] ["self"] (defScope (inClass (topS 34) 4)) := ⟨rfl, rfl, rfl, by decide +kernel, rfl, by decide +kernel, by decide +kernel⟩
theorem ok_g_wrote {f : Addr} {fd : FuncData} (F : Fun K "wrote" "Guest.wrote" (inClass (topS 34) 4) f fd) (T : Gt K C) (T0 : Ct mg) {fN : Addr} {dN : FuncData} (N : Gd P w K mg base "number_of" 1 fN dN ["j"] (spAdd 32)) {fL : Addr} {dL : FuncData} (L : Md P w K mg base C "look_at" 2 fL dL ["self", "j"] (spLook C)) : FnOk P w K mg base CX0 3 f fd ["self"] (spGWrote C) := by
  refine F.ok sc_g_wrote (fun vs H Q E h => ?_) (fun cdv A outer s H vs Q E hr h => ?_)
  · obtain ⟨_, _, rfl, _⟩ := h
    rfl
  · obtain ⟨a, ⟨me, n, num, spot⟩, rfl, ⟨dx, o, g, h, hog⟩, k⟩ := h
    have hr1 : Room 1 _ := hr.mono (by decide)
    refine ⟨_, (pss_cons (ps_if (pt_cmpR op_eq (pe_fld (pv 0) rfl) pe_str (nomark _)) (pss_cons (ps_fld (pv 0) pe_str rfl) (pss_cons (ps_fld (pv 0) pe_int rfl) (pss_cons (ps_fld (pv 0) pe_int rfl) (pss_one (ps_ret (pe_lst (pa_cons (pe_call N.ok hr1 rfl N.m N.kp N.b .nil pass0 (pa_cons pe_int pa_nil)) pa_nil))))))) pss_nil) (pss_cons (ps_if (pt_cmpR op_eq (pe_fld (pv 0) rfl) pe_str (nomark _)) (pss_cons (ps_fld (pv 0) pe_str rfl) (pss_one (ps_ret (pe_lst (pa_cons (pe_ct T0.c_WRITE_NOT_DRAWING rfl) pa_nil))))) pss_nil) (pss_cons (ps_if (pt_cmpR op_eq (pe_fld (pv 0) rfl) pe_str (nomark _)) (pss_one (ps_ret (pe_meth (pv 0) T.cl L.m L.ok hr L.b .nil pass0 (pa_cons pe_int pa_nil)))) pss_nil) (pss_cons (ps_if (pt_cmpR op_eq (pe_fld (pv 0) rfl) pe_str (nomark _)) (pss_cons (ps_fld (pv 0) pe_str rfl) (pss_one (ps_ret (pe_lst (pa_cons (pe_ct T0.c_OUTSIDE rfl) pa_nil))))) pss_nil) (pss_one (ps_ret (pe_lst (pa_cons (pe_ct T0.c_NOT_NOW rfl) pa_nil)))))))), ?_⟩
    refine ⟨_, rfl, a, C, dx, _, _, rfl, h, T.cl, T.n_stand, gF_stand, rfl, _, rfl, ?_⟩
    cases spot with
    | outside =>
      refine ifF (s_ne (a := "outside") (by decide +kernel)) ⟨_, rfl, a, C, dx, _, _, rfl, h, T.cl, T.n_stand, gF_stand, rfl, _, rfl, ?_⟩
      refine ifF (s_ne (a := "outside") (by decide +kernel)) ⟨_, rfl, a, C, dx, _, _, rfl, h, T.cl, T.n_stand, gF_stand, rfl, _, rfl, ?_⟩
      refine ifF (s_ne (a := "outside") (by decide +kernel)) ⟨_, rfl, a, C, dx, _, _, rfl, h, T.cl, T.n_stand, gF_stand, rfl, _, rfl, ?_⟩
      refine ifF (s_ne (a := "outside") (by decide +kernel)) ?_
      exact fin_l k rfl (by show 1 ≤ 2; decide) h (fun H2 z => ⟨dx, o, g, z, hog⟩) (Frm.refl H a)
    | draws =>
      refine ifT s_eq ⟨_, rfl, st_go h T.cl T.n_stand gF_len gF_p_stand ?_⟩
      refine ⟨_, rfl, st_go upd_same T.cl T.n_other gF_len gF_p_other ?_⟩
      refine ⟨_, rfl, st_go upd_same T.cl T.n_greatest gF_len gF_p_greatest ?_⟩
      refine ⟨_, rfl, ?_⟩
      exact fin_l k (one_int rfl) (by show 1 ≤ 2; decide) upd_same (fun H2 z => ⟨dx, _, _, z, rfl, rfl⟩) (Frm.refl H a).put.put.put
    | sees j gr =>
      refine ifF (s_ne (a := "seeing") (by decide +kernel)) ⟨_, rfl, a, C, dx, _, _, rfl, h, T.cl, T.n_stand, gF_stand, rfl, _, rfl, ?_⟩
      refine ifF (s_ne (a := "seeing") (by decide +kernel)) ⟨_, rfl, a, C, dx, _, _, rfl, h, T.cl, T.n_stand, gF_stand, rfl, _, rfl, ?_⟩
      refine ifF (s_ne (a := "seeing") (by decide +kernel)) ⟨_, rfl, a, C, dx, _, _, rfl, h, T.cl, T.n_stand, gF_stand, rfl, _, rfl, ?_⟩
      refine ifF (s_ne (a := "seeing") (by decide +kernel)) ?_
      exact fin_l k rfl (by show 1 ≤ 2; decide) h (fun H2 z => ⟨dx, o, g, z, hog⟩) (Frm.refl H a)
    | takes =>
      refine ifF (s_ne (a := "numbering") (by decide +kernel)) ⟨_, rfl, a, C, dx, _, _, rfl, h, T.cl, T.n_stand, gF_stand, rfl, _, rfl, ?_⟩
      refine ifT s_eq ⟨_, rfl, st_go h T.cl T.n_stand gF_len gF_p_stand ?_⟩
      exact fin_l k rfl (by show 1 ≤ 2; decide) upd_same (fun H2 z => ⟨dx, _, _, z, trivial⟩) (Frm.refl H a).put
    | drawn =>
      refine ifF (s_ne (a := "drawn") (by decide +kernel)) ⟨_, rfl, a, C, dx, _, _, rfl, h, T.cl, T.n_stand, gF_stand, rfl, _, rfl, ?_⟩
      refine ifF (s_ne (a := "drawn") (by decide +kernel)) ⟨_, rfl, a, C, dx, _, _, rfl, h, T.cl, T.n_stand, gF_stand, rfl, _, rfl, ?_⟩
      exact ifT s_eq ⟨_, rfl, a, dx, _, rfl, h, gF_no_look_at, a, dx, ⟨me, n, num, .drawn⟩, 0, o, g, _, rfl, h, k⟩
    | asks j =>
      refine ifF (s_ne (a := "watching") (by decide +kernel)) ⟨_, rfl, a, C, dx, _, _, rfl, h, T.cl, T.n_stand, gF_stand, rfl, _, rfl, ?_⟩
      refine ifF (s_ne (a := "watching") (by decide +kernel)) ⟨_, rfl, a, C, dx, _, _, rfl, h, T.cl, T.n_stand, gF_stand, rfl, _, rfl, ?_⟩
      refine ifF (s_ne (a := "watching") (by decide +kernel)) ⟨_, rfl, a, C, dx, _, _, rfl, h, T.cl, T.n_stand, gF_stand, rfl, _, rfl, ?_⟩
      refine ifF (s_ne (a := "watching") (by decide +kernel)) ?_
      exact fin_l k rfl (by show 1 ≤ 2; decide) h (fun H2 z => ⟨dx, o, g, z, hog⟩) (Frm.refl H a)
    | waits j =>
      refine ifF (s_ne (a := "waiting") (by decide +kernel)) ⟨_, rfl, a, C, dx, _, _, rfl, h, T.cl, T.n_stand, gF_stand, rfl, _, rfl, ?_⟩
      refine ifF (s_ne (a := "waiting") (by decide +kernel)) ⟨_, rfl, a, C, dx, _, _, rfl, h, T.cl, T.n_stand, gF_stand, rfl, _, rfl, ?_⟩
      refine ifF (s_ne (a := "waiting") (by decide +kernel)) ⟨_, rfl, a, C, dx, _, _, rfl, h, T.cl, T.n_stand, gF_stand, rfl, _, rfl, ?_⟩
      refine ifF (s_ne (a := "waiting") (by decide +kernel)) ?_
      exact fin_l k rfl (by show 1 ≤ 2; decide) h (fun H2 z => ⟨dx, o, g, z, hog⟩) (Frm.refl H a)
    | inside =>
      refine ifF (s_ne (a := "inside") (by decide +kernel)) ⟨_, rfl, a, C, dx, _, _, rfl, h, T.cl, T.n_stand, gF_stand, rfl, _, rfl, ?_⟩
      refine ifF (s_ne (a := "inside") (by decide +kernel)) ⟨_, rfl, a, C, dx, _, _, rfl, h, T.cl, T.n_stand, gF_stand, rfl, _, rfl, ?_⟩
      refine ifF (s_ne (a := "inside") (by decide +kernel)) ⟨_, rfl, a, C, dx, _, _, rfl, h, T.cl, T.n_stand, gF_stand, rfl, _, rfl, ?_⟩
      refine ifF (s_ne (a := "inside") (by decide +kernel)) ?_
      exact fin_l k rfl (by show 1 ≤ 2; decide) h (fun H2 z => ⟨dx, o, g, z, hog⟩) (Frm.refl H a)
    | leaves =>
      refine ifF (s_ne (a := "leaving") (by decide +kernel)) ⟨_, rfl, a, C, dx, _, _, rfl, h, T.cl, T.n_stand, gF_stand, rfl, _, rfl, ?_⟩
      refine ifF (s_ne (a := "leaving") (by decide +kernel)) ⟨_, rfl, a, C, dx, _, _, rfl, h, T.cl, T.n_stand, gF_stand, rfl, _, rfl, ?_⟩
      refine ifF (s_ne (a := "leaving") (by decide +kernel)) ⟨_, rfl, a, C, dx, _, _, rfl, h, T.cl, T.n_stand, gF_stand, rfl, _, rfl, ?_⟩
      refine ifT s_eq ⟨_, rfl, st_go h T.cl T.n_stand gF_len gF_p_stand ?_⟩
      exact fin_l k rfl (by show 1 ≤ 2; decide) upd_same (fun H2 z => ⟨dx, _, _, z, trivial⟩) (Frm.refl H a).put
theorem sc_g_seen : FnScope ["self", "value"] ["self", "value"] (defScope (inClass (topS 34) 6)) := ⟨rfl, rfl, rfl, by decide +kernel, rfl, by decide +kernel, by decide +kernel⟩
theorem ok_g_seen {f : Addr} {fd : FuncData} (F : Fun K "seen" "Guest.seen" (inClass (topS 34) 6) f fd) (T : Gt K C) (T0 : Ct mg) {fN : Addr} {dN : FuncData} (N : Gd P w K mg base "number_of" 1 fN dN ["j"] (spAdd 32)) (hmx : mg "max" = none) : FnOk P w K mg base CX0 2 f fd ["self", "value"] (spGGot C (fun s => ∃ j gr, s = .sees j gr)) := by
  refine F.ok sc_g_seen (fun vs H Q E h => ?_) (fun cdv A outer s H vs Q E hr h => ?_)
  · obtain ⟨_, _, _, rfl, _⟩ := h
    rfl
  · obtain ⟨a, ⟨me, n, num, spot⟩, v, rfl, ⟨dx, o, g, h, hog⟩, hA, k⟩ := h
    have hA : ∃ j gr, spot = .sees j gr := hA
    obtain ⟨j, gr, rfl⟩ := hA
    obtain ⟨rfl, rfl⟩ : o = (j : Int) ∧ g = (gr : Int) := hog
    refine ⟨_, (pss_cons (ps_fld (pv 0) (pe_callB (call_max2 rfl) (by rfl) hmx (by decide +kernel) (pa_cons (pe_fld (pv 0) rfl) (pa_cons (pv 1) pa_nil))) rfl) (pss_cons (ps_fldaug (pv 0) pe_int in_add) (pss_cons (ps_if (pt_cmpR op_lt (pe_fld (pv 0) rfl) (pe_fld (pv 0) rfl) (nomark _)) (pss_one (ps_ret (pe_lst (pa_cons (pe_call N.ok hr rfl N.m N.kp N.b .nil pass0 (pa_cons (pe_fld (pv 0) rfl) pa_nil)) pa_nil)))) pss_nil) (pss_cons (ps_fld (pv 0) pe_str rfl) (pss_cons (ps_fld (pv 0) (pe_op op_mod (pe_op op_add (pe_fld (pv 0) rfl) pe_int) (pe_ct T0.c_ALL rfl)) rfl) (pss_one (ps_ret (pe_lst (pa_cons (pe_ct T0.c_WRITE_NUMBER rfl) pa_nil))))))))), ?_⟩
    refine ⟨_, rfl, a, C, dx, _, _, rfl, h, T.cl, T.n_greatest, gF_greatest, _, rfl, _, _, rfl, _, rfl, st_go h T.cl T.n_greatest gF_len ((gF_p_greatest).trans (by rw [max_cast])) ?_⟩
    refine ⟨_, rfl, a, C, dx, _, _, rfl, upd_same, T.cl, T.n_other, gF_other, _, _, rfl, rfl, st_op upd_same gF_len gF_p_other ?_⟩
    refine ⟨_, rfl, a, C, dx, _, _, rfl, upd_same, T.cl, T.n_other, gF_other, _, rfl, a, C, dx, _, _, rfl, upd_same, T.cl, T.n_n, gF_n, _, _, rfl, rfl, _, rfl, ?_⟩
    by_cases c : j + 1 < n
    · refine ifT (decide_eq_true (by show (j : Int) + 1 < (n : Int); omega)) ?_
      have e : Guest.got ⟨me, n, num, .sees j gr⟩ v = some ⟨me, n, num, .sees (j + 1) (max gr v)⟩ := congrArg some (if_pos c)
      rw [e] at k
      refine ⟨_, rfl, a, C, dx, _, _, rfl, upd_same, T.cl, T.n_other, gF_other, _, rfl, ?_⟩
      exact fin_l k (one_int (Int.natCast_add _ _)) (by show 1 ≤ 2; decide) upd_same (fun H2 z => ⟨dx, _, _, z, rfl, rfl⟩) (Frm.refl H a).put.put
    · refine ifF (decide_eq_false (by show ¬ (j : Int) + 1 < (n : Int); omega)) ⟨_, rfl, st_go upd_same T.cl T.n_stand gF_len gF_p_stand ?_⟩
      have e : Guest.got ⟨me, n, num, .sees j gr⟩ v = some ⟨me, n, (max gr v + 1) % Sv46.W, .takes⟩ := congrArg some (if_neg c)
      rw [e] at k
      refine ⟨_, rfl, a, C, dx, _, _, rfl, upd_same, T.cl, T.n_greatest, gF_greatest, _, _, rfl, rfl, _, _, rfl, rfl, (by show (0 : Int) < 18446744073709551616; decide), _, rfl, st_go upd_same T.cl T.n_drawn gF_len ((gF_p_drawn).trans (by rw [modW])) ?_⟩
      exact fin_l k rfl (by show 1 ≤ 2; decide) upd_same (fun H2 z => ⟨dx, _, _, z, trivial⟩) (Frm.refl H a).put.put.put.put
theorem sc_g_watched : FnScope ["self", "value"] ["self", "value"] (defScope (inClass (topS 34) 8)) := ⟨rfl, rfl, rfl, by decide +kernel, rfl, by decide +kernel, by decide +kernel⟩
theorem ok_g_watched {f : Addr} {fd : FuncData} (F : Fun K "watched" "Guest.watched" (inClass (topS 34) 8) f fd) (T : Gt K C) {fN : Addr} {dN : FuncData} (N : Gd P w K mg base "number_of" 1 fN dN ["j"] (spAdd 32)) {fD : Addr} {dD : FuncData} (D : Gd P w K mg base "drawing_of" 1 fD dD ["j"] (spAdd 16)) : FnOk P w K mg base CX0 2 f fd ["self", "value"] (spGGot C (fun s => ∃ j, s = .asks j)) := by
  refine F.ok sc_g_watched (fun vs H Q E h => ?_) (fun cdv A outer s H vs Q E hr h => ?_)
  · obtain ⟨_, _, _, rfl, _⟩ := h
    rfl
  · obtain ⟨a, ⟨me, n, num, spot⟩, v, rfl, ⟨dx, o, g, h, hog⟩, hA, k⟩ := h
    have hA : ∃ j, spot = .asks j := hA
    obtain ⟨j, rfl⟩ := hA
    obtain rfl : o = (j : Int) := hog
    refine ⟨_, (pss_cons (ps_if (pt_cmpR op_ne (pv 1) pe_int (nomark _)) (pss_one (ps_ret (pe_lst (pa_cons (pe_call D.ok hr rfl D.m D.kp D.b .nil pass0 (pa_cons (pe_fld (pv 0) rfl) pa_nil)) pa_nil)))) pss_nil) (pss_cons (ps_fld (pv 0) pe_str rfl) (pss_one (ps_ret (pe_lst (pa_cons (pe_call N.ok hr rfl N.m N.kp N.b .nil pass0 (pa_cons (pe_fld (pv 0) rfl) pa_nil)) pa_nil)))))), ?_⟩
    refine ⟨_, rfl, rfl, _, rfl, ?_⟩
    by_cases c : v = 0
    · refine ifF (i_eq c) ⟨_, rfl, st_go h T.cl T.n_stand gF_len gF_p_stand ?_⟩
      have e : Guest.got ⟨me, n, num, .asks j⟩ v = some ⟨me, n, num, .waits j⟩ := congrArg some (if_pos c)
      rw [e] at k
      refine ⟨_, rfl, a, C, dx, _, _, rfl, upd_same, T.cl, T.n_other, gF_other, _, rfl, ?_⟩
      exact fin_l k (one_int (Int.natCast_add _ _)) (by show 1 ≤ 2; decide) upd_same (fun H2 z => ⟨dx, _, _, z, rfl⟩) (Frm.refl H a).put
    · refine ifT (i_ne c) ?_
      have e : Guest.got ⟨me, n, num, .asks j⟩ v = some ⟨me, n, num, .asks j⟩ := congrArg some (if_neg c)
      rw [e] at k
      refine ⟨_, rfl, a, C, dx, _, _, rfl, h, T.cl, T.n_other, gF_other, _, rfl, ?_⟩
      exact fin_l k (one_int (Int.natCast_add _ _)) (by show 1 ≤ 2; decide) h (fun H2 z => ⟨dx, _, _, z, rfl⟩) (Frm.refl H a)
theorem sc_g_goes_behind : FnScope ["self", "value"] ["self", "value"] (defScope (inClass (topS 34) 9)) := ⟨rfl, rfl, rfl, by decide +kernel, rfl, by decide +kernel, by decide +kernel⟩
theorem ok_g_goes_behind {f : Addr} {fd : FuncData} (F : Fun K "goes_behind" "Guest.goes_behind" (inClass (topS 34) 9) f fd) (T : Gt K C) : FnOk P w K mg base CX0 1 f fd ["self", "value"] (spBehind C) := by
  refine F.ok sc_g_goes_behind (fun vs H Q E h => ?_) (fun cdv A outer s H vs Q E hr h => ?_)
  · obtain ⟨_, _, _, _, _, _, _, rfl, _⟩ := h
    rfl
  · obtain ⟨a, dx, x, j, v, g, st, rfl, h, k⟩ := h
    refine ⟨_, (pss_cons (ps_if (PW.pt (pw_or (pt_cmpR op_eq (pv 1) pe_int (nomark _)) (pw_or1 (pt_cmpR op_gt (pv 1) (pe_fld (pv 0) rfl) (nomark _))))) (pss_one (ps_ret pe_bl)) pss_nil) (pss_one (ps_ret (pe_and (pe_cmpR op_eq (pv 1) (pe_fld (pv 0) rfl) (nomark _)) (pe_one (pe_cmpR op_gt (pe_fld (pv 0) rfl) (pe_fld (pv 0) rfl) (nomark _))))))), ?_⟩
    refine ⟨_, rfl, rfl, _, rfl, ?_⟩
    by_cases c : v = 0
    · refine ifT (i_eqT c) (ifT rfl ?_)
      exact q_bl k (decide_eq_true (.inl c))
    · refine ifF (i_neF c) ⟨_, rfl, _, rfl, a, C, dx, _, _, rfl, h, T.cl, T.n_drawn, gF_drawn, _, _, rfl, rfl, _, rfl, ?_⟩
      by_cases c2 : x.number < v
      · refine ifT (decide_eq_true (by omega)) ?_
        exact q_bl k (decide_eq_true (.inr (.inl c2)))
      · refine ifF (decide_eq_false (by omega)) ⟨_, rfl, _, rfl, a, C, dx, _, _, rfl, h, T.cl, T.n_drawn, gF_drawn, rfl, _, rfl, ?_⟩
        by_cases c3 : v = x.number
        · refine ifT (i_eqT c3) ⟨_, rfl, a, C, dx, _, _, rfl, h, T.cl, T.n_other, gF_other, _, rfl, a, C, dx, _, _, rfl, h, T.cl, T.n_me, gF_me, _, _, rfl, rfl, ?_⟩
          exact q_bl k (decide_eq_decide.mpr (by omega))
        · refine ifF (i_neF c3) ?_
          exact q_bl k (decide_eq_false (by omega))
theorem sc_g_waited : FnScope ["self", "value"] ["self", "value"] (defScope (inClass (topS 34) 10)) := ⟨rfl, rfl, rfl, by decide +kernel, rfl, by decide +kernel, by decide +kernel⟩
theorem ok_g_waited {f : Addr} {fd : FuncData} (F : Fun K "waited" "Guest.waited" (inClass (topS 34) 10) f fd) (T : Gt K C) {fN : Addr} {dN : FuncData} (N : Gd P w K mg base "number_of" 1 fN dN ["j"] (spAdd 32)) {fL : Addr} {dL : FuncData} (L : Md P w K mg base C "look_at" 2 fL dL ["self", "j"] (spLook C)) {fB : Addr} {dB : FuncData} (B : Md P w K mg base C "goes_behind" 1 fB dB ["self", "value"] (spBehind C)) : FnOk P w K mg base CX0 3 f fd ["self", "value"] (spGGot C (fun s => ∃ j, s = .waits j)) := by
  refine F.ok sc_g_waited (fun vs H Q E h => ?_) (fun cdv A outer s H vs Q E hr h => ?_)
  · obtain ⟨_, _, _, rfl, _⟩ := h
    rfl
  · obtain ⟨a, ⟨me, n, num, spot⟩, v, rfl, ⟨dx, o, g, h, hog⟩, hA, k⟩ := h
    have hr1 : Room 1 _ := hr.mono (by decide)
    have hA : ∃ j, spot = .waits j := hA
    obtain ⟨j, rfl⟩ := hA
    obtain rfl : o = (j : Int) := hog
    refine ⟨_, (pss_cons (ps_if (pt_not (pt_val (pe_meth (pv 0) T.cl B.m B.ok hr1 B.b .nil pass0 (pa_cons (pv 1) pa_nil)))) (pss_one (ps_ret (pe_lst (pa_cons (pe_call N.ok hr1 rfl N.m N.kp N.b .nil pass0 (pa_cons (pe_fld (pv 0) rfl) pa_nil)) pa_nil)))) pss_nil) (pss_one (ps_ret (pe_meth (pv 0) T.cl L.m L.ok hr L.b .nil pass0 (pa_cons (pe_op op_add (pe_fld (pv 0) rfl) pe_int) pa_nil))))), ?_⟩
    refine ⟨_, rfl, a, dx, _, rfl, h, gF_no_goes_behind, _, rfl, a, dx, ⟨me, n, num, .waits j⟩, j, v, g, _, rfl, h, _, rfl, ?_⟩
    by_cases c : v = 0 ∨ num < v ∨ (v = num ∧ me < j)
    · refine ifF (by rw [decide_eq_true c]; rfl) ?_
      have e : Guest.got ⟨me, n, num, .waits j⟩ v = some (Guest.next ⟨me, n, num, .waits j⟩ (j + 1)) := congrArg some (if_pos c)
      rw [e] at k
      exact ⟨_, rfl, a, dx, _, rfl, h, gF_no_look_at, _, rfl, a, C, dx, _, _, rfl, h, T.cl, T.n_other, gF_other, _, _, rfl, rfl, a, dx, ⟨me, n, num, .waits j⟩, j + 1, _, g, _, rfl, h, k⟩
    · refine ifT (by rw [decide_eq_false c]; rfl) ?_
      have e : Guest.got ⟨me, n, num, .waits j⟩ v = some ⟨me, n, num, .waits j⟩ := congrArg some (if_neg c)
      rw [e] at k
      refine ⟨_, rfl, a, C, dx, _, _, rfl, h, T.cl, T.n_other, gF_other, _, rfl, ?_⟩
      exact fin_l k (one_int (Int.natCast_add _ _)) (by show 1 ≤ 2; decide) h (fun H2 z => ⟨dx, _, _, z, rfl⟩) (Frm.refl H a)
theorem sc_g_got : FnScope ["self", "value"] ["self", "value"] (defScope (inClass (topS 34) 3)) := ⟨rfl, rfl, rfl, by decide +kernel, rfl, by decide +kernel, by decide +kernel⟩
theorem ok_g_got {f : Addr} {fd : FuncData} (F : Fun K "got" "Guest.got" (inClass (topS 34) 3) f fd) (T : Gt K C) (T0 : Ct mg) {fS : Addr} {dS : FuncData} (S : Md P w K mg base C "seen" 2 fS dS ["self", "value"] (spGGot C (fun s => ∃ j gr, s = .sees j gr))) {fW : Addr} {dW : FuncData} (W : Md P w K mg base C "watched" 2 fW dW ["self", "value"] (spGGot C (fun s => ∃ j, s = .asks j))) {fV1 : Addr} {dV1 : FuncData} (V1 : Md P w K mg base C "waited" 3 fV1 dV1 ["self", "value"] (spGGot C (fun s => ∃ j, s = .waits j))) : FnOk P w K mg base CX0 4 f fd ["self", "value"] (spGGot C (fun _ => True)) := by
  refine F.ok sc_g_got (fun vs H Q E h => ?_) (fun cdv A outer s H vs Q E hr h => ?_)
  · obtain ⟨_, _, _, rfl, _⟩ := h
    rfl
  · obtain ⟨a, ⟨me, n, num, spot⟩, v, rfl, ⟨dx, o, g, h, hog⟩, _, k⟩ := h
    have hr2 : Room 2 _ := hr.mono (by decide)
    refine ⟨_, (pss_cons (ps_if (pt_cmpR op_eq (pe_fld (pv 0) rfl) pe_str (nomark _)) (pss_one (ps_ret (pe_meth (pv 0) T.cl S.m S.ok hr2 S.b .nil pass0 (pa_cons (pv 1) pa_nil)))) pss_nil) (pss_cons (ps_if (pt_cmpR op_eq (pe_fld (pv 0) rfl) pe_str (nomark _)) (pss_one (ps_ret (pe_meth (pv 0) T.cl W.m W.ok hr2 W.b .nil pass0 (pa_cons (pv 1) pa_nil)))) pss_nil) (pss_cons (ps_if (pt_cmpR op_eq (pe_fld (pv 0) rfl) pe_str (nomark _)) (pss_one (ps_ret (pe_meth (pv 0) T.cl V1.m V1.ok hr V1.b .nil pass0 (pa_cons (pv 1) pa_nil)))) pss_nil) (pss_one (ps_ret (pe_lst (pa_cons (pe_ct T0.c_NOT_NOW rfl) pa_nil))))))), ?_⟩
    refine ⟨_, rfl, a, C, dx, _, _, rfl, h, T.cl, T.n_stand, gF_stand, rfl, _, rfl, ?_⟩
    cases spot with
    | outside =>
      refine ifF (s_ne (a := "outside") (by decide +kernel)) ⟨_, rfl, a, C, dx, _, _, rfl, h, T.cl, T.n_stand, gF_stand, rfl, _, rfl, ?_⟩
      refine ifF (s_ne (a := "outside") (by decide +kernel)) ⟨_, rfl, a, C, dx, _, _, rfl, h, T.cl, T.n_stand, gF_stand, rfl, _, rfl, ?_⟩
      refine ifF (s_ne (a := "outside") (by decide +kernel)) ?_
      exact fin_l k rfl (by show 1 ≤ 2; decide) h (fun H2 z => ⟨dx, o, g, z, hog⟩) (Frm.refl H a)
    | draws =>
      refine ifF (s_ne (a := "drawing") (by decide +kernel)) ⟨_, rfl, a, C, dx, _, _, rfl, h, T.cl, T.n_stand, gF_stand, rfl, _, rfl, ?_⟩
      refine ifF (s_ne (a := "drawing") (by decide +kernel)) ⟨_, rfl, a, C, dx, _, _, rfl, h, T.cl, T.n_stand, gF_stand, rfl, _, rfl, ?_⟩
      refine ifF (s_ne (a := "drawing") (by decide +kernel)) ?_
      exact fin_l k rfl (by show 1 ≤ 2; decide) h (fun H2 z => ⟨dx, o, g, z, hog⟩) (Frm.refl H a)
    | sees j gr =>
      exact ifT s_eq ⟨_, rfl, a, dx, _, rfl, h, gF_no_seen, _, rfl, a, ⟨me, n, num, .sees j gr⟩, v, rfl, ⟨dx, o, g, h, hog⟩, ⟨j, gr, rfl⟩, k⟩
    | takes =>
      refine ifF (s_ne (a := "numbering") (by decide +kernel)) ⟨_, rfl, a, C, dx, _, _, rfl, h, T.cl, T.n_stand, gF_stand, rfl, _, rfl, ?_⟩
      refine ifF (s_ne (a := "numbering") (by decide +kernel)) ⟨_, rfl, a, C, dx, _, _, rfl, h, T.cl, T.n_stand, gF_stand, rfl, _, rfl, ?_⟩
      refine ifF (s_ne (a := "numbering") (by decide +kernel)) ?_
      exact fin_l k rfl (by show 1 ≤ 2; decide) h (fun H2 z => ⟨dx, o, g, z, hog⟩) (Frm.refl H a)
    | drawn =>
      refine ifF (s_ne (a := "drawn") (by decide +kernel)) ⟨_, rfl, a, C, dx, _, _, rfl, h, T.cl, T.n_stand, gF_stand, rfl, _, rfl, ?_⟩
      refine ifF (s_ne (a := "drawn") (by decide +kernel)) ⟨_, rfl, a, C, dx, _, _, rfl, h, T.cl, T.n_stand, gF_stand, rfl, _, rfl, ?_⟩
      refine ifF (s_ne (a := "drawn") (by decide +kernel)) ?_
      exact fin_l k rfl (by show 1 ≤ 2; decide) h (fun H2 z => ⟨dx, o, g, z, hog⟩) (Frm.refl H a)
    | asks j =>
      refine ifF (s_ne (a := "watching") (by decide +kernel)) ⟨_, rfl, a, C, dx, _, _, rfl, h, T.cl, T.n_stand, gF_stand, rfl, _, rfl, ?_⟩
      exact ifT s_eq ⟨_, rfl, a, dx, _, rfl, h, gF_no_watched, _, rfl, a, ⟨me, n, num, .asks j⟩, v, rfl, ⟨dx, o, g, h, hog⟩, ⟨j, rfl⟩, k⟩
    | waits j =>
      refine ifF (s_ne (a := "waiting") (by decide +kernel)) ⟨_, rfl, a, C, dx, _, _, rfl, h, T.cl, T.n_stand, gF_stand, rfl, _, rfl, ?_⟩
      refine ifF (s_ne (a := "waiting") (by decide +kernel)) ⟨_, rfl, a, C, dx, _, _, rfl, h, T.cl, T.n_stand, gF_stand, rfl, _, rfl, ?_⟩
      exact ifT s_eq ⟨_, rfl, a, dx, _, rfl, h, gF_no_waited, _, rfl, a, ⟨me, n, num, .waits j⟩, v, rfl, ⟨dx, o, g, h, hog⟩, ⟨j, rfl⟩, k⟩
    | inside =>
      refine ifF (s_ne (a := "inside") (by decide +kernel)) ⟨_, rfl, a, C, dx, _, _, rfl, h, T.cl, T.n_stand, gF_stand, rfl, _, rfl, ?_⟩
      refine ifF (s_ne (a := "inside") (by decide +kernel)) ⟨_, rfl, a, C, dx, _, _, rfl, h, T.cl, T.n_stand, gF_stand, rfl, _, rfl, ?_⟩
      refine ifF (s_ne (a := "inside") (by decide +kernel)) ?_
      exact fin_l k rfl (by show 1 ≤ 2; decide) h (fun H2 z => ⟨dx, o, g, z, hog⟩) (Frm.refl H a)
    | leaves =>
      refine ifF (s_ne (a := "leaving") (by decide +kernel)) ⟨_, rfl, a, C, dx, _, _, rfl, h, T.cl, T.n_stand, gF_stand, rfl, _, rfl, ?_⟩
      refine ifF (s_ne (a := "leaving") (by decide +kernel)) ⟨_, rfl, a, C, dx, _, _, rfl, h, T.cl, T.n_stand, gF_stand, rfl, _, rfl, ?_⟩
      refine ifF (s_ne (a := "leaving") (by decide +kernel)) ?_
      exact fin_l k rfl (by show 1 ≤ 2; decide) h (fun H2 z => ⟨dx, o, g, z, hog⟩) (Frm.refl H a)
end
end Rn
/-! # The eight objects: what a call leaves of them; rules for the table of deeds -/
namespace Rn
open PySem PySem.Spec PyProof.Rows L2
open Sv46 (Abs Guest Walker Spot At)
section
variable {P : Program} {w : World} {K : PySem.W.Frag} {mg : Str → Option Value} {base : Heap} {C CG CW : Addr}
/-! ### what the specification's step is, call by call -/
theorem step_of {S : List Abs} {c : Sv46Neutral.Call} {k : Nat} {x : Sv46.Call} (e : Sv46Neutral.callOf c = some (k, x)) :
    Sv46Neutral.step S c = (S.set k (Sv46.does (S.getD k Abs.none) x).1, (Sv46.does (S.getD k Abs.none) x).2.v :: Sv46Neutral.ints (Sv46.does (S.getD k Abs.none) x).2.l) := by
  unfold Sv46Neutral.step
  rw [e]
theorem as_g (x : Guest) (r : Option Guest) : (Sv46.asGuest x r).1 = .guest (gRes x r).1 ∧ (Sv46.asGuest x r).2.v :: Sv46Neutral.ints (Sv46.asGuest x r).2.l = (gRes x r).2 := by
  cases r <;> exact ⟨rfl, rfl⟩
theorem as_w (x : Walker) (r : Option Walker) : (Sv46.asWalker x r).1 = .walker (wRes x r).1 ∧ (Sv46.asWalker x r).2.v :: Sv46Neutral.ints (Sv46.asWalker x r).2.l = (wRes x r).2 := by
  cases r <;> exact ⟨rfl, rfl⟩
theorem step_want {S : List Abs} {k : Int} {x : Guest} (e : S.getD k.toNat Abs.none = .guest x) : Sv46Neutral.step S [[1, k]] = (S.set k.toNat (.guest (gRes x x.want).1), (gRes x x.want).2) := by
  rw [step_of (c := [[1, k]]) (k := k.toNat) rfl, e]
  have h := as_g x x.want
  exact Prod.ext (congrArg (S.set k.toNat) h.1) h.2
theorem step_got {S : List Abs} {k : Int} {v : Nat} {x : Guest} (e : S.getD k.toNat Abs.none = .guest x) : Sv46Neutral.step S [[2, k, (v : Int)]] = (S.set k.toNat (.guest (gRes x (x.got v)).1), (gRes x (x.got v)).2) := by
  rw [step_of (c := [[2, k, (v : Int)]]) (k := k.toNat) rfl, e]
  have h := as_g x (x.got v)
  exact Prod.ext (congrArg (S.set k.toNat) h.1) h.2
theorem step_wrote {S : List Abs} {k : Int} {x : Guest} (e : S.getD k.toNat Abs.none = .guest x) : Sv46Neutral.step S [[3, k]] = (S.set k.toNat (.guest (gRes x x.wrote).1), (gRes x x.wrote).2) := by
  rw [step_of (c := [[3, k]]) (k := k.toNat) rfl, e]
  have h := as_g x x.wrote
  exact Prod.ext (congrArg (S.set k.toNat) h.1) h.2
theorem step_leave {S : List Abs} {k : Int} {x : Guest} (e : S.getD k.toNat Abs.none = .guest x) : Sv46Neutral.step S [[4, k]] = (S.set k.toNat (.guest (gRes x x.leave).1), (gRes x x.leave).2) := by
  rw [step_of (c := [[4, k]]) (k := k.toNat) rfl, e]
  have h := as_g x x.leave
  exact Prod.ext (congrArg (S.set k.toNat) h.1) h.2
theorem step_gotn {S : List Abs} {k : Int} {v : Nat} {x : Walker} (e : S.getD k.toNat Abs.none = .walker x) : Sv46Neutral.step S [[7, k, (v : Int)]] = (S.set k.toNat (.walker (wRes x (x.got v)).1), (wRes x (x.got v)).2) := by
  rw [step_of (c := [[7, k, (v : Int)]]) (k := k.toNat) rfl, e]
  have h := as_w x (x.got v)
  exact Prod.ext (congrArg (S.set k.toNat) h.1) h.2
theorem step_wroten {S : List Abs} {k : Int} {x : Walker} (e : S.getD k.toNat Abs.none = .walker x) : Sv46Neutral.step S [[8, k]] = (S.set k.toNat (.walker (wRes x x.wrote).1), (wRes x x.wrote).2) := by
  rw [step_of (c := [[8, k]]) (k := k.toNat) rfl, e]
  have h := as_w x x.wrote
  exact Prod.ext (congrArg (S.set k.toNat) h.1) h.2
theorem step_num {S : List Abs} {k : Int} {x : Guest} (e : S.getD k.toNat Abs.none = .guest x) : Sv46Neutral.step S [[5, k]] = (S.set k.toNat (.guest x), gNum x) := by
  rw [step_of (c := [[5, k]]) (k := k.toNat) rfl, e]
  refine Prod.ext rfl ?_
  show ((if x.spot = .takes ∨ x.spot = .leaves then (⟨0, [x.number]⟩ : Sv46.Ans) else Sv46.ok (-4)).v :: Sv46Neutral.ints (if x.spot = .takes ∨ x.spot = .leaves then (⟨0, [x.number]⟩ : Sv46.Ans) else Sv46.ok (-4)).l) = gNum x
  unfold gNum
  by_cases c : x.spot = .takes ∨ x.spot = .leaves
  · rw [if_pos c, if_pos c]
    rfl
  · rw [if_neg c, if_neg c]
    rfl
theorem step_begin {S : List Abs} {k me n : Int} (c : 2 ≤ n ∧ n ≤ 8 ∧ 0 ≤ me ∧ me < n) : Sv46Neutral.step S [[0, k, me, n]] = (S.set k.toNat (.guest (Sv46.guest me.toNat n.toNat)), [0]) := by
  rw [step_of (c := [[0, k, me, n]]) (k := k.toNat) rfl]
  have e : Sv46.does (S.getD k.toNat Abs.none) (.beginGuest me n) = (.guest (Sv46.guest me.toNat n.toNat), Sv46.ok 0) := if_pos c
  rw [e]
  rfl
theorem step_beginN {S : List Abs} {k me n : Int} (c : ¬ (2 ≤ n ∧ n ≤ 8 ∧ 0 ≤ me ∧ me < n)) : Sv46Neutral.step S [[0, k, me, n]] = (S.set k.toNat (S.getD k.toNat Abs.none), [-2]) := by
  rw [step_of (c := [[0, k, me, n]]) (k := k.toNat) rfl]
  have e : Sv46.does (S.getD k.toNat Abs.none) (.beginGuest me n) = (S.getD k.toNat Abs.none, Sv46.ok (-2)) := if_neg c
  rw [e]
  rfl
theorem step_nbegin {S : List Abs} {k n : Int} {me : Nat} (c : 1 ≤ n ∧ n ≤ 8 ∧ me ≠ 0) : Sv46Neutral.step S [[6, k, (me : Int), n]] = (S.set k.toNat (.walker (Sv46.walker me n.toNat)), [128]) := by
  rw [step_of (c := [[6, k, (me : Int), n]]) (k := k.toNat) (x := .beginWalker me n) rfl]
  have e : Sv46.does (S.getD k.toNat Abs.none) (.beginWalker me n) = (.walker (Sv46.walker me n.toNat), Sv46.ok 128) := if_pos c
  rw [e]
  rfl
theorem step_nbeginN {S : List Abs} {k n : Int} {me : Nat} (c : ¬ (1 ≤ n ∧ n ≤ 8 ∧ me ≠ 0)) : Sv46Neutral.step S [[6, k, (me : Int), n]] = (S.set k.toNat (S.getD k.toNat Abs.none), [-2]) := by
  rw [step_of (c := [[6, k, (me : Int), n]]) (k := k.toNat) (x := .beginWalker me n) rfl]
  have e : Sv46.does (S.getD k.toNat Abs.none) (.beginWalker me n) = (S.getD k.toNat Abs.none, Sv46.ok (-2)) := if_neg c
  rw [e]
  rfl
/-! ### lists by place -/
theorem getD_set_same {S : List Abs} {i : Nat} {x : Abs} (h : i < S.length) : (S.set i x).getD i Abs.none = x := by
  rw [List.getD_eq_getElem?_getD, List.getElem?_set_self h]
  rfl
theorem getD_set_ne {S : List Abs} {i j : Nat} {x : Abs} (h : ¬ i = j) : (S.set i x).getD j Abs.none = S.getD j Abs.none := by
  rw [List.getD_eq_getElem?_getD, List.getD_eq_getElem?_getD, List.getElem?_set_ne h]
theorem set_getD {S : List Abs} {i : Nat} : S.set i (S.getD i Abs.none) = S := by
  refine List.ext_getElem? fun j => ?_
  by_cases h : i = j
  · subst h
    by_cases hl : i < S.length
    · rw [List.getElem?_set_self hl, List.getD_eq_getElem?_getD, List.getElem?_eq_getElem hl]
      rfl
    · rw [List.getElem?_eq_none (by rw [List.length_set]; omega), List.getElem?_eq_none (by omega)]
  · rw [List.getElem?_set_ne h]
/-! ### the objects behind a call -/
theorem GAt.ins {a : Addr} {x : Guest} {H : Hp} (h : GAt C a x H) : ∃ dx fs, H a = some (.ins C dx fs) := by
  obtain ⟨dx, o, g, e, _⟩ := h
  exact ⟨dx, _, e⟩
theorem WAt.ins {a : Addr} {x : Walker} {H : Hp} (h : WAt C a x H) : ∃ dx fs, H a = some (.ins C dx fs) := by
  obtain ⟨dx, o, g, e, _⟩ := h
  exact ⟨dx, _, e⟩
theorem GAt.keep {a : Addr} {x : Guest} {H H2 : Hp} (h : GAt C a x H) (k : ∀ o, H a = some o → H2 a = some o) : GAt C a x H2 := by
  obtain ⟨dx, o, g, e, og⟩ := h
  exact ⟨dx, o, g, k _ e, og⟩
theorem WAt.keep {a : Addr} {x : Walker} {H H2 : Hp} (h : WAt C a x H) (k : ∀ o, H a = some o → H2 a = some o) : WAt C a x H2 := by
  obtain ⟨dx, o, g, e, og⟩ := h
  exact ⟨dx, o, g, k _ e, og⟩
theorem Lies.keep {H H2 : Hp} : ∀ {s : Abs} {v : V}, Lies CG CW H s v → (∀ a, v = .ref a → ∀ o, H a = some o → H2 a = some o) → Lies CG CW H2 s v
  | .none, _, h, _ => h
  | .guest _, _, ⟨a, e, h⟩, k => ⟨a, e, h.keep (k a e)⟩
  | .walker _, _, ⟨a, e, h⟩, k => ⟨a, e, h.keep (k a e)⟩
/-- an object of the list is an instance -/
theorem Lies.ins {H : Hp} : ∀ {s : Abs} {a : Addr}, Lies CG CW H s (.ref a) → ∃ C1 dx fs, H a = some (.ins C1 dx fs)
  | .none, _, h => nomatch h
  | .guest _, _, ⟨_, e, h⟩ => by
    cases e
    obtain ⟨dx, fs, e⟩ := h.ins
    exact ⟨_, dx, fs, e⟩
  | .walker _, _, ⟨_, e, h⟩ => by
    cases e
    obtain ⟨dx, fs, e⟩ := h.ins
    exact ⟨_, dx, fs, e⟩
theorem ins_ne_lst {H : Hp} {a b C1 dx : Addr} {fs : List (Str × V)} {os : List V} (h1 : H a = some (.ins C1 dx fs)) (h2 : H b = some (.lst os)) : a ≠ b := ne_of h1 h2 (fun z => nomatch z)
section
variable {H H2 : Hp} {b : Addr} {os : List V} {S : List Abs}
theorem Obs.place (O : Obs CG CW H b os S) {k : Int} (k0 : 0 ≤ k) (k8 : k < 8) : ∃ v, os[k.toNat]? = some v ∧ atI os k = some v ∧ ixN os.length k = some k.toNat ∧ Lies CG CW H (S.getD k.toNat Abs.none) v := by
  have hl : k.toNat < os.length := by rw [O.lo]; omega
  have e : os[k.toNat]? = some os[k.toNat] := List.getElem?_eq_getElem hl
  refine ⟨_, e, at_of (by omega) e, ?_, O.each _ _ e⟩
  unfold ixN
  rw [if_pos k0, if_pos (by omega)]
theorem Obs.guest (O : Obs CG CW H b os S) {k : Int} (k0 : 0 ≤ k) (k8 : k < 8) {x : Guest} (e : S.getD k.toNat Abs.none = .guest x) : ∃ a, os[k.toNat]? = some (.ref a) ∧ atI os k = some (.ref a) ∧ GAt CG a x H := by
  obtain ⟨v, h1, h2, _, h3⟩ := O.place k0 k8
  rw [e] at h3
  obtain ⟨a, rfl, h⟩ := h3
  exact ⟨a, h1, h2, h⟩
theorem Obs.walker (O : Obs CG CW H b os S) {k : Int} (k0 : 0 ≤ k) (k8 : k < 8) {x : Walker} (e : S.getD k.toNat Abs.none = .walker x) : ∃ a, os[k.toNat]? = some (.ref a) ∧ atI os k = some (.ref a) ∧ WAt CW a x H := by
  obtain ⟨v, h1, h2, _, h3⟩ := O.place k0 k8
  rw [e] at h3
  obtain ⟨a, rfl, h⟩ := h3
  exact ⟨a, h1, h2, h⟩
/-- all that was there still stands -/
theorem Obs.same (O : Obs CG CW H b os S) (s : Same H H2) : Obs CG CW H2 b os S := ⟨s _ _ O.at_, O.lo, O.ls, fun i v e => (O.each i v e).keep fun a _ o h => s a o h, O.inj⟩
/-- the object at a place has changed -/
theorem Obs.turn (O : Obs CG CW H b os S) {a : Addr} {i : Nat} {y : Abs} (hi : os[i]? = some (.ref a)) (hy : Lies CG CW H2 y (.ref a)) (fr : Frm H H2 a) : Obs CG CW H2 b os (S.set i y) := by
  obtain ⟨C1, dx, fs, ha⟩ := (O.each i _ hi).ins
  have hb : b ≠ a := Ne.symm (ins_ne_lst ha O.at_)
  have hl : i < S.length := by
    have := (List.getElem?_eq_some_iff.mp hi).1
    rw [O.ls, ← O.lo]
    exact this
  refine ⟨fr b _ O.at_ hb, O.lo, by rw [List.length_set]; exact O.ls, fun j v e => ?_, O.inj⟩
  by_cases h : i = j
  · subst h
    rw [hi] at e
    cases e
    rw [getD_set_same hl]
    exact hy
  · rw [getD_set_ne h]
    refine (O.each j v e).keep fun c ec o hc => fr c o hc fun z => ?_
    subst ec z
    exact h (O.inj i j c hi e)
theorem Frm.kept (fr : Frm H H2 a) {C1 dx : Addr} {fs : List (Str × V)} (ha : H a = some (.ins C1 dx fs)) : Kept H H2 b := fun c o hc _ ho => fr c o hc fun z => by
  subst z
  rw [ha] at hc
  exact ho _ _ _ (Option.some.inj hc).symm
/-- a new object is put at a place -/
theorem Obs.put {H1 : Hp} (O : Obs CG CW H b os S) {x : Addr} {i : Nat} {y : Abs} (s : Same H H1) (nx : H x = none) (hi : i < 8) (hy : Lies CG CW H1 y (.ref x)) :
    Obs CG CW (upd H1 b (.lst (os.set i (.ref x)))) b (os.set i (.ref x)) (S.set i y) := by
  have hb1 : H1 b = some (.lst os) := s _ _ O.at_
  have ne : ∀ c C1 dx fs, H1 c = some (.ins C1 dx fs) → c ≠ b := fun c C1 dx fs h => ins_ne_lst h hb1
  have nox : ∀ j : Nat, ¬ os[j]? = some (.ref x) := fun j e => by
    obtain ⟨C1, dx, fs, h⟩ := (O.each j _ e).ins
    rw [nx] at h
    cases h
  have hlo : i < os.length := by rw [O.lo]; exact hi
  have hls : i < S.length := by rw [O.ls]; exact hi
  refine ⟨upd_same, by rw [List.length_set]; exact O.lo, by rw [List.length_set]; exact O.ls, fun j v e => ?_, fun j k a ej ek => ?_⟩
  · by_cases h : i = j
    · subst h
      rw [List.getElem?_set_self hlo] at e
      cases e
      rw [getD_set_same hls]
      obtain ⟨C1, dx, fs, h⟩ := hy.ins
      refine hy.keep fun c ec o hc => ?_
      cases ec
      rw [upd_ne (ne _ _ _ _ h)]
      exact hc
    · rw [List.getElem?_set_ne h] at e
      rw [getD_set_ne h]
      refine (O.each j v e).keep fun c ec o hc => ?_
      subst ec
      obtain ⟨C1, dx, fs, h2⟩ := (O.each j _ e).ins
      rw [upd_ne (ne _ _ _ _ (s _ _ h2))]
      exact s _ _ hc
  · by_cases h : i = j
    · by_cases h2 : i = k
      · omega
      · subst h
        rw [List.getElem?_set_self hlo] at ej
        cases ej
        rw [List.getElem?_set_ne h2] at ek
        exact (nox k ek).elim
    · by_cases h2 : i = k
      · subst h2
        rw [List.getElem?_set_self hlo] at ek
        cases ek
        rw [List.getElem?_set_ne h] at ej
        exact (nox j ej).elim
      · rw [List.getElem?_set_ne h] at ej
        rw [List.getElem?_set_ne h2] at ek
        exact O.inj j k a ej ek
theorem same_new {p : Addr} {o : HO} (hp : H p = none) : Same H (upd H p o) := fun c u h => by
  rw [upd_ne (ne_of_none h hp)]
  exact h
end
/-! ### the table of deeds: a dict of the top with whole numbers for keys; a call of a name that holds a def -/
def KDI (K : PySem.W.Frag) (a : Addr) (i : Int) (v : V) : Prop := ∃ (es : Array DictEntry) (n : Nat) (u : Value), K.lookup a = some ⟨.type "dict", none, .dict es n, #[]⟩ ∧
  (∀ e ∈ es, ∃ k t, e.key = .int k t ∧ e.hash = hashInt k) ∧ findBy Value.isInt es i = some u ∧ RelV v u
theorem ix_kdi {X : Cx} : IxR X (fun x y H Q => ∃ p i v, x = .ref p ∧ y = .int i ∧ KDI X.K p i v ∧ Q v H) := by
  intro ve se pins st sl hp xv yv xu yu Q inv rx ry want plain
  obtain ⟨p, i, v, rfl, rfl, ⟨es, n, u, at_p, keys, found, rel⟩, q⟩ := want
  obtain rfl : xu = Value.ref p := rx
  obtain ⟨tok, rfl⟩ := ry
  have table : st.heap.MapOf (intKind X.prog X.w) p (fun k => findBy Value.isInt es k) := by
    refine ⟨_, es, n, inv.kIn _ _ at_p, ⟨rfl, rfl, rfl⟩, rfl, fun e he => ?_, fun _ => rfl⟩
    obtain ⟨k, t, e1, e2⟩ := keys e he
    refine ⟨k, ?_, e2⟩
    rw [e1]
    exact beq_self_eq_true k
  exact tail_any table.typeIs slot_dict_getitem.lookup (wpAny_getItem_of (beq_self_eq_true i) table found ⟨v, hp, inv.tok _, rel, q⟩) plain
def tCallH (P : Program) (w : World) (K : PySem.W.Frag) (mg : Str → Option Value) (base : Heap) (k i : Nat) (t : TA) : TE := fun σ H Q => ∃ f sp, σ[i]? = some (some (.ref f)) ∧ Held P w K mg base k f sp ∧ t σ H fun vs H1 => sp vs H1 Q (fun _ _ _ => False)
theorem pe_callH {X : Cx} {k i : Nat} {x : Str} {p pos : Pos} {e : Expr} {es : List Expr} {t : TA} (hr : Room k X.A) (hN : X.N[i]? = some x) (hv : Vis X.env.scope x) (ha : PA X (e :: es) t)
    (d1 : (x == ("__debug__" : Str)) = false := by decide) (d2 : (x == ("__classdict__" : Str)) = false := by decide)
    (d3 : starEach (e :: es) X.env = (false, eval e X.env) :: starEach es X.env := by rfl) (d4 : (backTo pos (starEach es X.env)).any (·.1) = false := by rfl) :
    PE X (.Call (.Name x p) (e :: es) [] pos) (tCallH X.prog X.w X.K X.mg X.base k i t) := by
  refine ⟨fun pins st sl hp Q inv want => ?_⟩
  obtain ⟨f, sp, e1, held, e2⟩ := want
  have rule := pe_callA (X := X) (k := k) (i := i) (S := fun g => if g = f then some sp else none) (t := t) (x := x) (p := p) (pos := pos) (fun g s2 h2 => by
    by_cases c : g = f
    · subst c
      have h3 : some sp = some s2 := by
        rw [← h2]
        exact (if_pos rfl).symm
      cases h3
      exact held
    · have h3 : none = some s2 := by
        rw [← h2]
        exact (if_neg c).symm
      cases h3) hr hN hv ha d1 d2 d3 d4
  exact rule.run pins st sl hp Q inv ⟨f, sp, e1, if_pos rfl, e2⟩
end
end Rn
/-! # The deeds -/
namespace Rn
open PySem PySem.Spec PyProof.Rows L2
open Sv46 (Abs Guest Walker Spot At)
section
variable {P : Program} {w : World} {K : PySem.W.Frag} {mg : Str → Option Value} {base : Heap} {C CG CW : Addr}
theorem sc_bk_want : FnScope ["objects", "k", "numbers"] ["objects", "k", "numbers"] (defScope (topS 38)) := ⟨rfl, rfl, rfl, by decide +kernel, rfl, by decide +kernel, by decide +kernel⟩
theorem ok_bk_want {f : Addr} {fd : FuncData} (F : Fun K "bk_want" "bk_want" (topS 38) f fd) (T : Gt K CG) {fM : Addr} {dM : FuncData} (M : Md P w K mg base CG "want" 1 fM dM ["self"] (spGWant CG)) : FnOk P w K mg base CX0 2 f fd ["objects", "k", "numbers"] (spDeed CG CW 1) := by
  refine F.ok sc_bk_want (fun vs H Q E h => ?_) (fun cdv A outer s H vs Q E hr h => ?_)
  · obtain ⟨_, _, _, _, _, _, rfl, _⟩ := h
    rfl
  · obtain ⟨b, nb, k, nums, os, S, rfl, O, hnb, ok, post⟩ := h
    obtain rfl := len0 ok.len
    obtain ⟨x, ex⟩ := ok.guest (.inl rfl)
    obtain ⟨a, ia, at_a, hA⟩ := O.guest ok.k0 ok.k8 ex
    rw [step_want ex] at post
    obtain ⟨dx, o, g, e, og⟩ := id hA
    refine ⟨_, (pss_one (ps_ret (pe_meth0 (pe_ix ix_list (pv 0) (pv 1) (fun _ _ => rfl)) T.cl M.m M.ok hr M.b .nil pass0))), ?_⟩
    exact ⟨_, rfl, _, rfl, b, os, _, _, rfl, rfl, SqL.of O.at_, at_a, a, dx, _, rfl, e, gF_no_want, a, x, rfl, hA, fun H2 q h2 nq hq fr => post H2 q os (O.turn ia ⟨a, rfl, h2⟩ fr) nq hq (fr.kept e)⟩
theorem sc_bk_leave : FnScope ["objects", "k", "numbers"] ["objects", "k", "numbers"] (defScope (topS 39)) := ⟨rfl, rfl, rfl, by decide +kernel, rfl, by decide +kernel, by decide +kernel⟩
theorem ok_bk_leave {f : Addr} {fd : FuncData} (F : Fun K "bk_leave" "bk_leave" (topS 39) f fd) (T : Gt K CG) {fM : Addr} {dM : FuncData} (M : Md P w K mg base CG "leave" 1 fM dM ["self"] (spGLeave CG)) : FnOk P w K mg base CX0 2 f fd ["objects", "k", "numbers"] (spDeed CG CW 4) := by
  refine F.ok sc_bk_leave (fun vs H Q E h => ?_) (fun cdv A outer s H vs Q E hr h => ?_)
  · obtain ⟨_, _, _, _, _, _, rfl, _⟩ := h
    rfl
  · obtain ⟨b, nb, k, nums, os, S, rfl, O, hnb, ok, post⟩ := h
    obtain rfl := len0 ok.len
    obtain ⟨x, ex⟩ := ok.guest (.inr (.inr (.inr (.inl rfl))))
    obtain ⟨a, ia, at_a, hA⟩ := O.guest ok.k0 ok.k8 ex
    rw [step_leave ex] at post
    obtain ⟨dx, o, g, e, og⟩ := id hA
    refine ⟨_, (pss_one (ps_ret (pe_meth0 (pe_ix ix_list (pv 0) (pv 1) (fun _ _ => rfl)) T.cl M.m M.ok hr M.b .nil pass0))), ?_⟩
    exact ⟨_, rfl, _, rfl, b, os, _, _, rfl, rfl, SqL.of O.at_, at_a, a, dx, _, rfl, e, gF_no_leave, a, x, rfl, hA, fun H2 q h2 nq hq fr => post H2 q os (O.turn ia ⟨a, rfl, h2⟩ fr) nq hq (fr.kept e)⟩
theorem sc_bk_number : FnScope ["objects", "k", "numbers"] ["objects", "k", "numbers"] (defScope (topS 40)) := ⟨rfl, rfl, rfl, by decide +kernel, rfl, by decide +kernel, by decide +kernel⟩
theorem ok_bk_number {f : Addr} {fd : FuncData} (F : Fun K "bk_number" "bk_number" (topS 40) f fd) (T : Gt K CG) {fM : Addr} {dM : FuncData} (M : Md P w K mg base CG "number" 1 fM dM ["self"] (spGNum CG)) : FnOk P w K mg base CX0 2 f fd ["objects", "k", "numbers"] (spDeed CG CW 5) := by
  refine F.ok sc_bk_number (fun vs H Q E h => ?_) (fun cdv A outer s H vs Q E hr h => ?_)
  · obtain ⟨_, _, _, _, _, _, rfl, _⟩ := h
    rfl
  · obtain ⟨b, nb, k, nums, os, S, rfl, O, hnb, ok, post⟩ := h
    obtain rfl := len0 ok.len
    obtain ⟨x, ex⟩ := ok.guest (.inr (.inr (.inr (.inr rfl))))
    obtain ⟨a, ia, at_a, hA⟩ := O.guest ok.k0 ok.k8 ex
    rw [step_num ex] at post
    obtain ⟨dx, o, g, e, og⟩ := id hA
    refine ⟨_, (pss_one (ps_ret (pe_meth0 (pe_ix ix_list (pv 0) (pv 1) (fun _ _ => rfl)) T.cl M.m M.ok hr M.b .nil pass0))), ?_⟩
    exact ⟨_, rfl, _, rfl, b, os, _, _, rfl, rfl, SqL.of O.at_, at_a, a, dx, _, rfl, e, gF_no_number, a, x, rfl, hA, fun H2 q h2 nq hq fr => post H2 q os (O.turn ia ⟨a, rfl, h2⟩ fr) nq hq (fr.kept e)⟩
theorem sc_read_for : FnScope ["objects", "k", "numbers"] ["objects", "k", "numbers"] (defScope (topS 42)) := ⟨rfl, rfl, rfl, by decide +kernel, rfl, by decide +kernel, by decide +kernel⟩
theorem ok_read_for {f : Addr} {fd : FuncData} (F : Fun K "read_for" "read_for" (topS 42) f fd) (TG : Gt K CG) (TW : Wt K CW) {fM : Addr} {dM : FuncData} (M : Md P w K mg base CG "got" 4 fM dM ["self", "value"] (spGGot CG (fun _ => True))) {fN : Addr} {dN : FuncData} (N : Md P w K mg base CW "got" 5 fN dN ["self", "value"] (spWGot CW (fun _ => True))) : FnOk P w K mg base CX0 6 f fd ["objects", "k", "numbers"] (fun vs H Q E => spDeed CG CW 2 vs H Q E ∨ spDeed CG CW 7 vs H Q E) := by
  refine F.ok sc_read_for (fun vs H Q E h => ?_) (fun cdv A outer s H vs Q E hr h => ?_)
  · rcases h with ⟨_, _, _, _, _, _, rfl, _⟩ | ⟨_, _, _, _, _, _, rfl, _⟩
    · rfl
    · rfl
  · have hr4 : Room 4 _ := hr.mono (by decide)
    rcases h with ⟨b, nb, k, nums, os, S, rfl, O, hnb, ok, post⟩ | ⟨b, nb, k, nums, os, S, rfl, O, hnb, ok, post⟩
    · obtain ⟨v, rfl⟩ := ok.val (.inl rfl)
      obtain ⟨x, ex⟩ := ok.guest (.inr (.inl rfl))
      obtain ⟨a, ia, at_a, hA⟩ := O.guest ok.k0 ok.k8 ex
      rw [step_got ex] at post
      obtain ⟨dx, o, g, e, og⟩ := id hA
      refine ⟨_, (pss_one (ps_ret (pe_meth (pe_ix ix_list (pv 0) (pv 1) (fun _ _ => rfl)) TG.cl M.m M.ok hr4 M.b .nil pass0 (pa_cons (pe_ix ix_list (pv 2) pe_int (fun _ _ => rfl)) pa_nil)))), ?_⟩
      exact ⟨_, rfl, _, rfl, b, os, _, _, rfl, rfl, SqL.of O.at_, at_a, a, dx, _, rfl, e, gF_no_got, _, rfl, nb, _, _, _, rfl, rfl, SqL.of hnb, atI_nat (j := 0) rfl, a, x, v, rfl, hA, trivial, fun H2 q h2 nq hq fr => post H2 q os (O.turn ia ⟨a, rfl, h2⟩ fr) nq hq (fr.kept e)⟩
    · obtain ⟨v, rfl⟩ := ok.val (.inr rfl)
      obtain ⟨x, ex⟩ := ok.walker (.inl rfl)
      obtain ⟨a, ia, at_a, hA⟩ := O.walker ok.k0 ok.k8 ex
      rw [step_gotn ex] at post
      obtain ⟨dx, o, g, e, og⟩ := id hA
      refine ⟨_, (pss_one (ps_ret (pe_meth (pe_ix ix_list (pv 0) (pv 1) (fun _ _ => rfl)) TW.cl N.m N.ok hr N.b .nil pass0 (pa_cons (pe_ix ix_list (pv 2) pe_int (fun _ _ => rfl)) pa_nil)))), ?_⟩
      exact ⟨_, rfl, _, rfl, b, os, _, _, rfl, rfl, SqL.of O.at_, at_a, a, dx, _, rfl, e, wF_no_got, _, rfl, nb, _, _, _, rfl, rfl, SqL.of hnb, atI_nat (j := 0) rfl, a, x, v, rfl, hA, trivial, fun H2 q h2 nq hq fr => post H2 q os (O.turn ia ⟨a, rfl, h2⟩ fr) nq hq (fr.kept e)⟩
theorem sc_written_for : FnScope ["objects", "k", "numbers"] ["objects", "k", "numbers"] (defScope (topS 43)) := ⟨rfl, rfl, rfl, by decide +kernel, rfl, by decide +kernel, by decide +kernel⟩
theorem ok_written_for {f : Addr} {fd : FuncData} (F : Fun K "written_for" "written_for" (topS 43) f fd) (TG : Gt K CG) (TW : Wt K CW) {fM : Addr} {dM : FuncData} (M : Md P w K mg base CG "wrote" 3 fM dM ["self"] (spGWrote CG)) {fN : Addr} {dN : FuncData} (N : Md P w K mg base CW "wrote" 3 fN dN ["self"] (spWWrote CW)) : FnOk P w K mg base CX0 4 f fd ["objects", "k", "numbers"] (fun vs H Q E => spDeed CG CW 3 vs H Q E ∨ spDeed CG CW 8 vs H Q E) := by
  refine F.ok sc_written_for (fun vs H Q E h => ?_) (fun cdv A outer s H vs Q E hr h => ?_)
  · rcases h with ⟨_, _, _, _, _, _, rfl, _⟩ | ⟨_, _, _, _, _, _, rfl, _⟩
    · rfl
    · rfl
  · rcases h with ⟨b, nb, k, nums, os, S, rfl, O, hnb, ok, post⟩ | ⟨b, nb, k, nums, os, S, rfl, O, hnb, ok, post⟩
    · obtain rfl := len0 ok.len
      obtain ⟨x, ex⟩ := ok.guest (.inr (.inr (.inl rfl)))
      obtain ⟨a, ia, at_a, hA⟩ := O.guest ok.k0 ok.k8 ex
      rw [step_wrote ex] at post
      obtain ⟨dx, o, g, e, og⟩ := id hA
      refine ⟨_, (pss_one (ps_ret (pe_meth0 (pe_ix ix_list (pv 0) (pv 1) (fun _ _ => rfl)) TG.cl M.m M.ok hr M.b .nil pass0))), ?_⟩
      exact ⟨_, rfl, _, rfl, b, os, _, _, rfl, rfl, SqL.of O.at_, at_a, a, dx, _, rfl, e, gF_no_wrote, a, x, rfl, hA, fun H2 q h2 nq hq fr => post H2 q os (O.turn ia ⟨a, rfl, h2⟩ fr) nq hq (fr.kept e)⟩
    · obtain rfl := len0 ok.len
      obtain ⟨x, ex⟩ := ok.walker (.inr rfl)
      obtain ⟨a, ia, at_a, hA⟩ := O.walker ok.k0 ok.k8 ex
      rw [step_wroten ex] at post
      obtain ⟨dx, o, g, e, og⟩ := id hA
      refine ⟨_, (pss_one (ps_ret (pe_meth0 (pe_ix ix_list (pv 0) (pv 1) (fun _ _ => rfl)) TW.cl N.m N.ok hr N.b .nil pass0))), ?_⟩
      exact ⟨_, rfl, _, rfl, b, os, _, _, rfl, rfl, SqL.of O.at_, at_a, a, dx, _, rfl, e, wF_no_wrote, a, x, rfl, hA, fun H2 q h2 nq hq fr => post H2 q os (O.turn ia ⟨a, rfl, h2⟩ fr) nq hq (fr.kept e)⟩
theorem sc_bk_begin : FnScope ["objects", "k", "numbers", "me", "n"] ["objects", "k", "numbers"] (defScope (topS 37)) := ⟨rfl, rfl, rfl, by decide +kernel, rfl, by decide +kernel, by decide +kernel⟩
theorem ok_bk_begin {f : Addr} {fd : FuncData} (F : Fun K "bk_begin" "bk_begin" (topS 37) f fd) (T0 : Ct mg) {fB : Addr} {dB : FuncData} (B : Gd P w K mg base "can_begin" 1 fB dB ["me", "n"] (spCan)) {fI : Addr} {dI : FuncData} (MK : Mk K CG fI) (I : Md P w K mg base CG "__init__" 1 fI dI ["self", "me", "n"] (spGInit CG)) (gC : mg "Guest" = some (.ref CG)) : FnOk P w K mg base CX0 3 f fd ["objects", "k", "numbers"] (spDeed CG CW 0) := by
  refine F.ok sc_bk_begin (fun vs H Q E h => ?_) (fun cdv A outer s H vs Q E hr h => ?_)
  · obtain ⟨_, _, _, _, _, _, rfl, _⟩ := h
    rfl
  · obtain ⟨b, nb, k, nums, os, S, rfl, O, hnb, ok, post⟩ := h
    have hr1 : Room 1 _ := hr.mono (by decide)
    obtain ⟨me, n, rfl⟩ := ok.two rfl
    refine ⟨_, (pss_cons (ps_asg (pv 2) (pg_unl rfl (pgs_cons (pg_name (i := 3) sc_bk_begin.nd rfl (.inl rfl)) (pgs_cons (pg_name (i := 4) sc_bk_begin.nd rfl (.inl rfl)) pgs_nil)))) (pss_cons (ps_if (pt_not (pt_val (pe_call B.ok hr1 rfl B.m B.kp B.b .nil pass0 (pa_cons (pv 3) (pa_cons (pv 4) pa_nil))))) (pss_one (ps_ret (pe_lst (pa_cons (pe_ct T0.c_NO_ARGUMENTS rfl) pa_nil)))) pss_nil) (pss_cons (ps_asg (pe_make MK I.ok hr rfl gC I.b .nil pass0 (pa_cons (pv 3) (pa_cons (pv 4) pa_nil))) (pg_sub (pv 0) (pv 1) set_list)) (pss_one (ps_ret (pe_lst (pa_cons pe_int pa_nil))))))), ?_⟩
    refine ⟨_, rfl, nb, _, rfl, SqL.of hnb, rfl, _, _, rfl, _, _, rfl, rfl, ?_⟩
    refine ⟨_, rfl, _, rfl, me, n, rfl, _, rfl, ?_⟩
    by_cases c : 2 ≤ n ∧ n ≤ 8 ∧ 0 ≤ me ∧ me < n
    · refine ifF (by rw [decide_eq_true c]; rfl) ⟨_, rfl, _, rfl, fun x dx nx nd ne => ⟨x, dx, me, n, rfl, upd_same, fun H1 h1 fr => ⟨rfl, ?_⟩⟩⟩
      have sm : Same H H1 := Same.made nx nd fr
      rw [step_begin c] at post
      obtain ⟨v, _, _, hix, _⟩ := O.place ok.k0 ok.k8
      have k0 := ok.k0
      have k8 := ok.k8
      have hme : ((me.toNat : Nat) : Int) = me := Int.toNat_of_nonneg c.2.2.1
      have hn : ((n.toNat : Nat) : Int) = n := Int.toNat_of_nonneg (by omega)
      have hA : GAt CG x (Sv46.guest me.toNat n.toNat) H1 := ⟨dx, 0, 0, by rw [h1]; show some (HO.ins CG dx (gF me n "outside" 0 0 0)) = some (HO.ins CG dx (gF ((me.toNat : Nat) : Int) ((n.toNat : Nat) : Int) "outside" 0 0 0)); rw [hme, hn], trivial⟩
      refine ⟨_, rfl, _, rfl, b, os, k, k.toNat, rfl, rfl, sm _ _ O.at_, hix, by show 1 ≤ sizeLine; decide, fun q hq => ?_⟩
      have O2 := O.put (i := k.toNat) (y := .guest (Sv46.guest me.toNat n.toNat)) sm nx (by omega) ⟨x, rfl, hA⟩
      have hqb : H q = none := by
        by_cases z : q = b
        · subst z
          rw [upd_same] at hq
          cases hq
        · rw [upd_ne z] at hq
          exact sm.free hq
      refine post _ q _ (O2.same (same_new hq)) hqb upd_same fun c2 o2 hc2 hne _ => ?_
      have hc3 := sm _ _ hc2
      have hc4 : upd H1 b (.lst (os.set k.toNat (.ref x))) c2 = some o2 := (upd_ne hne).trans hc3
      exact same_new hq _ _ hc4
    · refine ifT (by rw [decide_eq_false c]; rfl) ⟨by show 1 ≤ sizeLine; decide, fun q hq => ?_⟩
      rw [step_beginN c, set_getD] at post
      exact post _ q os (O.same (same_new hq)) hq upd_same fun c2 o2 hc2 _ _ => same_new hq _ _ hc2
theorem sc_nm_begin : FnScope ["objects", "k", "numbers", "me", "n"] ["objects", "k", "numbers"] (defScope (topS 41)) := ⟨rfl, rfl, rfl, by decide +kernel, rfl, by decide +kernel, by decide +kernel⟩
theorem ok_nm_begin {f : Addr} {fd : FuncData} (F : Fun K "nm_begin" "nm_begin" (topS 41) f fd) (T0 : Ct mg) {fB : Addr} {dB : FuncData} (B : Gd P w K mg base "can_go" 1 fB dB ["me", "n"] (spGo)) {fW : Addr} {dW : FuncData} (W : Gd P w K mg base "write_who" 1 fW dW ["c"] (spAdd 128)) {fI : Addr} {dI : FuncData} (MK : Mk K CW fI) (I : Md P w K mg base CW "__init__" 1 fI dI ["self", "me", "n"] (spWInit CW)) (gC : mg "Walker" = some (.ref CW)) : FnOk P w K mg base CX0 3 f fd ["objects", "k", "numbers"] (spDeed CG CW 6) := by
  refine F.ok sc_nm_begin (fun vs H Q E h => ?_) (fun cdv A outer s H vs Q E hr h => ?_)
  · obtain ⟨_, _, _, _, _, _, rfl, _⟩ := h
    rfl
  · obtain ⟨b, nb, k, nums, os, S, rfl, O, hnb, ok, post⟩ := h
    have hr1 : Room 1 _ := hr.mono (by decide)
    obtain ⟨me, n, rfl, hme⟩ := ok.own rfl
    refine ⟨_, (pss_cons (ps_asg (pv 2) (pg_unl rfl (pgs_cons (pg_name (i := 3) sc_nm_begin.nd rfl (.inl rfl)) (pgs_cons (pg_name (i := 4) sc_nm_begin.nd rfl (.inl rfl)) pgs_nil)))) (pss_cons (ps_if (pt_not (pt_val (pe_call B.ok hr1 rfl B.m B.kp B.b .nil pass0 (pa_cons (pv 3) (pa_cons (pv 4) pa_nil))))) (pss_one (ps_ret (pe_lst (pa_cons (pe_ct T0.c_NO_ARGUMENTS rfl) pa_nil)))) pss_nil) (pss_cons (ps_asg (pe_make MK I.ok hr rfl gC I.b .nil pass0 (pa_cons (pv 3) (pa_cons (pv 4) pa_nil))) (pg_sub (pv 0) (pv 1) set_list)) (pss_one (ps_ret (pe_lst (pa_cons (pe_call W.ok hr1 rfl W.m W.kp W.b .nil pass0 (pa_cons pe_int pa_nil)) pa_nil))))))), ?_⟩
    refine ⟨_, rfl, nb, _, rfl, SqL.of hnb, rfl, _, _, rfl, _, _, rfl, rfl, ?_⟩
    refine ⟨_, rfl, _, rfl, (me : Int), n, rfl, _, rfl, ?_⟩
    by_cases c : 1 ≤ n ∧ n ≤ 8 ∧ me ≠ 0
    · have c0 : 1 ≤ n ∧ n ≤ 8 ∧ 0 < (me : Int) ∧ (me : Int) < 18446744073709551616 := ⟨c.1, c.2.1, by omega, hme⟩
      refine ifF (by rw [decide_eq_true c0]; rfl) ⟨_, rfl, _, rfl, fun x dx nx nd ne => ⟨x, dx, (me : Int), n, rfl, upd_same, fun H1 h1 fr => ⟨rfl, ?_⟩⟩⟩
      have sm : Same H H1 := Same.made nx nd fr
      rw [step_nbegin c] at post
      obtain ⟨v, _, _, hix, _⟩ := O.place ok.k0 ok.k8
      have k0 := ok.k0
      have k8 := ok.k8
      have hn : ((n.toNat : Nat) : Int) = n := Int.toNat_of_nonneg (by omega)
      have hA : WAt CW x (Sv46.walker me n.toNat) H1 := ⟨dx, 0, 0, by rw [h1]; show some (HO.ins CW dx (wF (me : Int) n 0 0 "coming")) = some (HO.ins CW dx (wF (me : Int) ((n.toNat : Nat) : Int) 0 0 "coming")); rw [hn], .inr (.inr ⟨rfl, rfl, by show 0 < n.toNat; omega, by show n.toNat ≤ 8; omega⟩)⟩
      refine ⟨_, rfl, _, rfl, b, os, k, k.toNat, rfl, rfl, sm _ _ O.at_, hix, _, rfl, by show 1 ≤ sizeLine; decide, fun q hq => ?_⟩
      have O2 := O.put (i := k.toNat) (y := .walker (Sv46.walker me n.toNat)) sm nx (by omega) ⟨x, rfl, hA⟩
      have hqb : H q = none := by
        by_cases z : q = b
        · subst z
          rw [upd_same] at hq
          cases hq
        · rw [upd_ne z] at hq
          exact sm.free hq
      refine post _ q _ (O2.same (same_new hq)) hqb upd_same fun c2 o2 hc2 hne _ => ?_
      have hc3 := sm _ _ hc2
      have hc4 : upd H1 b (.lst (os.set k.toNat (.ref x))) c2 = some o2 := (upd_ne hne).trans hc3
      exact same_new hq _ _ hc4
    · have c0 : ¬ (1 ≤ n ∧ n ≤ 8 ∧ 0 < (me : Int) ∧ (me : Int) < 18446744073709551616) := fun z => c ⟨z.1, z.2.1, by have := z.2.2.1; omega⟩
      refine ifT (by rw [decide_eq_false c0]; rfl) ⟨by show 1 ≤ sizeLine; decide, fun q hq => ?_⟩
      rw [step_nbeginN c, set_getD] at post
      exact post _ q os (O.same (same_new hq)) hq upd_same fun c2 o2 hc2 _ _ => same_new hq _ _ hc2
end
end Rn
/-! # answers -/
namespace Rn
open PySem PySem.Spec PyProof.Rows L2
open Sv46 (Abs Guest Walker Spot At)
section
variable {P : Program} {w : World} {K : PySem.W.Frag} {mg : Str → Option Value} {base : Heap} {C CG CW : Addr}
/-- the list that was handed in, to be read -/
def Arg (K : PySem.W.Frag) (a : Addr) (xs : List V) (H : Hp) : Prop := (∃ o, H a = some (.frz o (.lst xs))) ∨ SqL K (fun _ => none) a xs
theorem Arg.sq {a : Addr} {xs : List V} {H : Hp} (h : Arg K a xs H) : SqL K H a xs := by
  rcases h with ⟨o, h⟩ | h
  · exact .inl (.inr ⟨o, h⟩)
  · refine Same.seq (fun _ u z => ?_) h
    have z2 : (none : Option HO) = some u := z
    cases z2
theorem Arg.of {a : Addr} {xs : List V} {H : Hp} (h : SqL K H a xs) (hO : OnlyF H) : Arg K a xs H := by
  rcases h with (h | ⟨o, h⟩) | h
  · rcases hO a with z | ⟨o, u, z⟩
    · rw [h] at z
      cases z
    · rw [h] at z
      cases z
  · exact .inl ⟨o, h⟩
  · exact .inr (.inr h)
theorem Arg.keep {a : Addr} {xs : List V} {H H2 : Hp} (h : Arg K a xs H) (k : ∀ o, H a = some (.frz o (.lst xs)) → H2 a = some (.frz o (.lst xs))) : Arg K a xs H2 := by
  rcases h with ⟨o, h⟩ | h
  · exact .inl ⟨o, k o h⟩
  · exact .inr h
theorem frz_ne_lst {H : Hp} {a b : Addr} {o : Obj} {u : HO} {os : List V} (h1 : H a = some (.frz o u)) (h2 : H b = some (.lst os)) : a ≠ b := ne_of h1 h2 (fun z => nomatch z)
/-- between two turns: i numbers are gone through -/
def Mid (K : PySem.W.Frag) (CG CW a b fo : Addr) (ns : List Int) (i : Nat) (σ : L2.St) (H : Hp) : Prop := ∃ (S : List Abs) (out : List Int) (os : List V) (d e an kk : Option V),
  σ = [some (.ref a), some (.ref b), some (.ref fo), some (.int (i : Int)), d, e, an, kk] ∧ Arg K a (ns.map V.int) H ∧ Obs CG CW H b os S ∧ H fo = some (.lst (out.map V.int)) ∧ b ≠ fo ∧ Left ns i S out
theorem many_at {p : Int} (h0 : 0 ≤ p) (h8 : p ≤ 8) : atI (([2, 0, 1, 0, 0, 0, 2, 1, 0] : List Int).map V.int) p = some (V.int (many p : Nat)) := by
  rcases nine h0 h8 with e | e | e | e | e | e | e | e | e <;> subst e <;> rfl
theorem cut_eq {ns nums : List Int} {i m : Nat} (h : i + 2 + m ≤ ns.length) (e : (ns.drop (i + 2)).take m = nums) : cutV (ns.map V.int) (some ((i : Int) + 2)) (some ((i : Int) + 2 + (m : Int))) = nums.map V.int := by
  have e1 : (i : Int) + 2 = ((i + 2 : Nat) : Int) := rfl
  have e2 : (i : Int) + 2 + (m : Int) = ((i + 2 + m : Nat) : Int) := rfl
  unfold cutV
  rw [e2, e1, HT.sIx_nat, HT.sIx_nat, List.length_map, Nat.min_eq_left (by omega), Nat.min_eq_left (by omega), ← e, List.map_take, List.map_drop]
  congr 1
  omega
theorem at_int {ns : List Int} {i : Nat} {z p : Int} (e : z = (i : Int)) (h : ns[i]? = some p) : atI (ns.map V.int) z = some (V.int p) := by
  refine at_of e ?_
  rw [List.getElem?_map, h]
  rfl
theorem sc_answers : FnScope ["calls", "objects", "found", "at", "deed", "end", "answer", "k"] ["calls"] (defScope (topS 46)) := ⟨rfl, rfl, rfl, by decide +kernel, rfl, by decide +kernel, by decide +kernel⟩
theorem ok_answers {f : Addr} {fd : FuncData} (F : Fun K "answers" "answers" (topS 46) f fd) (T0 : Ct mg) (hrng : mg "range" = none) (hlen : mg "len" = none) {aD aM : Addr} (gD : mg "DEEDS" = some (.ref aD)) (gM : mg "MANY" = some (.ref aM))
    (hM : ∀ H : Hp, SqT K H aM (([2, 0, 1, 0, 0, 0, 2, 1, 0] : List Int).map V.int)) (D : ∀ p : Int, 0 ≤ p → p ≤ 8 → ∃ g, KDI K aD p (.ref g) ∧ Held P w K mg base 6 g (spDeed CG CW p)) : FnOk P w K mg base CX0 7 f fd ["calls"] (spAns K) := by
  refine F.ok sc_answers (fun vs H Q E h => ?_) (fun cdv A outer s H vs Q E hr h => ?_)
  · obtain ⟨_, _, rfl, _⟩ := h
    rfl
  · obtain ⟨a, ns, rfl, hS, hO, hask, _, k⟩ := h
    refine ⟨_, (pss_cons (ps_setLc (i := 1) (own := [("k", 7)]) (g := gName 7) (tt := tYes) rfl sc_answers.nd rfl rfl (sw_true rfl rfl rfl (by decide +kernel)) (pi_range1 (by rfl) hrng (pa_cons (pe_ct T0.c_MOST_OBJECTS rfl) pa_nil)) (blkOk_by (own := [("k", 7)]) (N := ["calls", "objects", "found", "at", "deed", "end", "answer", "k"]) (sc := defScope (topS 46)) (by decide +kernel)) (fun _ _ _ _ _ => pg_name (i := 7) sc_answers.nd rfl (Or.inl rfl)) (fun _ _ _ _ _ => pts_nil) (fun _ _ _ _ _ => pe_non)) (pss_cons (ps_set (i := 2) sc_answers.nd rfl (.inl rfl) (pe_lst pa_nil)) (pss_cons (ps_set (i := 3) sc_answers.nd rfl (.inl rfl) pe_int) (pss_cons (ps_while PassesOwn.never (pt_cmpR op_lt (pv 3) (pe_callB call_len_seq (by rfl) hlen PySem.boot_len (pa_cons (pv 0) pa_nil)) (nomark _)) (pss_cons (ps_set (i := 4) sc_answers.nd rfl (.inl rfl) (pe_ix ix_kdi (pe_glob (v := .ref aD) rfl gD rfl) (pe_ix ix_list (pv 0) (pv 3) (fun _ _ => rfl)) (fun _ _ => rfl))) (pss_cons (ps_set (i := 5) sc_answers.nd rfl (.inl rfl) (pe_op op_add (pe_op op_add (pv 3) pe_int) (pe_ix ix_tup (pe_glob (v := .ref aM) rfl gM rfl) (pe_ix ix_list (pv 0) (pv 3) (fun _ _ => rfl)) (fun _ _ => rfl)))) (pss_cons (ps_set (i := 6) sc_answers.nd rfl (.inl rfl) (pe_callH (i := 4) hr rfl (.inl rfl) (pa_cons (pv 1) (pa_cons (pe_ix ix_list (pv 0) (pe_op op_add (pv 3) pe_int) (fun _ _ => rfl)) (pa_cons (pe_slice sl_list (pv 0) (po_some (pe_op op_add (pv 3) pe_int)) (po_some (pv 5))) pa_nil))))) (pss_cons (ps_expr (pe_bm PySem.F.plainAttrs_list PySem.F.slot_list_append PySem.F.type_list_append mt_append (pv 2) (pa_cons (pe_callB call_len_seq (by rfl) hlen PySem.boot_len (pa_cons (pv 6) pa_nil)) pa_nil))) (pss_cons (ps_expr (pe_bm PySem.F.plainAttrs_list PySem.F.slot_list_extend PySem.F.type_list_extend mt_extend (pv 2) (pa_cons (pv 6) pa_nil))) (pss_one (ps_set (i := 3) sc_answers.nd rfl (.inl rfl) (pv 5))))))))) (pss_one (ps_ret (pv 2))))))), ?_⟩
    refine ⟨8, rfl, by decide, by decide, fun b hb => lc_range (lo := 0) (n := 8) (fun i H1 => H1 = upd H b (.lst (List.replicate i V.non))) rfl ?_ ?_⟩
    · rintro i H1 hi rfl
      refine ⟨rfl, ?_⟩
      unfold tYes
      dsimp only
      rw [if_pos rfl]
      refine ⟨List.replicate i V.non, upd_same, ?_, ?_⟩
      · rw [List.length_replicate, sizeLine_eq]
        omega
      · rw [upd_upd, List.replicate_succ']
    · rintro H1 rfl
      refine ⟨Nat.zero_le _, fun fo hfo => ?_⟩
      have hA0 := Arg.of hS hO
      have hbf : b ≠ fo := ne_of_none upd_same hfo
      have s1 : Same H (upd H b (.lst (List.replicate 8 V.non))) := same_new hb
      have s2 := same_new (o := .lst []) hfo
      have O0 : Obs CG CW (upd (upd H b (.lst (List.replicate 8 V.non))) fo (.lst [])) b (List.replicate 8 V.non) Sv46Neutral.start := by
        refine ⟨s2 _ _ upd_same, List.length_replicate, List.length_replicate, fun i v e => ?_, fun i j c ei ej => ?_⟩
        · obtain ⟨hi, e2⟩ := List.getElem?_eq_some_iff.mp e
          rw [List.getElem_replicate] at e2
          subst e2
          have e3 : Sv46Neutral.start.getD i Abs.none = Abs.none := by
            unfold Sv46Neutral.start
            rw [List.getD_eq_getElem?_getD]
            by_cases h8 : i < 8
            · rw [List.getElem?_replicate_of_lt h8]
              rfl
            · rw [List.getElem?_eq_none (by rw [List.length_replicate]; omega)]
              rfl
          rw [e3]
          exact rfl
        · obtain ⟨hi, e2⟩ := List.getElem?_eq_some_iff.mp ei
          rw [List.getElem_replicate] at e2
          cases e2
      refine ⟨fun m σ H1 => ∃ i, m = ns.length - i ∧ Mid K CG CW a b fo ns i σ H1, ⟨_, 0, rfl, Sv46Neutral.start, [], _, none, none, none, none, rfl, hA0.keep (fun o h => s2 _ _ (s1 _ _ h)), O0, upd_same, hbf, Left.start hask⟩, ?_⟩
      rintro m σ H1 ⟨i, rfl, S, out, os, d, e, an, kk, rfl, hA, O, hf, _, L⟩
      refine ⟨_, rfl, _, rfl, a, _, rfl, .inl hA.sq, _, _, rfl, rfl, _, rfl, ?_⟩
      by_cases c : i < ns.length
      · refine ifT (decide_eq_true (by rw [List.length_map]; omega)) ?_
        obtain ⟨p, kk1, nums, e1, e2, e3, e4, ok, L2⟩ := L.turn c
        obtain ⟨g, kd, held⟩ := D p ok.p0 ok.p8
        refine ⟨Mid K CG CW a b fo ns (i + 2 + many p), fun σ2 H2 z => ⟨_, by omega, _, rfl, z⟩, ?_⟩
        have atP := at_int (z := (i : Int)) rfl e1
        have atK : atI (ns.map V.int) ((i : Int) + 1) = some (V.int kk1) := at_int rfl e2
        refine ⟨_, rfl, _, rfl, a, _, _, _, rfl, rfl, hA.sq, atP, aD, p, _, rfl, rfl, kd, ?_⟩
        refine ⟨_, rfl, _, _, rfl, rfl, _, rfl, _, rfl, a, _, _, _, rfl, rfl, hA.sq, atP, aM, _, _, _, rfl, rfl, hM _, many_at ok.p0 ok.p8, _, _, rfl, rfl, ?_⟩
        refine ⟨g, _, rfl, held, _, rfl, _, rfl, _, rfl, _, _, rfl, rfl, a, _, _, _, rfl, rfl, hA.sq, atK, _, rfl, _, rfl, _, _, rfl, rfl, _, rfl, _, rfl, _, rfl, a, _, rfl, hA.sq, fun nb hnb => ?_⟩
        refine ⟨b, nb, kk1, nums, os, S, rfl, O.same (same_new hnb), upd_same.trans (congrArg (fun l => some (HO.lst l)) (cut_eq e4 e3)), ok, fun H2 q os2 O2 nq hq kp => ?_⟩
        have hf1 := same_new (o := .lst (cutV (ns.map V.int) (some ((i : Int) + 2)) (some ((i : Int) + 2 + (many p : Int))))) hnb _ _ hf
        have hf2 : H2 fo = some (.lst (out.map V.int)) := kp fo _ hf1 (Ne.symm hbf) (fun _ _ _ z => nomatch z)
        have hqf : q ≠ fo := Ne.symm (ne_of_none hf1 nq)
        have hA2 : Arg K a (ns.map V.int) H2 := hA.keep fun o h => kp a _ (same_new hnb _ _ h) (frz_ne_lst h O.at_) (fun _ _ _ z => nomatch z)
        have hsh := L2.short
        rw [List.length_append, List.length_cons] at hsh
        refine ⟨_, rfl, .inl ⟨rfl, _, SqL.of hf2⟩, _, rfl, q, _, rfl, .inl (SqL.of hq), fo, _, _, rfl, rfl, hf2, ?_, ?_⟩
        · rw [List.length_map, sizeLine_eq]
          omega
        refine ⟨_, rfl, .inl ⟨rfl, _, SqL.of upd_same⟩, _, rfl, fo, q, _, _, rfl, rfl, upd_same, (upd_ne hqf).trans hq, ?_, ?_⟩
        · rw [List.length_append, List.length_map, List.length_map, List.length_singleton, sizeLine_eq]
          omega
        refine ⟨_, rfl, _, _, os2, _, _, _, _, rfl, ?_, ?_, ?_, hbf, L2⟩
        · exact hA2.keep fun o h => by
            rw [upd_upd, upd_ne (frz_ne_lst h hf2)]
            exact h
        · have O3 : Obs CG CW (upd H2 fo (.lst ((out.map V.int ++ [V.int ((Sv46Neutral.step S [p :: kk1 :: nums]).2.map V.int).length]) ++ (Sv46Neutral.step S [p :: kk1 :: nums]).2.map V.int))) b os2 (Sv46Neutral.step S [p :: kk1 :: nums]).1 := by
            refine ⟨(upd_ne hbf).trans O2.at_, O2.lo, O2.ls, fun j v ej => (O2.each j v ej).keep fun x ex o hx => ?_, O2.inj⟩
            subst ex
            obtain ⟨C1, dx, fs, h⟩ := (O2.each j _ ej).ins
            exact (upd_ne (ins_ne_lst h hf2)).trans hx
          rw [upd_upd]
          exact O3
        · rw [upd_same]
          refine congrArg (fun l => some (HO.lst l)) ?_
          rw [List.map_append, List.map_cons, List.append_assoc, List.length_map]
          rfl
      · refine ifF (decide_eq_false (by rw [List.length_map]; omega)) ⟨_, rfl, ?_⟩
        refine k _ fo ?_
        rw [hf, L.done c]
end
end Rn
/-! # The end: all defs together; what the top has written -/
namespace Rn
open PySem PySem.Spec PyProof.Rows L2
open Sv46 (Abs Guest Walker Spot At)
section
variable {P : Program} {w : World} {K : PySem.W.Frag} {mg : Str → Option Value} {base : Heap} {C CG CW : Addr}
theorem chain {aD aM : Addr} {t0 t1 t2 t3 t4 t5 t6 t7 t8 : Tok} {nD : Nat}
    {f_drawing_of : Addr} {d_drawing_of : FuncData} (F_drawing_of : Fun K "drawing_of" "drawing_of" (topS 16) f_drawing_of d_drawing_of) (m_drawing_of : mg "drawing_of" = some (.ref f_drawing_of))
    {f_number_of : Addr} {d_number_of : FuncData} (F_number_of : Fun K "number_of" "number_of" (topS 17) f_number_of d_number_of) (m_number_of : mg "number_of" = some (.ref f_number_of))
    {f_write_who : Addr} {d_write_who : FuncData} (F_write_who : Fun K "write_who" "write_who" (topS 18) f_write_who d_write_who) (m_write_who : mg "write_who" = some (.ref f_write_who))
    {f_read_who : Addr} {d_read_who : FuncData} (F_read_who : Fun K "read_who" "read_who" (topS 19) f_read_who d_read_who) (m_read_who : mg "read_who" = some (.ref f_read_who))
    {f_read_shut : Addr} {d_read_shut : FuncData} (F_read_shut : Fun K "read_shut" "read_shut" (topS 20) f_read_shut d_read_shut) (m_read_shut : mg "read_shut" = some (.ref f_read_shut))
    {f_write_shut : Addr} {d_write_shut : FuncData} (F_write_shut : Fun K "write_shut" "write_shut" (topS 21) f_write_shut d_write_shut) (m_write_shut : mg "write_shut" = some (.ref f_write_shut))
    {f_crossing : Addr} {d_crossing : FuncData} (F_crossing : Fun K "crossing" "crossing" (topS 23) f_crossing d_crossing) (m_crossing : mg "crossing" = some (.ref f_crossing))
    {f_is_beyond : Addr} {d_is_beyond : FuncData} (F_is_beyond : Fun K "is_beyond" "is_beyond" (topS 24) f_is_beyond d_is_beyond) (m_is_beyond : mg "is_beyond" = some (.ref f_is_beyond))
    {f_can_go : Addr} {d_can_go : FuncData} (F_can_go : Fun K "can_go" "can_go" (topS 28) f_can_go d_can_go) (m_can_go : mg "can_go" = some (.ref f_can_go))
    {f_can_begin : Addr} {d_can_begin : FuncData} (F_can_begin : Fun K "can_begin" "can_begin" (topS 33) f_can_begin d_can_begin) (m_can_begin : mg "can_begin" = some (.ref f_can_begin))
    {f_bk_begin : Addr} {d_bk_begin : FuncData} (F_bk_begin : Fun K "bk_begin" "bk_begin" (topS 37) f_bk_begin d_bk_begin) (m_bk_begin : mg "bk_begin" = some (.ref f_bk_begin))
    {f_bk_want : Addr} {d_bk_want : FuncData} (F_bk_want : Fun K "bk_want" "bk_want" (topS 38) f_bk_want d_bk_want) (m_bk_want : mg "bk_want" = some (.ref f_bk_want))
    {f_bk_leave : Addr} {d_bk_leave : FuncData} (F_bk_leave : Fun K "bk_leave" "bk_leave" (topS 39) f_bk_leave d_bk_leave) (m_bk_leave : mg "bk_leave" = some (.ref f_bk_leave))
    {f_bk_number : Addr} {d_bk_number : FuncData} (F_bk_number : Fun K "bk_number" "bk_number" (topS 40) f_bk_number d_bk_number) (m_bk_number : mg "bk_number" = some (.ref f_bk_number))
    {f_nm_begin : Addr} {d_nm_begin : FuncData} (F_nm_begin : Fun K "nm_begin" "nm_begin" (topS 41) f_nm_begin d_nm_begin) (m_nm_begin : mg "nm_begin" = some (.ref f_nm_begin))
    {f_read_for : Addr} {d_read_for : FuncData} (F_read_for : Fun K "read_for" "read_for" (topS 42) f_read_for d_read_for) (m_read_for : mg "read_for" = some (.ref f_read_for))
    {f_written_for : Addr} {d_written_for : FuncData} (F_written_for : Fun K "written_for" "written_for" (topS 43) f_written_for d_written_for) (m_written_for : mg "written_for" = some (.ref f_written_for))
    {f_answers : Addr} {d_answers : FuncData} (F_answers : Fun K "answers" "answers" (topS 46) f_answers d_answers)
    {f_w___init__ : Addr} {d_w___init__ : FuncData} (F_w___init__ : Fun K "__init__" "Walker.__init__" (inClass (topS 29) 0) f_w___init__ d_w___init__) (m_w___init__ : Meth K CW "__init__" f_w___init__)
    {f_w_here : Addr} {d_w_here : FuncData} (F_w_here : Fun K "here" "Walker.here" (inClass (topS 29) 1) f_w_here d_w_here) (m_w_here : Meth K CW "here" f_w_here)
    {f_w_go_on : Addr} {d_w_go_on : FuncData} (F_w_go_on : Fun K "go_on" "Walker.go_on" (inClass (topS 29) 2) f_w_go_on d_w_go_on) (m_w_go_on : Meth K CW "go_on" f_w_go_on)
    {f_w_got : Addr} {d_w_got : FuncData} (F_w_got : Fun K "got" "Walker.got" (inClass (topS 29) 3) f_w_got d_w_got) (m_w_got : Meth K CW "got" f_w_got)
    {f_w_wrote : Addr} {d_w_wrote : FuncData} (F_w_wrote : Fun K "wrote" "Walker.wrote" (inClass (topS 29) 4) f_w_wrote d_w_wrote) (m_w_wrote : Meth K CW "wrote" f_w_wrote)
    {f_w_tried : Addr} {d_w_tried : FuncData} (F_w_tried : Fun K "tried" "Walker.tried" (inClass (topS 29) 5) f_w_tried d_w_tried) (m_w_tried : Meth K CW "tried" f_w_tried)
    {f_w_looked : Addr} {d_w_looked : FuncData} (F_w_looked : Fun K "looked" "Walker.looked" (inClass (topS 29) 6) f_w_looked d_w_looked) (m_w_looked : Meth K CW "looked" f_w_looked)
    {f_g___init__ : Addr} {d_g___init__ : FuncData} (F_g___init__ : Fun K "__init__" "Guest.__init__" (inClass (topS 34) 0) f_g___init__ d_g___init__) (m_g___init__ : Meth K CG "__init__" f_g___init__)
    {f_g_want : Addr} {d_g_want : FuncData} (F_g_want : Fun K "want" "Guest.want" (inClass (topS 34) 1) f_g_want d_g_want) (m_g_want : Meth K CG "want" f_g_want)
    {f_g_leave : Addr} {d_g_leave : FuncData} (F_g_leave : Fun K "leave" "Guest.leave" (inClass (topS 34) 2) f_g_leave d_g_leave) (m_g_leave : Meth K CG "leave" f_g_leave)
    {f_g_got : Addr} {d_g_got : FuncData} (F_g_got : Fun K "got" "Guest.got" (inClass (topS 34) 3) f_g_got d_g_got) (m_g_got : Meth K CG "got" f_g_got)
    {f_g_wrote : Addr} {d_g_wrote : FuncData} (F_g_wrote : Fun K "wrote" "Guest.wrote" (inClass (topS 34) 4) f_g_wrote d_g_wrote) (m_g_wrote : Meth K CG "wrote" f_g_wrote)
    {f_g_number : Addr} {d_g_number : FuncData} (F_g_number : Fun K "number" "Guest.number" (inClass (topS 34) 5) f_g_number d_g_number) (m_g_number : Meth K CG "number" f_g_number)
    {f_g_seen : Addr} {d_g_seen : FuncData} (F_g_seen : Fun K "seen" "Guest.seen" (inClass (topS 34) 6) f_g_seen d_g_seen) (m_g_seen : Meth K CG "seen" f_g_seen)
    {f_g_look_at : Addr} {d_g_look_at : FuncData} (F_g_look_at : Fun K "look_at" "Guest.look_at" (inClass (topS 34) 7) f_g_look_at d_g_look_at) (m_g_look_at : Meth K CG "look_at" f_g_look_at)
    {f_g_watched : Addr} {d_g_watched : FuncData} (F_g_watched : Fun K "watched" "Guest.watched" (inClass (topS 34) 8) f_g_watched d_g_watched) (m_g_watched : Meth K CG "watched" f_g_watched)
    {f_g_goes_behind : Addr} {d_g_goes_behind : FuncData} (F_g_goes_behind : Fun K "goes_behind" "Guest.goes_behind" (inClass (topS 34) 9) f_g_goes_behind d_g_goes_behind) (m_g_goes_behind : Meth K CG "goes_behind" f_g_goes_behind)
    {f_g_waited : Addr} {d_g_waited : FuncData} (F_g_waited : Fun K "waited" "Guest.waited" (inClass (topS 34) 10) f_g_waited d_g_waited) (m_g_waited : Meth K CG "waited" f_g_waited)
    (TG : Gt K CG) (TW : Wt K CW) (MKG : Mk K CG f_g___init__) (MKW : Mk K CW f_w___init__) (gG : mg "Guest" = some (.ref CG)) (gW : mg "Walker" = some (.ref CW)) (T0 : Ct mg) (hrng : mg "range" = none) (hlen : mg "len" = none) (hmx : mg "max" = none)
    (gD : mg "DEEDS" = some (.ref aD)) (gM : mg "MANY" = some (.ref aM)) (hM : ∀ H : Hp, SqT K H aM (([2, 0, 1, 0, 0, 0, 2, 1, 0] : List Int).map V.int))
    (lD : K.lookup aD = some ⟨.type "dict", none, .dict #[⟨0, .int 0 t0, .ref f_bk_begin⟩, ⟨1, .int 1 t1, .ref f_bk_want⟩, ⟨2, .int 2 t2, .ref f_read_for⟩, ⟨3, .int 3 t3, .ref f_written_for⟩, ⟨4, .int 4 t4, .ref f_bk_leave⟩, ⟨5, .int 5 t5, .ref f_bk_number⟩, ⟨6, .int 6 t6, .ref f_nm_begin⟩, ⟨7, .int 7 t7, .ref f_read_for⟩, ⟨8, .int 8 t8, .ref f_written_for⟩] nD, #[]⟩) :
    FnOk P w K mg base CX0 7 f_answers d_answers ["calls"] (spAns K) := by
  have b_drawing_of := F_drawing_of.binds (ps := ["j"]) fun _ _ _ _ _ _ us hl => match us, hl with | [_], _ => rfl
  have G_drawing_of : Gd P w K mg base "drawing_of" 1 f_drawing_of d_drawing_of ["j"] (spAdd 16) := ⟨ok_drawing_of F_drawing_of T0, m_drawing_of, F_drawing_of.kp, b_drawing_of⟩
  have b_number_of := F_number_of.binds (ps := ["j"]) fun _ _ _ _ _ _ us hl => match us, hl with | [_], _ => rfl
  have G_number_of : Gd P w K mg base "number_of" 1 f_number_of d_number_of ["j"] (spAdd 32) := ⟨ok_number_of F_number_of T0, m_number_of, F_number_of.kp, b_number_of⟩
  have b_write_who := F_write_who.binds (ps := ["c"]) fun _ _ _ _ _ _ us hl => match us, hl with | [_], _ => rfl
  have G_write_who : Gd P w K mg base "write_who" 1 f_write_who d_write_who ["c"] (spAdd 128) := ⟨ok_write_who F_write_who T0, m_write_who, F_write_who.kp, b_write_who⟩
  have b_read_who := F_read_who.binds (ps := ["c"]) fun _ _ _ _ _ _ us hl => match us, hl with | [_], _ => rfl
  have G_read_who : Gd P w K mg base "read_who" 1 f_read_who d_read_who ["c"] (spAdd 256) := ⟨ok_read_who F_read_who T0, m_read_who, F_read_who.kp, b_read_who⟩
  have b_read_shut := F_read_shut.binds (ps := ["c"]) fun _ _ _ _ _ _ us hl => match us, hl with | [_], _ => rfl
  have G_read_shut : Gd P w K mg base "read_shut" 1 f_read_shut d_read_shut ["c"] (spAdd 384) := ⟨ok_read_shut F_read_shut T0, m_read_shut, F_read_shut.kp, b_read_shut⟩
  have b_write_shut := F_write_shut.binds (ps := ["c"]) fun _ _ _ _ _ _ us hl => match us, hl with | [_], _ => rfl
  have G_write_shut : Gd P w K mg base "write_shut" 1 f_write_shut d_write_shut ["c"] (spAdd 512) := ⟨ok_write_shut F_write_shut T0, m_write_shut, F_write_shut.kp, b_write_shut⟩
  have b_can_go := F_can_go.binds (ps := ["me", "n"]) fun _ _ _ _ _ _ us hl => match us, hl with | [_, _], _ => rfl
  have G_can_go : Gd P w K mg base "can_go" 1 f_can_go d_can_go ["me", "n"] (spGo) := ⟨ok_can_go F_can_go T0, m_can_go, F_can_go.kp, b_can_go⟩
  have b_can_begin := F_can_begin.binds (ps := ["me", "n"]) fun _ _ _ _ _ _ us hl => match us, hl with | [_, _], _ => rfl
  have G_can_begin : Gd P w K mg base "can_begin" 1 f_can_begin d_can_begin ["me", "n"] (spCan) := ⟨ok_can_begin F_can_begin T0, m_can_begin, F_can_begin.kp, b_can_begin⟩
  have b_crossing := F_crossing.binds (ps := ["row", "place"]) fun _ _ _ _ _ _ us hl => match us, hl with | [_, _], _ => rfl
  have G_crossing : Gd P w K mg base "crossing" 1 f_crossing d_crossing ["row", "place"] (spCross) := ⟨ok_crossing F_crossing, m_crossing, F_crossing.kp, b_crossing⟩
  have b_is_beyond := F_is_beyond.binds (ps := ["row", "n"]) fun _ _ _ _ _ _ us hl => match us, hl with | [_, _], _ => rfl
  have G_is_beyond : Gd P w K mg base "is_beyond" 1 f_is_beyond d_is_beyond ["row", "n"] (spBeyond) := ⟨ok_is_beyond F_is_beyond, m_is_beyond, F_is_beyond.kp, b_is_beyond⟩
  have b_w___init__ := F_w___init__.binds (ps := ["self", "me", "n"]) fun _ _ _ _ _ _ us hl => match us, hl with | [_, _, _], _ => rfl
  have G_w___init__ : Md P w K mg base CW "__init__" 1 f_w___init__ d_w___init__ ["self", "me", "n"] (spWInit CW) := ⟨ok_w___init__ F_w___init__ TW, m_w___init__, b_w___init__⟩
  have b_w_here := F_w_here.binds (ps := ["self"]) fun _ _ _ _ _ _ us hl => match us, hl with | [_], _ => rfl
  have G_w_here : Md P w K mg base CW "here" 2 f_w_here d_w_here ["self"] (spHere CW) := ⟨ok_w_here F_w_here TW G_crossing, m_w_here, b_w_here⟩
  have b_w_go_on := F_w_go_on.binds (ps := ["self", "place"]) fun _ _ _ _ _ _ us hl => match us, hl with | [_, _], _ => rfl
  have G_w_go_on : Md P w K mg base CW "go_on" 3 f_w_go_on d_w_go_on ["self", "place"] (spGoOn CW) := ⟨ok_w_go_on F_w_go_on TW T0 G_w_here G_is_beyond G_write_who, m_w_go_on, b_w_go_on⟩
  have b_w_wrote := F_w_wrote.binds (ps := ["self"]) fun _ _ _ _ _ _ us hl => match us, hl with | [_], _ => rfl
  have G_w_wrote : Md P w K mg base CW "wrote" 3 f_w_wrote d_w_wrote ["self"] (spWWrote CW) := ⟨ok_w_wrote F_w_wrote TW T0 G_w_here G_read_shut G_read_who, m_w_wrote, b_w_wrote⟩
  have b_w_tried := F_w_tried.binds (ps := ["self", "value"]) fun _ _ _ _ _ _ us hl => match us, hl with | [_, _], _ => rfl
  have G_w_tried : Md P w K mg base CW "tried" 4 f_w_tried d_w_tried ["self", "value"] (spWGot CW (· = .looks)) := ⟨ok_w_tried F_w_tried TW G_w_here G_w_go_on G_write_shut, m_w_tried, b_w_tried⟩
  have b_w_looked := F_w_looked.binds (ps := ["self", "value"]) fun _ _ _ _ _ _ us hl => match us, hl with | [_, _], _ => rfl
  have G_w_looked : Md P w K mg base CW "looked" 4 f_w_looked d_w_looked ["self", "value"] (spWGot CW (· = .reads)) := ⟨ok_w_looked F_w_looked TW G_w_here G_w_go_on, m_w_looked, b_w_looked⟩
  have b_w_got := F_w_got.binds (ps := ["self", "value"]) fun _ _ _ _ _ _ us hl => match us, hl with | [_, _], _ => rfl
  have G_w_got : Md P w K mg base CW "got" 5 f_w_got d_w_got ["self", "value"] (spWGot CW (fun _ => True)) := ⟨ok_w_got F_w_got TW T0 G_w_tried G_w_looked, m_w_got, b_w_got⟩
  have b_g___init__ := F_g___init__.binds (ps := ["self", "me", "n"]) fun _ _ _ _ _ _ us hl => match us, hl with | [_, _, _], _ => rfl
  have G_g___init__ : Md P w K mg base CG "__init__" 1 f_g___init__ d_g___init__ ["self", "me", "n"] (spGInit CG) := ⟨ok_g___init__ F_g___init__ TG, m_g___init__, b_g___init__⟩
  have b_g_want := F_g_want.binds (ps := ["self"]) fun _ _ _ _ _ _ us hl => match us, hl with | [_], _ => rfl
  have G_g_want : Md P w K mg base CG "want" 1 f_g_want d_g_want ["self"] (spGWant CG) := ⟨ok_g_want F_g_want TG T0, m_g_want, b_g_want⟩
  have b_g_leave := F_g_leave.binds (ps := ["self"]) fun _ _ _ _ _ _ us hl => match us, hl with | [_], _ => rfl
  have G_g_leave : Md P w K mg base CG "leave" 1 f_g_leave d_g_leave ["self"] (spGLeave CG) := ⟨ok_g_leave F_g_leave TG T0, m_g_leave, b_g_leave⟩
  have b_g_number := F_g_number.binds (ps := ["self"]) fun _ _ _ _ _ _ us hl => match us, hl with | [_], _ => rfl
  have G_g_number : Md P w K mg base CG "number" 1 f_g_number d_g_number ["self"] (spGNum CG) := ⟨ok_g_number F_g_number TG T0, m_g_number, b_g_number⟩
  have b_g_look_at := F_g_look_at.binds (ps := ["self", "j"]) fun _ _ _ _ _ _ us hl => match us, hl with | [_, _], _ => rfl
  have G_g_look_at : Md P w K mg base CG "look_at" 2 f_g_look_at d_g_look_at ["self", "j"] (spLook CG) := ⟨ok_g_look_at F_g_look_at TG T0 G_drawing_of, m_g_look_at, b_g_look_at⟩
  have b_g_wrote := F_g_wrote.binds (ps := ["self"]) fun _ _ _ _ _ _ us hl => match us, hl with | [_], _ => rfl
  have G_g_wrote : Md P w K mg base CG "wrote" 3 f_g_wrote d_g_wrote ["self"] (spGWrote CG) := ⟨ok_g_wrote F_g_wrote TG T0 G_number_of G_g_look_at, m_g_wrote, b_g_wrote⟩
  have b_g_seen := F_g_seen.binds (ps := ["self", "value"]) fun _ _ _ _ _ _ us hl => match us, hl with | [_, _], _ => rfl
  have G_g_seen : Md P w K mg base CG "seen" 2 f_g_seen d_g_seen ["self", "value"] (spGGot CG (fun s => ∃ j gr, s = .sees j gr)) := ⟨ok_g_seen F_g_seen TG T0 G_number_of hmx, m_g_seen, b_g_seen⟩
  have b_g_watched := F_g_watched.binds (ps := ["self", "value"]) fun _ _ _ _ _ _ us hl => match us, hl with | [_, _], _ => rfl
  have G_g_watched : Md P w K mg base CG "watched" 2 f_g_watched d_g_watched ["self", "value"] (spGGot CG (fun s => ∃ j, s = .asks j)) := ⟨ok_g_watched F_g_watched TG G_number_of G_drawing_of, m_g_watched, b_g_watched⟩
  have b_g_goes_behind := F_g_goes_behind.binds (ps := ["self", "value"]) fun _ _ _ _ _ _ us hl => match us, hl with | [_, _], _ => rfl
  have G_g_goes_behind : Md P w K mg base CG "goes_behind" 1 f_g_goes_behind d_g_goes_behind ["self", "value"] (spBehind CG) := ⟨ok_g_goes_behind F_g_goes_behind TG, m_g_goes_behind, b_g_goes_behind⟩
  have b_g_waited := F_g_waited.binds (ps := ["self", "value"]) fun _ _ _ _ _ _ us hl => match us, hl with | [_, _], _ => rfl
  have G_g_waited : Md P w K mg base CG "waited" 3 f_g_waited d_g_waited ["self", "value"] (spGGot CG (fun s => ∃ j, s = .waits j)) := ⟨ok_g_waited F_g_waited TG G_number_of G_g_look_at G_g_goes_behind, m_g_waited, b_g_waited⟩
  have b_g_got := F_g_got.binds (ps := ["self", "value"]) fun _ _ _ _ _ _ us hl => match us, hl with | [_, _], _ => rfl
  have G_g_got : Md P w K mg base CG "got" 4 f_g_got d_g_got ["self", "value"] (spGGot CG (fun _ => True)) := ⟨ok_g_got F_g_got TG T0 G_g_seen G_g_watched G_g_waited, m_g_got, b_g_got⟩
  have b_bk_begin := F_bk_begin.binds (ps := ["objects", "k", "numbers"]) fun _ _ _ _ _ _ us hl => match us, hl with | [_, _, _], _ => rfl
  have b_bk_want := F_bk_want.binds (ps := ["objects", "k", "numbers"]) fun _ _ _ _ _ _ us hl => match us, hl with | [_, _, _], _ => rfl
  have b_bk_leave := F_bk_leave.binds (ps := ["objects", "k", "numbers"]) fun _ _ _ _ _ _ us hl => match us, hl with | [_, _, _], _ => rfl
  have b_bk_number := F_bk_number.binds (ps := ["objects", "k", "numbers"]) fun _ _ _ _ _ _ us hl => match us, hl with | [_, _, _], _ => rfl
  have b_nm_begin := F_nm_begin.binds (ps := ["objects", "k", "numbers"]) fun _ _ _ _ _ _ us hl => match us, hl with | [_, _, _], _ => rfl
  have b_read_for := F_read_for.binds (ps := ["objects", "k", "numbers"]) fun _ _ _ _ _ _ us hl => match us, hl with | [_, _, _], _ => rfl
  have b_written_for := F_written_for.binds (ps := ["objects", "k", "numbers"]) fun _ _ _ _ _ _ us hl => match us, hl with | [_, _, _], _ => rfl
  have O_bk_begin := ok_bk_begin (P := P) (w := w) (base := base) (CW := CW) F_bk_begin T0 G_can_begin MKG G_g___init__ gG
  have O_bk_want := ok_bk_want (P := P) (w := w) (mg := mg) (base := base) (CW := CW) F_bk_want TG G_g_want
  have O_bk_leave := ok_bk_leave (P := P) (w := w) (mg := mg) (base := base) (CW := CW) F_bk_leave TG G_g_leave
  have O_bk_number := ok_bk_number (P := P) (w := w) (mg := mg) (base := base) (CW := CW) F_bk_number TG G_g_number
  have O_nm_begin := ok_nm_begin (P := P) (w := w) (base := base) (CG := CG) F_nm_begin T0 G_can_go G_write_who MKW G_w___init__ gW
  have O_read_for := ok_read_for F_read_for TG TW G_g_got G_w_got
  have O_written_for := ok_written_for F_written_for TG TW G_g_wrote G_w_wrote
  have keys : ∀ e ∈ (#[⟨0, .int 0 t0, .ref f_bk_begin⟩, ⟨1, .int 1 t1, .ref f_bk_want⟩, ⟨2, .int 2 t2, .ref f_read_for⟩, ⟨3, .int 3 t3, .ref f_written_for⟩, ⟨4, .int 4 t4, .ref f_bk_leave⟩, ⟨5, .int 5 t5, .ref f_bk_number⟩, ⟨6, .int 6 t6, .ref f_nm_begin⟩, ⟨7, .int 7 t7, .ref f_read_for⟩, ⟨8, .int 8 t8, .ref f_written_for⟩] : Array DictEntry), ∃ k t, e.key = .int k t ∧ e.hash = hashInt k := by
    intro e he
    simp only [List.mem_toArray, List.mem_cons, List.not_mem_nil, or_false] at he
    rcases he with rfl | rfl | rfl | rfl | rfl | rfl | rfl | rfl | rfl <;> exact ⟨_, _, rfl, rfl⟩
  refine ok_answers (CG := CG) (CW := CW) F_answers T0 hrng hlen gD gM hM fun p h0 h8 => ?_
  rcases nine h0 h8 with e | e | e | e | e | e | e | e | e <;> subst e
  · exact ⟨f_bk_begin, ⟨_, _, _, lD, keys, rfl, rfl⟩, ⟨_, _, O_bk_begin.mono (by decide), F_bk_begin.kp, b_bk_begin⟩⟩
  · exact ⟨f_bk_want, ⟨_, _, _, lD, keys, rfl, rfl⟩, ⟨_, _, O_bk_want.mono (by decide), F_bk_want.kp, b_bk_want⟩⟩
  · exact ⟨f_read_for, ⟨_, _, _, lD, keys, rfl, rfl⟩, ⟨_, _, (O_read_for.imp fun _ _ _ _ z => .inl z), F_read_for.kp, b_read_for⟩⟩
  · exact ⟨f_written_for, ⟨_, _, _, lD, keys, rfl, rfl⟩, ⟨_, _, ((O_written_for.imp fun _ _ _ _ z => .inl z).mono (by decide)), F_written_for.kp, b_written_for⟩⟩
  · exact ⟨f_bk_leave, ⟨_, _, _, lD, keys, rfl, rfl⟩, ⟨_, _, O_bk_leave.mono (by decide), F_bk_leave.kp, b_bk_leave⟩⟩
  · exact ⟨f_bk_number, ⟨_, _, _, lD, keys, rfl, rfl⟩, ⟨_, _, O_bk_number.mono (by decide), F_bk_number.kp, b_bk_number⟩⟩
  · exact ⟨f_nm_begin, ⟨_, _, _, lD, keys, rfl, rfl⟩, ⟨_, _, O_nm_begin.mono (by decide), F_nm_begin.kp, b_nm_begin⟩⟩
  · exact ⟨f_read_for, ⟨_, _, _, lD, keys, rfl, rfl⟩, ⟨_, _, (O_read_for.imp fun _ _ _ _ z => .inr z), F_read_for.kp, b_read_for⟩⟩
  · exact ⟨f_written_for, ⟨_, _, _, lD, keys, rfl, rfl⟩, ⟨_, _, ((O_written_for.imp fun _ _ _ _ z => .inr z).mono (by decide)), F_written_for.kp, b_written_for⟩⟩
end
end Rn
namespace Rn
open PySem PySem.Spec PyProof.Rows L2
theorem all_mk {P : Program} {w : World} {K : PySem.W.Frag} {h : Heap} {mg : Str → Option Value} {fa CG CW aD aM : Addr} (X : K.In h) (G : h.Ns mainGlobals mg) (hfa : mg "answers" = some (.ref fa))
    {f_drawing_of : Addr} {od_drawing_of an_drawing_of : Option Addr} {sl_drawing_of : Array (Option Value)} {oc_drawing_of kV_drawing_of dc_drawing_of pm_drawing_of cd_drawing_of ct_drawing_of : Value}
    {f_number_of : Addr} {od_number_of an_number_of : Option Addr} {sl_number_of : Array (Option Value)} {oc_number_of kV_number_of dc_number_of pm_number_of cd_number_of ct_number_of : Value}
    {f_write_who : Addr} {od_write_who an_write_who : Option Addr} {sl_write_who : Array (Option Value)} {oc_write_who kV_write_who dc_write_who pm_write_who cd_write_who ct_write_who : Value}
    {f_read_who : Addr} {od_read_who an_read_who : Option Addr} {sl_read_who : Array (Option Value)} {oc_read_who kV_read_who dc_read_who pm_read_who cd_read_who ct_read_who : Value}
    {f_read_shut : Addr} {od_read_shut an_read_shut : Option Addr} {sl_read_shut : Array (Option Value)} {oc_read_shut kV_read_shut dc_read_shut pm_read_shut cd_read_shut ct_read_shut : Value}
    {f_write_shut : Addr} {od_write_shut an_write_shut : Option Addr} {sl_write_shut : Array (Option Value)} {oc_write_shut kV_write_shut dc_write_shut pm_write_shut cd_write_shut ct_write_shut : Value}
    {f_crossing : Addr} {od_crossing an_crossing : Option Addr} {sl_crossing : Array (Option Value)} {oc_crossing kV_crossing dc_crossing pm_crossing cd_crossing ct_crossing : Value}
    {f_is_beyond : Addr} {od_is_beyond an_is_beyond : Option Addr} {sl_is_beyond : Array (Option Value)} {oc_is_beyond kV_is_beyond dc_is_beyond pm_is_beyond cd_is_beyond ct_is_beyond : Value}
    {f_can_go : Addr} {od_can_go an_can_go : Option Addr} {sl_can_go : Array (Option Value)} {oc_can_go kV_can_go dc_can_go pm_can_go cd_can_go ct_can_go : Value}
    {f_can_begin : Addr} {od_can_begin an_can_begin : Option Addr} {sl_can_begin : Array (Option Value)} {oc_can_begin kV_can_begin dc_can_begin pm_can_begin cd_can_begin ct_can_begin : Value}
    {f_bk_begin : Addr} {od_bk_begin an_bk_begin : Option Addr} {sl_bk_begin : Array (Option Value)} {oc_bk_begin kV_bk_begin dc_bk_begin pm_bk_begin cd_bk_begin ct_bk_begin : Value}
    {f_bk_want : Addr} {od_bk_want an_bk_want : Option Addr} {sl_bk_want : Array (Option Value)} {oc_bk_want kV_bk_want dc_bk_want pm_bk_want cd_bk_want ct_bk_want : Value}
    {f_bk_leave : Addr} {od_bk_leave an_bk_leave : Option Addr} {sl_bk_leave : Array (Option Value)} {oc_bk_leave kV_bk_leave dc_bk_leave pm_bk_leave cd_bk_leave ct_bk_leave : Value}
    {f_bk_number : Addr} {od_bk_number an_bk_number : Option Addr} {sl_bk_number : Array (Option Value)} {oc_bk_number kV_bk_number dc_bk_number pm_bk_number cd_bk_number ct_bk_number : Value}
    {f_nm_begin : Addr} {od_nm_begin an_nm_begin : Option Addr} {sl_nm_begin : Array (Option Value)} {oc_nm_begin kV_nm_begin dc_nm_begin pm_nm_begin cd_nm_begin ct_nm_begin : Value}
    {f_read_for : Addr} {od_read_for an_read_for : Option Addr} {sl_read_for : Array (Option Value)} {oc_read_for kV_read_for dc_read_for pm_read_for cd_read_for ct_read_for : Value}
    {f_written_for : Addr} {od_written_for an_written_for : Option Addr} {sl_written_for : Array (Option Value)} {oc_written_for kV_written_for dc_written_for pm_written_for cd_written_for ct_written_for : Value}
    {f_answers : Addr} {od_answers an_answers : Option Addr} {sl_answers : Array (Option Value)} {oc_answers kV_answers dc_answers pm_answers cd_answers ct_answers : Value}
    {f_w___init__ : Addr} {od_w___init__ an_w___init__ : Option Addr} {sl_w___init__ : Array (Option Value)} {oc_w___init__ kV_w___init__ dc_w___init__ pm_w___init__ cd_w___init__ ct_w___init__ : Value}
    {f_w_here : Addr} {od_w_here an_w_here : Option Addr} {sl_w_here : Array (Option Value)} {oc_w_here kV_w_here dc_w_here pm_w_here cd_w_here ct_w_here : Value}
    {f_w_go_on : Addr} {od_w_go_on an_w_go_on : Option Addr} {sl_w_go_on : Array (Option Value)} {oc_w_go_on kV_w_go_on dc_w_go_on pm_w_go_on cd_w_go_on ct_w_go_on : Value}
    {f_w_got : Addr} {od_w_got an_w_got : Option Addr} {sl_w_got : Array (Option Value)} {oc_w_got kV_w_got dc_w_got pm_w_got cd_w_got ct_w_got : Value}
    {f_w_wrote : Addr} {od_w_wrote an_w_wrote : Option Addr} {sl_w_wrote : Array (Option Value)} {oc_w_wrote kV_w_wrote dc_w_wrote pm_w_wrote cd_w_wrote ct_w_wrote : Value}
    {f_w_tried : Addr} {od_w_tried an_w_tried : Option Addr} {sl_w_tried : Array (Option Value)} {oc_w_tried kV_w_tried dc_w_tried pm_w_tried cd_w_tried ct_w_tried : Value}
    {f_w_looked : Addr} {od_w_looked an_w_looked : Option Addr} {sl_w_looked : Array (Option Value)} {oc_w_looked kV_w_looked dc_w_looked pm_w_looked cd_w_looked ct_w_looked : Value}
    {f_g___init__ : Addr} {od_g___init__ an_g___init__ : Option Addr} {sl_g___init__ : Array (Option Value)} {oc_g___init__ kV_g___init__ dc_g___init__ pm_g___init__ cd_g___init__ ct_g___init__ : Value}
    {f_g_want : Addr} {od_g_want an_g_want : Option Addr} {sl_g_want : Array (Option Value)} {oc_g_want kV_g_want dc_g_want pm_g_want cd_g_want ct_g_want : Value}
    {f_g_leave : Addr} {od_g_leave an_g_leave : Option Addr} {sl_g_leave : Array (Option Value)} {oc_g_leave kV_g_leave dc_g_leave pm_g_leave cd_g_leave ct_g_leave : Value}
    {f_g_got : Addr} {od_g_got an_g_got : Option Addr} {sl_g_got : Array (Option Value)} {oc_g_got kV_g_got dc_g_got pm_g_got cd_g_got ct_g_got : Value}
    {f_g_wrote : Addr} {od_g_wrote an_g_wrote : Option Addr} {sl_g_wrote : Array (Option Value)} {oc_g_wrote kV_g_wrote dc_g_wrote pm_g_wrote cd_g_wrote ct_g_wrote : Value}
    {f_g_number : Addr} {od_g_number an_g_number : Option Addr} {sl_g_number : Array (Option Value)} {oc_g_number kV_g_number dc_g_number pm_g_number cd_g_number ct_g_number : Value}
    {f_g_seen : Addr} {od_g_seen an_g_seen : Option Addr} {sl_g_seen : Array (Option Value)} {oc_g_seen kV_g_seen dc_g_seen pm_g_seen cd_g_seen ct_g_seen : Value}
    {f_g_look_at : Addr} {od_g_look_at an_g_look_at : Option Addr} {sl_g_look_at : Array (Option Value)} {oc_g_look_at kV_g_look_at dc_g_look_at pm_g_look_at cd_g_look_at ct_g_look_at : Value}
    {f_g_watched : Addr} {od_g_watched an_g_watched : Option Addr} {sl_g_watched : Array (Option Value)} {oc_g_watched kV_g_watched dc_g_watched pm_g_watched cd_g_watched ct_g_watched : Value}
    {f_g_goes_behind : Addr} {od_g_goes_behind an_g_goes_behind : Option Addr} {sl_g_goes_behind : Array (Option Value)} {oc_g_goes_behind kV_g_goes_behind dc_g_goes_behind pm_g_goes_behind cd_g_goes_behind ct_g_goes_behind : Value}
    {f_g_waited : Addr} {od_g_waited an_g_waited : Option Addr} {sl_g_waited : Array (Option Value)} {oc_g_waited kV_g_waited dc_g_waited pm_g_waited cd_g_waited ct_g_waited : Value}
    {t0 t1 t2 t3 t4 t5 t6 t7 t8 s0 s1 s2 s3 s4 s5 s6 s7 s8 : Tok} {nD nM : Nat} {odM : Option Addr} {slM : Array (Option Value)} {u_INSIDE u_OUTSIDE u_READ_DRAWING u_READ_NUMBER u_WRITE_DRAWING u_WRITE_NOT_DRAWING u_WRITE_NUMBER u_WRITE_WHO u_READ_WHO u_READ_SHUT u_WRITE_SHUT u_NO_NAME u_NOT_NOW u_NO_ARGUMENTS u_ALL u_LEAST_MANY_naming u_MOST_MANY_naming u_LEAST_MANY_room u_MOST_MANY_room u_MOST_OBJECTS : Tok}
    (aG : PySem.W.nsIn K mainGlobals "Guest" = some (some (.ref CG)))
    (aW : PySem.W.nsIn K mainGlobals "Walker" = some (some (.ref CW)))
    (a_drawing_of : PySem.W.nsIn K mainGlobals "drawing_of" = some (some (.ref f_drawing_of)))
    (l_drawing_of : K.lookup f_drawing_of = some ⟨oc_drawing_of, od_drawing_of, .func (PySem.W.fnOf "drawing_of" "drawing_of" (defArgs (topS 16)) (defBody (topS 16)) (defScope (topS 16)) .none kV_drawing_of dc_drawing_of pm_drawing_of an_drawing_of cd_drawing_of ct_drawing_of), sl_drawing_of⟩)
    (c_drawing_of : PySem.W.codeIn K cd_drawing_of "drawing_of" = true)
    (k_drawing_of : PySem.W.keepIn K (.ref f_drawing_of) = true)
    (a_number_of : PySem.W.nsIn K mainGlobals "number_of" = some (some (.ref f_number_of)))
    (l_number_of : K.lookup f_number_of = some ⟨oc_number_of, od_number_of, .func (PySem.W.fnOf "number_of" "number_of" (defArgs (topS 17)) (defBody (topS 17)) (defScope (topS 17)) .none kV_number_of dc_number_of pm_number_of an_number_of cd_number_of ct_number_of), sl_number_of⟩)
    (c_number_of : PySem.W.codeIn K cd_number_of "number_of" = true)
    (k_number_of : PySem.W.keepIn K (.ref f_number_of) = true)
    (a_write_who : PySem.W.nsIn K mainGlobals "write_who" = some (some (.ref f_write_who)))
    (l_write_who : K.lookup f_write_who = some ⟨oc_write_who, od_write_who, .func (PySem.W.fnOf "write_who" "write_who" (defArgs (topS 18)) (defBody (topS 18)) (defScope (topS 18)) .none kV_write_who dc_write_who pm_write_who an_write_who cd_write_who ct_write_who), sl_write_who⟩)
    (c_write_who : PySem.W.codeIn K cd_write_who "write_who" = true)
    (k_write_who : PySem.W.keepIn K (.ref f_write_who) = true)
    (a_read_who : PySem.W.nsIn K mainGlobals "read_who" = some (some (.ref f_read_who)))
    (l_read_who : K.lookup f_read_who = some ⟨oc_read_who, od_read_who, .func (PySem.W.fnOf "read_who" "read_who" (defArgs (topS 19)) (defBody (topS 19)) (defScope (topS 19)) .none kV_read_who dc_read_who pm_read_who an_read_who cd_read_who ct_read_who), sl_read_who⟩)
    (c_read_who : PySem.W.codeIn K cd_read_who "read_who" = true)
    (k_read_who : PySem.W.keepIn K (.ref f_read_who) = true)
    (a_read_shut : PySem.W.nsIn K mainGlobals "read_shut" = some (some (.ref f_read_shut)))
    (l_read_shut : K.lookup f_read_shut = some ⟨oc_read_shut, od_read_shut, .func (PySem.W.fnOf "read_shut" "read_shut" (defArgs (topS 20)) (defBody (topS 20)) (defScope (topS 20)) .none kV_read_shut dc_read_shut pm_read_shut an_read_shut cd_read_shut ct_read_shut), sl_read_shut⟩)
    (c_read_shut : PySem.W.codeIn K cd_read_shut "read_shut" = true)
    (k_read_shut : PySem.W.keepIn K (.ref f_read_shut) = true)
    (a_write_shut : PySem.W.nsIn K mainGlobals "write_shut" = some (some (.ref f_write_shut)))
    (l_write_shut : K.lookup f_write_shut = some ⟨oc_write_shut, od_write_shut, .func (PySem.W.fnOf "write_shut" "write_shut" (defArgs (topS 21)) (defBody (topS 21)) (defScope (topS 21)) .none kV_write_shut dc_write_shut pm_write_shut an_write_shut cd_write_shut ct_write_shut), sl_write_shut⟩)
    (c_write_shut : PySem.W.codeIn K cd_write_shut "write_shut" = true)
    (k_write_shut : PySem.W.keepIn K (.ref f_write_shut) = true)
    (a_crossing : PySem.W.nsIn K mainGlobals "crossing" = some (some (.ref f_crossing)))
    (l_crossing : K.lookup f_crossing = some ⟨oc_crossing, od_crossing, .func (PySem.W.fnOf "crossing" "crossing" (defArgs (topS 23)) (defBody (topS 23)) (defScope (topS 23)) .none kV_crossing dc_crossing pm_crossing an_crossing cd_crossing ct_crossing), sl_crossing⟩)
    (c_crossing : PySem.W.codeIn K cd_crossing "crossing" = true)
    (k_crossing : PySem.W.keepIn K (.ref f_crossing) = true)
    (a_is_beyond : PySem.W.nsIn K mainGlobals "is_beyond" = some (some (.ref f_is_beyond)))
    (l_is_beyond : K.lookup f_is_beyond = some ⟨oc_is_beyond, od_is_beyond, .func (PySem.W.fnOf "is_beyond" "is_beyond" (defArgs (topS 24)) (defBody (topS 24)) (defScope (topS 24)) .none kV_is_beyond dc_is_beyond pm_is_beyond an_is_beyond cd_is_beyond ct_is_beyond), sl_is_beyond⟩)
    (c_is_beyond : PySem.W.codeIn K cd_is_beyond "is_beyond" = true)
    (k_is_beyond : PySem.W.keepIn K (.ref f_is_beyond) = true)
    (a_can_go : PySem.W.nsIn K mainGlobals "can_go" = some (some (.ref f_can_go)))
    (l_can_go : K.lookup f_can_go = some ⟨oc_can_go, od_can_go, .func (PySem.W.fnOf "can_go" "can_go" (defArgs (topS 28)) (defBody (topS 28)) (defScope (topS 28)) .none kV_can_go dc_can_go pm_can_go an_can_go cd_can_go ct_can_go), sl_can_go⟩)
    (c_can_go : PySem.W.codeIn K cd_can_go "can_go" = true)
    (k_can_go : PySem.W.keepIn K (.ref f_can_go) = true)
    (a_can_begin : PySem.W.nsIn K mainGlobals "can_begin" = some (some (.ref f_can_begin)))
    (l_can_begin : K.lookup f_can_begin = some ⟨oc_can_begin, od_can_begin, .func (PySem.W.fnOf "can_begin" "can_begin" (defArgs (topS 33)) (defBody (topS 33)) (defScope (topS 33)) .none kV_can_begin dc_can_begin pm_can_begin an_can_begin cd_can_begin ct_can_begin), sl_can_begin⟩)
    (c_can_begin : PySem.W.codeIn K cd_can_begin "can_begin" = true)
    (k_can_begin : PySem.W.keepIn K (.ref f_can_begin) = true)
    (a_bk_begin : PySem.W.nsIn K mainGlobals "bk_begin" = some (some (.ref f_bk_begin)))
    (l_bk_begin : K.lookup f_bk_begin = some ⟨oc_bk_begin, od_bk_begin, .func (PySem.W.fnOf "bk_begin" "bk_begin" (defArgs (topS 37)) (defBody (topS 37)) (defScope (topS 37)) .none kV_bk_begin dc_bk_begin pm_bk_begin an_bk_begin cd_bk_begin ct_bk_begin), sl_bk_begin⟩)
    (c_bk_begin : PySem.W.codeIn K cd_bk_begin "bk_begin" = true)
    (k_bk_begin : PySem.W.keepIn K (.ref f_bk_begin) = true)
    (a_bk_want : PySem.W.nsIn K mainGlobals "bk_want" = some (some (.ref f_bk_want)))
    (l_bk_want : K.lookup f_bk_want = some ⟨oc_bk_want, od_bk_want, .func (PySem.W.fnOf "bk_want" "bk_want" (defArgs (topS 38)) (defBody (topS 38)) (defScope (topS 38)) .none kV_bk_want dc_bk_want pm_bk_want an_bk_want cd_bk_want ct_bk_want), sl_bk_want⟩)
    (c_bk_want : PySem.W.codeIn K cd_bk_want "bk_want" = true)
    (k_bk_want : PySem.W.keepIn K (.ref f_bk_want) = true)
    (a_bk_leave : PySem.W.nsIn K mainGlobals "bk_leave" = some (some (.ref f_bk_leave)))
    (l_bk_leave : K.lookup f_bk_leave = some ⟨oc_bk_leave, od_bk_leave, .func (PySem.W.fnOf "bk_leave" "bk_leave" (defArgs (topS 39)) (defBody (topS 39)) (defScope (topS 39)) .none kV_bk_leave dc_bk_leave pm_bk_leave an_bk_leave cd_bk_leave ct_bk_leave), sl_bk_leave⟩)
    (c_bk_leave : PySem.W.codeIn K cd_bk_leave "bk_leave" = true)
    (k_bk_leave : PySem.W.keepIn K (.ref f_bk_leave) = true)
    (a_bk_number : PySem.W.nsIn K mainGlobals "bk_number" = some (some (.ref f_bk_number)))
    (l_bk_number : K.lookup f_bk_number = some ⟨oc_bk_number, od_bk_number, .func (PySem.W.fnOf "bk_number" "bk_number" (defArgs (topS 40)) (defBody (topS 40)) (defScope (topS 40)) .none kV_bk_number dc_bk_number pm_bk_number an_bk_number cd_bk_number ct_bk_number), sl_bk_number⟩)
    (c_bk_number : PySem.W.codeIn K cd_bk_number "bk_number" = true)
    (k_bk_number : PySem.W.keepIn K (.ref f_bk_number) = true)
    (a_nm_begin : PySem.W.nsIn K mainGlobals "nm_begin" = some (some (.ref f_nm_begin)))
    (l_nm_begin : K.lookup f_nm_begin = some ⟨oc_nm_begin, od_nm_begin, .func (PySem.W.fnOf "nm_begin" "nm_begin" (defArgs (topS 41)) (defBody (topS 41)) (defScope (topS 41)) .none kV_nm_begin dc_nm_begin pm_nm_begin an_nm_begin cd_nm_begin ct_nm_begin), sl_nm_begin⟩)
    (c_nm_begin : PySem.W.codeIn K cd_nm_begin "nm_begin" = true)
    (k_nm_begin : PySem.W.keepIn K (.ref f_nm_begin) = true)
    (a_read_for : PySem.W.nsIn K mainGlobals "read_for" = some (some (.ref f_read_for)))
    (l_read_for : K.lookup f_read_for = some ⟨oc_read_for, od_read_for, .func (PySem.W.fnOf "read_for" "read_for" (defArgs (topS 42)) (defBody (topS 42)) (defScope (topS 42)) .none kV_read_for dc_read_for pm_read_for an_read_for cd_read_for ct_read_for), sl_read_for⟩)
    (c_read_for : PySem.W.codeIn K cd_read_for "read_for" = true)
    (k_read_for : PySem.W.keepIn K (.ref f_read_for) = true)
    (a_written_for : PySem.W.nsIn K mainGlobals "written_for" = some (some (.ref f_written_for)))
    (l_written_for : K.lookup f_written_for = some ⟨oc_written_for, od_written_for, .func (PySem.W.fnOf "written_for" "written_for" (defArgs (topS 43)) (defBody (topS 43)) (defScope (topS 43)) .none kV_written_for dc_written_for pm_written_for an_written_for cd_written_for ct_written_for), sl_written_for⟩)
    (c_written_for : PySem.W.codeIn K cd_written_for "written_for" = true)
    (k_written_for : PySem.W.keepIn K (.ref f_written_for) = true)
    (a_answers : PySem.W.nsIn K mainGlobals "answers" = some (some (.ref f_answers)))
    (l_answers : K.lookup f_answers = some ⟨oc_answers, od_answers, .func (PySem.W.fnOf "answers" "answers" (defArgs (topS 46)) (defBody (topS 46)) (defScope (topS 46)) .none kV_answers dc_answers pm_answers an_answers cd_answers ct_answers), sl_answers⟩)
    (c_answers : PySem.W.codeIn K cd_answers "answers" = true)
    (k_answers : PySem.W.keepIn K (.ref f_answers) = true)
    (a_w___init__ : PySem.W.findIn K (.ref CW) "__init__" = some (some (.ref f_w___init__)))
    (i_w___init__ : PySem.W.isFn K (.ref f_w___init__) = true)
    (l_w___init__ : K.lookup f_w___init__ = some ⟨oc_w___init__, od_w___init__, .func (PySem.W.fnOf "__init__" "Walker.__init__" (defArgs (inClass (topS 29) 0)) (defBody (inClass (topS 29) 0)) (defScope (inClass (topS 29) 0)) .none kV_w___init__ dc_w___init__ pm_w___init__ an_w___init__ cd_w___init__ ct_w___init__), sl_w___init__⟩)
    (c_w___init__ : PySem.W.codeIn K cd_w___init__ "Walker.__init__" = true)
    (k_w___init__ : PySem.W.keepIn K (.ref f_w___init__) = true)
    (a_w_here : PySem.W.findIn K (.ref CW) "here" = some (some (.ref f_w_here)))
    (i_w_here : PySem.W.isFn K (.ref f_w_here) = true)
    (l_w_here : K.lookup f_w_here = some ⟨oc_w_here, od_w_here, .func (PySem.W.fnOf "here" "Walker.here" (defArgs (inClass (topS 29) 1)) (defBody (inClass (topS 29) 1)) (defScope (inClass (topS 29) 1)) .none kV_w_here dc_w_here pm_w_here an_w_here cd_w_here ct_w_here), sl_w_here⟩)
    (c_w_here : PySem.W.codeIn K cd_w_here "Walker.here" = true)
    (k_w_here : PySem.W.keepIn K (.ref f_w_here) = true)
    (a_w_go_on : PySem.W.findIn K (.ref CW) "go_on" = some (some (.ref f_w_go_on)))
    (i_w_go_on : PySem.W.isFn K (.ref f_w_go_on) = true)
    (l_w_go_on : K.lookup f_w_go_on = some ⟨oc_w_go_on, od_w_go_on, .func (PySem.W.fnOf "go_on" "Walker.go_on" (defArgs (inClass (topS 29) 2)) (defBody (inClass (topS 29) 2)) (defScope (inClass (topS 29) 2)) .none kV_w_go_on dc_w_go_on pm_w_go_on an_w_go_on cd_w_go_on ct_w_go_on), sl_w_go_on⟩)
    (c_w_go_on : PySem.W.codeIn K cd_w_go_on "Walker.go_on" = true)
    (k_w_go_on : PySem.W.keepIn K (.ref f_w_go_on) = true)
    (a_w_got : PySem.W.findIn K (.ref CW) "got" = some (some (.ref f_w_got)))
    (i_w_got : PySem.W.isFn K (.ref f_w_got) = true)
    (l_w_got : K.lookup f_w_got = some ⟨oc_w_got, od_w_got, .func (PySem.W.fnOf "got" "Walker.got" (defArgs (inClass (topS 29) 3)) (defBody (inClass (topS 29) 3)) (defScope (inClass (topS 29) 3)) .none kV_w_got dc_w_got pm_w_got an_w_got cd_w_got ct_w_got), sl_w_got⟩)
    (c_w_got : PySem.W.codeIn K cd_w_got "Walker.got" = true)
    (k_w_got : PySem.W.keepIn K (.ref f_w_got) = true)
    (a_w_wrote : PySem.W.findIn K (.ref CW) "wrote" = some (some (.ref f_w_wrote)))
    (i_w_wrote : PySem.W.isFn K (.ref f_w_wrote) = true)
    (l_w_wrote : K.lookup f_w_wrote = some ⟨oc_w_wrote, od_w_wrote, .func (PySem.W.fnOf "wrote" "Walker.wrote" (defArgs (inClass (topS 29) 4)) (defBody (inClass (topS 29) 4)) (defScope (inClass (topS 29) 4)) .none kV_w_wrote dc_w_wrote pm_w_wrote an_w_wrote cd_w_wrote ct_w_wrote), sl_w_wrote⟩)
    (c_w_wrote : PySem.W.codeIn K cd_w_wrote "Walker.wrote" = true)
    (k_w_wrote : PySem.W.keepIn K (.ref f_w_wrote) = true)
    (a_w_tried : PySem.W.findIn K (.ref CW) "tried" = some (some (.ref f_w_tried)))
    (i_w_tried : PySem.W.isFn K (.ref f_w_tried) = true)
    (l_w_tried : K.lookup f_w_tried = some ⟨oc_w_tried, od_w_tried, .func (PySem.W.fnOf "tried" "Walker.tried" (defArgs (inClass (topS 29) 5)) (defBody (inClass (topS 29) 5)) (defScope (inClass (topS 29) 5)) .none kV_w_tried dc_w_tried pm_w_tried an_w_tried cd_w_tried ct_w_tried), sl_w_tried⟩)
    (c_w_tried : PySem.W.codeIn K cd_w_tried "Walker.tried" = true)
    (k_w_tried : PySem.W.keepIn K (.ref f_w_tried) = true)
    (a_w_looked : PySem.W.findIn K (.ref CW) "looked" = some (some (.ref f_w_looked)))
    (i_w_looked : PySem.W.isFn K (.ref f_w_looked) = true)
    (l_w_looked : K.lookup f_w_looked = some ⟨oc_w_looked, od_w_looked, .func (PySem.W.fnOf "looked" "Walker.looked" (defArgs (inClass (topS 29) 6)) (defBody (inClass (topS 29) 6)) (defScope (inClass (topS 29) 6)) .none kV_w_looked dc_w_looked pm_w_looked an_w_looked cd_w_looked ct_w_looked), sl_w_looked⟩)
    (c_w_looked : PySem.W.codeIn K cd_w_looked "Walker.looked" = true)
    (k_w_looked : PySem.W.keepIn K (.ref f_w_looked) = true)
    (a_g___init__ : PySem.W.findIn K (.ref CG) "__init__" = some (some (.ref f_g___init__)))
    (i_g___init__ : PySem.W.isFn K (.ref f_g___init__) = true)
    (l_g___init__ : K.lookup f_g___init__ = some ⟨oc_g___init__, od_g___init__, .func (PySem.W.fnOf "__init__" "Guest.__init__" (defArgs (inClass (topS 34) 0)) (defBody (inClass (topS 34) 0)) (defScope (inClass (topS 34) 0)) .none kV_g___init__ dc_g___init__ pm_g___init__ an_g___init__ cd_g___init__ ct_g___init__), sl_g___init__⟩)
    (c_g___init__ : PySem.W.codeIn K cd_g___init__ "Guest.__init__" = true)
    (k_g___init__ : PySem.W.keepIn K (.ref f_g___init__) = true)
    (a_g_want : PySem.W.findIn K (.ref CG) "want" = some (some (.ref f_g_want)))
    (i_g_want : PySem.W.isFn K (.ref f_g_want) = true)
    (l_g_want : K.lookup f_g_want = some ⟨oc_g_want, od_g_want, .func (PySem.W.fnOf "want" "Guest.want" (defArgs (inClass (topS 34) 1)) (defBody (inClass (topS 34) 1)) (defScope (inClass (topS 34) 1)) .none kV_g_want dc_g_want pm_g_want an_g_want cd_g_want ct_g_want), sl_g_want⟩)
    (c_g_want : PySem.W.codeIn K cd_g_want "Guest.want" = true)
    (k_g_want : PySem.W.keepIn K (.ref f_g_want) = true)
    (a_g_leave : PySem.W.findIn K (.ref CG) "leave" = some (some (.ref f_g_leave)))
    (i_g_leave : PySem.W.isFn K (.ref f_g_leave) = true)
    (l_g_leave : K.lookup f_g_leave = some ⟨oc_g_leave, od_g_leave, .func (PySem.W.fnOf "leave" "Guest.leave" (defArgs (inClass (topS 34) 2)) (defBody (inClass (topS 34) 2)) (defScope (inClass (topS 34) 2)) .none kV_g_leave dc_g_leave pm_g_leave an_g_leave cd_g_leave ct_g_leave), sl_g_leave⟩)
    (c_g_leave : PySem.W.codeIn K cd_g_leave "Guest.leave" = true)
    (k_g_leave : PySem.W.keepIn K (.ref f_g_leave) = true)
    (a_g_got : PySem.W.findIn K (.ref CG) "got" = some (some (.ref f_g_got)))
    (i_g_got : PySem.W.isFn K (.ref f_g_got) = true)
    (l_g_got : K.lookup f_g_got = some ⟨oc_g_got, od_g_got, .func (PySem.W.fnOf "got" "Guest.got" (defArgs (inClass (topS 34) 3)) (defBody (inClass (topS 34) 3)) (defScope (inClass (topS 34) 3)) .none kV_g_got dc_g_got pm_g_got an_g_got cd_g_got ct_g_got), sl_g_got⟩)
    (c_g_got : PySem.W.codeIn K cd_g_got "Guest.got" = true)
    (k_g_got : PySem.W.keepIn K (.ref f_g_got) = true)
    (a_g_wrote : PySem.W.findIn K (.ref CG) "wrote" = some (some (.ref f_g_wrote)))
    (i_g_wrote : PySem.W.isFn K (.ref f_g_wrote) = true)
    (l_g_wrote : K.lookup f_g_wrote = some ⟨oc_g_wrote, od_g_wrote, .func (PySem.W.fnOf "wrote" "Guest.wrote" (defArgs (inClass (topS 34) 4)) (defBody (inClass (topS 34) 4)) (defScope (inClass (topS 34) 4)) .none kV_g_wrote dc_g_wrote pm_g_wrote an_g_wrote cd_g_wrote ct_g_wrote), sl_g_wrote⟩)
    (c_g_wrote : PySem.W.codeIn K cd_g_wrote "Guest.wrote" = true)
    (k_g_wrote : PySem.W.keepIn K (.ref f_g_wrote) = true)
    (a_g_number : PySem.W.findIn K (.ref CG) "number" = some (some (.ref f_g_number)))
    (i_g_number : PySem.W.isFn K (.ref f_g_number) = true)
    (l_g_number : K.lookup f_g_number = some ⟨oc_g_number, od_g_number, .func (PySem.W.fnOf "number" "Guest.number" (defArgs (inClass (topS 34) 5)) (defBody (inClass (topS 34) 5)) (defScope (inClass (topS 34) 5)) .none kV_g_number dc_g_number pm_g_number an_g_number cd_g_number ct_g_number), sl_g_number⟩)
    (c_g_number : PySem.W.codeIn K cd_g_number "Guest.number" = true)
    (k_g_number : PySem.W.keepIn K (.ref f_g_number) = true)
    (a_g_seen : PySem.W.findIn K (.ref CG) "seen" = some (some (.ref f_g_seen)))
    (i_g_seen : PySem.W.isFn K (.ref f_g_seen) = true)
    (l_g_seen : K.lookup f_g_seen = some ⟨oc_g_seen, od_g_seen, .func (PySem.W.fnOf "seen" "Guest.seen" (defArgs (inClass (topS 34) 6)) (defBody (inClass (topS 34) 6)) (defScope (inClass (topS 34) 6)) .none kV_g_seen dc_g_seen pm_g_seen an_g_seen cd_g_seen ct_g_seen), sl_g_seen⟩)
    (c_g_seen : PySem.W.codeIn K cd_g_seen "Guest.seen" = true)
    (k_g_seen : PySem.W.keepIn K (.ref f_g_seen) = true)
    (a_g_look_at : PySem.W.findIn K (.ref CG) "look_at" = some (some (.ref f_g_look_at)))
    (i_g_look_at : PySem.W.isFn K (.ref f_g_look_at) = true)
    (l_g_look_at : K.lookup f_g_look_at = some ⟨oc_g_look_at, od_g_look_at, .func (PySem.W.fnOf "look_at" "Guest.look_at" (defArgs (inClass (topS 34) 7)) (defBody (inClass (topS 34) 7)) (defScope (inClass (topS 34) 7)) .none kV_g_look_at dc_g_look_at pm_g_look_at an_g_look_at cd_g_look_at ct_g_look_at), sl_g_look_at⟩)
    (c_g_look_at : PySem.W.codeIn K cd_g_look_at "Guest.look_at" = true)
    (k_g_look_at : PySem.W.keepIn K (.ref f_g_look_at) = true)
    (a_g_watched : PySem.W.findIn K (.ref CG) "watched" = some (some (.ref f_g_watched)))
    (i_g_watched : PySem.W.isFn K (.ref f_g_watched) = true)
    (l_g_watched : K.lookup f_g_watched = some ⟨oc_g_watched, od_g_watched, .func (PySem.W.fnOf "watched" "Guest.watched" (defArgs (inClass (topS 34) 8)) (defBody (inClass (topS 34) 8)) (defScope (inClass (topS 34) 8)) .none kV_g_watched dc_g_watched pm_g_watched an_g_watched cd_g_watched ct_g_watched), sl_g_watched⟩)
    (c_g_watched : PySem.W.codeIn K cd_g_watched "Guest.watched" = true)
    (k_g_watched : PySem.W.keepIn K (.ref f_g_watched) = true)
    (a_g_goes_behind : PySem.W.findIn K (.ref CG) "goes_behind" = some (some (.ref f_g_goes_behind)))
    (i_g_goes_behind : PySem.W.isFn K (.ref f_g_goes_behind) = true)
    (l_g_goes_behind : K.lookup f_g_goes_behind = some ⟨oc_g_goes_behind, od_g_goes_behind, .func (PySem.W.fnOf "goes_behind" "Guest.goes_behind" (defArgs (inClass (topS 34) 9)) (defBody (inClass (topS 34) 9)) (defScope (inClass (topS 34) 9)) .none kV_g_goes_behind dc_g_goes_behind pm_g_goes_behind an_g_goes_behind cd_g_goes_behind ct_g_goes_behind), sl_g_goes_behind⟩)
    (c_g_goes_behind : PySem.W.codeIn K cd_g_goes_behind "Guest.goes_behind" = true)
    (k_g_goes_behind : PySem.W.keepIn K (.ref f_g_goes_behind) = true)
    (a_g_waited : PySem.W.findIn K (.ref CG) "waited" = some (some (.ref f_g_waited)))
    (i_g_waited : PySem.W.isFn K (.ref f_g_waited) = true)
    (l_g_waited : K.lookup f_g_waited = some ⟨oc_g_waited, od_g_waited, .func (PySem.W.fnOf "waited" "Guest.waited" (defArgs (inClass (topS 34) 10)) (defBody (inClass (topS 34) 10)) (defScope (inClass (topS 34) 10)) .none kV_g_waited dc_g_waited pm_g_waited an_g_waited cd_g_waited ct_g_waited), sl_g_waited⟩)
    (c_g_waited : PySem.W.codeIn K cd_g_waited "Guest.waited" = true)
    (k_g_waited : PySem.W.keepIn K (.ref f_g_waited) = true)
    (pgCG : PySem.W.plainGet K CG Str.empty = true)
    (hdCG : PySem.W.hasDictIn K CG = true)
    (poCG : PySem.W.plainOver K CG = true)
    (saCG : PySem.W.findIn K (.ref CG) "__setattr__" = some (some (.builtin "object.__setattr__")))
    (mkCG : PySem.W.makesIn K CG = true)
    (kcCG : PySem.W.keepIn K (.ref CG) = true)
    (nCG_me : PySem.W.findIn K (.ref CG) "me" = some none)
    (nCG_n : PySem.W.findIn K (.ref CG) "n" = some none)
    (nCG_stand : PySem.W.findIn K (.ref CG) "stand" = some none)
    (nCG_other : PySem.W.findIn K (.ref CG) "other" = some none)
    (nCG_drawn : PySem.W.findIn K (.ref CG) "drawn" = some none)
    (nCG_greatest : PySem.W.findIn K (.ref CG) "greatest" = some none)
    (pgCW : PySem.W.plainGet K CW Str.empty = true)
    (hdCW : PySem.W.hasDictIn K CW = true)
    (poCW : PySem.W.plainOver K CW = true)
    (saCW : PySem.W.findIn K (.ref CW) "__setattr__" = some (some (.builtin "object.__setattr__")))
    (mkCW : PySem.W.makesIn K CW = true)
    (kcCW : PySem.W.keepIn K (.ref CW) = true)
    (nCW_me : PySem.W.findIn K (.ref CW) "me" = some none)
    (nCW_n : PySem.W.findIn K (.ref CW) "n" = some none)
    (nCW_row : PySem.W.findIn K (.ref CW) "row" = some none)
    (nCW_place : PySem.W.findIn K (.ref CW) "place" = some none)
    (nCW_stand : PySem.W.findIn K (.ref CW) "stand" = some none)
    (v_INSIDE : PySem.W.nsIn K mainGlobals "INSIDE" = some (some (.int (0) u_INSIDE)))
    (v_OUTSIDE : PySem.W.nsIn K mainGlobals "OUTSIDE" = some (some (.int (1) u_OUTSIDE)))
    (v_READ_DRAWING : PySem.W.nsIn K mainGlobals "READ_DRAWING" = some (some (.int (16) u_READ_DRAWING)))
    (v_READ_NUMBER : PySem.W.nsIn K mainGlobals "READ_NUMBER" = some (some (.int (32) u_READ_NUMBER)))
    (v_WRITE_DRAWING : PySem.W.nsIn K mainGlobals "WRITE_DRAWING" = some (some (.int (64) u_WRITE_DRAWING)))
    (v_WRITE_NOT_DRAWING : PySem.W.nsIn K mainGlobals "WRITE_NOT_DRAWING" = some (some (.int (65) u_WRITE_NOT_DRAWING)))
    (v_WRITE_NUMBER : PySem.W.nsIn K mainGlobals "WRITE_NUMBER" = some (some (.int (66) u_WRITE_NUMBER)))
    (v_WRITE_WHO : PySem.W.nsIn K mainGlobals "WRITE_WHO" = some (some (.int (128) u_WRITE_WHO)))
    (v_READ_WHO : PySem.W.nsIn K mainGlobals "READ_WHO" = some (some (.int (256) u_READ_WHO)))
    (v_READ_SHUT : PySem.W.nsIn K mainGlobals "READ_SHUT" = some (some (.int (384) u_READ_SHUT)))
    (v_WRITE_SHUT : PySem.W.nsIn K mainGlobals "WRITE_SHUT" = some (some (.int (512) u_WRITE_SHUT)))
    (v_NO_NAME : PySem.W.nsIn K mainGlobals "NO_NAME" = some (some (.int (64) u_NO_NAME)))
    (v_NOT_NOW : PySem.W.nsIn K mainGlobals "NOT_NOW" = some (some (.int (-4) u_NOT_NOW)))
    (v_NO_ARGUMENTS : PySem.W.nsIn K mainGlobals "NO_ARGUMENTS" = some (some (.int (-2) u_NO_ARGUMENTS)))
    (v_ALL : PySem.W.nsIn K mainGlobals "ALL" = some (some (.int (18446744073709551616) u_ALL)))
    (v_LEAST_MANY_naming : PySem.W.nsIn K mainGlobals "LEAST_MANY_naming" = some (some (.int (1) u_LEAST_MANY_naming)))
    (v_MOST_MANY_naming : PySem.W.nsIn K mainGlobals "MOST_MANY_naming" = some (some (.int (8) u_MOST_MANY_naming)))
    (v_LEAST_MANY_room : PySem.W.nsIn K mainGlobals "LEAST_MANY_room" = some (some (.int (2) u_LEAST_MANY_room)))
    (v_MOST_MANY_room : PySem.W.nsIn K mainGlobals "MOST_MANY_room" = some (some (.int (8) u_MOST_MANY_room)))
    (v_MOST_OBJECTS : PySem.W.nsIn K mainGlobals "MOST_OBJECTS" = some (some (.int (8) u_MOST_OBJECTS)))
    (b_range : PySem.W.nsIn K mainGlobals "range" = some none)
    (b_len : PySem.W.nsIn K mainGlobals "len" = some none)
    (b_max : PySem.W.nsIn K mainGlobals "max" = some none)
    (aDD : PySem.W.nsIn K mainGlobals "DEEDS" = some (some (.ref aD)))
    (lDD : K.lookup aD = some ⟨.type "dict", none, .dict #[⟨0, .int 0 t0, .ref f_bk_begin⟩, ⟨1, .int 1 t1, .ref f_bk_want⟩, ⟨2, .int 2 t2, .ref f_read_for⟩, ⟨3, .int 3 t3, .ref f_written_for⟩, ⟨4, .int 4 t4, .ref f_bk_leave⟩, ⟨5, .int 5 t5, .ref f_bk_number⟩, ⟨6, .int 6 t6, .ref f_nm_begin⟩, ⟨7, .int 7 t7, .ref f_read_for⟩, ⟨8, .int 8 t8, .ref f_written_for⟩] nD, #[]⟩)
    (aMM : PySem.W.nsIn K mainGlobals "MANY" = some (some (.ref aM)))
    (lMM : K.lookup aM = some ⟨.type "tuple", odM, .seq #[.int 2 s0, .int 0 s1, .int 1 s2, .int 0 s3, .int 0 s4, .int 0 s5, .int 2 s6, .int 1 s7, .int 0 s8] nM, slM⟩)
    : ∃ fd : FuncData, (∀ (s : Shared) (us : List Value), us.length = (["calls"] : List Str).length → BindsTo s fd ⟨us, []⟩ ((["calls"] : List Str).zip us)) ∧
      ∀ base : Heap, K.In base → base.Ns mainGlobals mg → FnOk P w K mg base CX0 7 fa fd ["calls"] (spAns K) := by
  have e := hfa.symm.trans (PySem.W.mg_of X G a_answers)
  cases e
  have F_drawing_of := fun_mk (st := topS 16) l_drawing_of c_drawing_of k_drawing_of
  have F_number_of := fun_mk (st := topS 17) l_number_of c_number_of k_number_of
  have F_write_who := fun_mk (st := topS 18) l_write_who c_write_who k_write_who
  have F_read_who := fun_mk (st := topS 19) l_read_who c_read_who k_read_who
  have F_read_shut := fun_mk (st := topS 20) l_read_shut c_read_shut k_read_shut
  have F_write_shut := fun_mk (st := topS 21) l_write_shut c_write_shut k_write_shut
  have F_crossing := fun_mk (st := topS 23) l_crossing c_crossing k_crossing
  have F_is_beyond := fun_mk (st := topS 24) l_is_beyond c_is_beyond k_is_beyond
  have F_can_go := fun_mk (st := topS 28) l_can_go c_can_go k_can_go
  have F_can_begin := fun_mk (st := topS 33) l_can_begin c_can_begin k_can_begin
  have F_bk_begin := fun_mk (st := topS 37) l_bk_begin c_bk_begin k_bk_begin
  have F_bk_want := fun_mk (st := topS 38) l_bk_want c_bk_want k_bk_want
  have F_bk_leave := fun_mk (st := topS 39) l_bk_leave c_bk_leave k_bk_leave
  have F_bk_number := fun_mk (st := topS 40) l_bk_number c_bk_number k_bk_number
  have F_nm_begin := fun_mk (st := topS 41) l_nm_begin c_nm_begin k_nm_begin
  have F_read_for := fun_mk (st := topS 42) l_read_for c_read_for k_read_for
  have F_written_for := fun_mk (st := topS 43) l_written_for c_written_for k_written_for
  have F_answers := fun_mk (st := topS 46) l_answers c_answers k_answers
  have F_w___init__ := fun_mk (st := inClass (topS 29) 0) l_w___init__ c_w___init__ k_w___init__
  have F_w_here := fun_mk (st := inClass (topS 29) 1) l_w_here c_w_here k_w_here
  have F_w_go_on := fun_mk (st := inClass (topS 29) 2) l_w_go_on c_w_go_on k_w_go_on
  have F_w_got := fun_mk (st := inClass (topS 29) 3) l_w_got c_w_got k_w_got
  have F_w_wrote := fun_mk (st := inClass (topS 29) 4) l_w_wrote c_w_wrote k_w_wrote
  have F_w_tried := fun_mk (st := inClass (topS 29) 5) l_w_tried c_w_tried k_w_tried
  have F_w_looked := fun_mk (st := inClass (topS 29) 6) l_w_looked c_w_looked k_w_looked
  have F_g___init__ := fun_mk (st := inClass (topS 34) 0) l_g___init__ c_g___init__ k_g___init__
  have F_g_want := fun_mk (st := inClass (topS 34) 1) l_g_want c_g_want k_g_want
  have F_g_leave := fun_mk (st := inClass (topS 34) 2) l_g_leave c_g_leave k_g_leave
  have F_g_got := fun_mk (st := inClass (topS 34) 3) l_g_got c_g_got k_g_got
  have F_g_wrote := fun_mk (st := inClass (topS 34) 4) l_g_wrote c_g_wrote k_g_wrote
  have F_g_number := fun_mk (st := inClass (topS 34) 5) l_g_number c_g_number k_g_number
  have F_g_seen := fun_mk (st := inClass (topS 34) 6) l_g_seen c_g_seen k_g_seen
  have F_g_look_at := fun_mk (st := inClass (topS 34) 7) l_g_look_at c_g_look_at k_g_look_at
  have F_g_watched := fun_mk (st := inClass (topS 34) 8) l_g_watched c_g_watched k_g_watched
  have F_g_goes_behind := fun_mk (st := inClass (topS 34) 9) l_g_goes_behind c_g_goes_behind k_g_goes_behind
  have F_g_waited := fun_mk (st := inClass (topS 34) 10) l_g_waited c_g_waited k_g_waited
  have TG : Gt K CG := ⟨⟨pgCG, hdCG, poCG, saCG⟩, nCG_me, nCG_n, nCG_stand, nCG_other, nCG_drawn, nCG_greatest⟩
  have TW : Wt K CW := ⟨⟨pgCW, hdCW, poCW, saCW⟩, nCW_me, nCW_n, nCW_row, nCW_place, nCW_stand⟩
  have T0 : Ct mg := ⟨⟨_, PySem.W.mg_of X G v_INSIDE⟩, ⟨_, PySem.W.mg_of X G v_OUTSIDE⟩, ⟨_, PySem.W.mg_of X G v_READ_DRAWING⟩, ⟨_, PySem.W.mg_of X G v_READ_NUMBER⟩, ⟨_, PySem.W.mg_of X G v_WRITE_DRAWING⟩, ⟨_, PySem.W.mg_of X G v_WRITE_NOT_DRAWING⟩, ⟨_, PySem.W.mg_of X G v_WRITE_NUMBER⟩, ⟨_, PySem.W.mg_of X G v_WRITE_WHO⟩, ⟨_, PySem.W.mg_of X G v_READ_WHO⟩, ⟨_, PySem.W.mg_of X G v_READ_SHUT⟩, ⟨_, PySem.W.mg_of X G v_WRITE_SHUT⟩, ⟨_, PySem.W.mg_of X G v_NO_NAME⟩, ⟨_, PySem.W.mg_of X G v_NOT_NOW⟩, ⟨_, PySem.W.mg_of X G v_NO_ARGUMENTS⟩, ⟨_, PySem.W.mg_of X G v_ALL⟩, ⟨_, PySem.W.mg_of X G v_LEAST_MANY_naming⟩, ⟨_, PySem.W.mg_of X G v_MOST_MANY_naming⟩, ⟨_, PySem.W.mg_of X G v_LEAST_MANY_room⟩, ⟨_, PySem.W.mg_of X G v_MOST_MANY_room⟩, ⟨_, PySem.W.mg_of X G v_MOST_OBJECTS⟩⟩
  have hM : ∀ H : Hp, SqT K H aM (([2, 0, 1, 0, 0, 0, 2, 1, 0] : List Int).map V.int) := fun H => .inr ⟨_, _, _, lMM, rfl, rfl, (by show 9 ≤ sizeLine; decide), .cons ⟨_, rfl⟩ (.cons ⟨_, rfl⟩ (.cons ⟨_, rfl⟩ (.cons ⟨_, rfl⟩ (.cons ⟨_, rfl⟩ (.cons ⟨_, rfl⟩ (.cons ⟨_, rfl⟩ (.cons ⟨_, rfl⟩ (.cons ⟨_, rfl⟩ (.nil)))))))))⟩
  exact ⟨PySem.W.fnOf "answers" "answers" (defArgs (topS 46)) (defBody (topS 46)) (defScope (topS 46)) .none kV_answers dc_answers pm_answers an_answers cd_answers ct_answers, fun s us hu => match us, hu with | [_], _ => .of_eq rfl, fun base _ _ => chain F_drawing_of (PySem.W.mg_of X G a_drawing_of) F_number_of (PySem.W.mg_of X G a_number_of) F_write_who (PySem.W.mg_of X G a_write_who) F_read_who (PySem.W.mg_of X G a_read_who) F_read_shut (PySem.W.mg_of X G a_read_shut) F_write_shut (PySem.W.mg_of X G a_write_shut) F_crossing (PySem.W.mg_of X G a_crossing) F_is_beyond (PySem.W.mg_of X G a_is_beyond) F_can_go (PySem.W.mg_of X G a_can_go) F_can_begin (PySem.W.mg_of X G a_can_begin) F_bk_begin (PySem.W.mg_of X G a_bk_begin) F_bk_want (PySem.W.mg_of X G a_bk_want) F_bk_leave (PySem.W.mg_of X G a_bk_leave) F_bk_number (PySem.W.mg_of X G a_bk_number) F_nm_begin (PySem.W.mg_of X G a_nm_begin) F_read_for (PySem.W.mg_of X G a_read_for) F_written_for (PySem.W.mg_of X G a_written_for) F_answers F_w___init__ ⟨a_w___init__, i_w___init__, k_w___init__⟩ F_w_here ⟨a_w_here, i_w_here, k_w_here⟩ F_w_go_on ⟨a_w_go_on, i_w_go_on, k_w_go_on⟩ F_w_got ⟨a_w_got, i_w_got, k_w_got⟩ F_w_wrote ⟨a_w_wrote, i_w_wrote, k_w_wrote⟩ F_w_tried ⟨a_w_tried, i_w_tried, k_w_tried⟩ F_w_looked ⟨a_w_looked, i_w_looked, k_w_looked⟩ F_g___init__ ⟨a_g___init__, i_g___init__, k_g___init__⟩ F_g_want ⟨a_g_want, i_g_want, k_g_want⟩ F_g_leave ⟨a_g_leave, i_g_leave, k_g_leave⟩ F_g_got ⟨a_g_got, i_g_got, k_g_got⟩ F_g_wrote ⟨a_g_wrote, i_g_wrote, k_g_wrote⟩ F_g_number ⟨a_g_number, i_g_number, k_g_number⟩ F_g_seen ⟨a_g_seen, i_g_seen, k_g_seen⟩ F_g_look_at ⟨a_g_look_at, i_g_look_at, k_g_look_at⟩ F_g_watched ⟨a_g_watched, i_g_watched, k_g_watched⟩ F_g_goes_behind ⟨a_g_goes_behind, i_g_goes_behind, k_g_goes_behind⟩ F_g_waited ⟨a_g_waited, i_g_waited, k_g_waited⟩ TG TW ⟨mkCG, a_g___init__, i_g___init__, kcCG⟩ ⟨mkCW, a_w___init__, i_w___init__, kcCW⟩ (PySem.W.mg_of X G aG) (PySem.W.mg_of X G aW) T0 (PySem.W.mg_none_of X G b_range) (PySem.W.mg_none_of X G b_len) (PySem.W.mg_none_of X G b_max) (PySem.W.mg_of X G aDD) (PySem.W.mg_of X G aMM) hM lDD⟩
end Rn
open PySem PySem.W PyProof.Rows
set_option maxRecDepth 100000 in
set_option maxHeartbeats 16000000 in
theorem PySem.Challenge.cw_roomnames_s01_answers_holds : PySem.Challenge.rw_roomnames_s01_answers.Holds := by
  w_on; k_headS; (case hw => exact ⟨[.list [.int 0, .int 0, .int 0, .int 2]], by decide +kernel, by decide +kernel⟩)
  k_fillS
  refine L2.walk_specK (r := PySem.Challenge.rw_roomnames_s01_answers) (k := 7) (CX := L2.CX0) (ps := ["calls"]) (sp := Rn.spAns) (by decide +kernel) rfl rfl ⟨rfl, by decide, by decide⟩ (fun w h Y => PySem.W.kIn_of Y) ?F ?S (fun _ _ _ _ z => z)
  case F =>
    intro w mg fa h Y KX G hmg
    refine' Rn.all_mk KX G hmg ?aG ?aW ?a_drawing_of ?l_drawing_of ?c_drawing_of ?k_drawing_of ?a_number_of ?l_number_of ?c_number_of ?k_number_of ?a_write_who ?l_write_who ?c_write_who ?k_write_who ?a_read_who ?l_read_who ?c_read_who ?k_read_who ?a_read_shut ?l_read_shut ?c_read_shut ?k_read_shut ?a_write_shut ?l_write_shut ?c_write_shut ?k_write_shut ?a_crossing ?l_crossing ?c_crossing ?k_crossing ?a_is_beyond ?l_is_beyond ?c_is_beyond ?k_is_beyond ?a_can_go ?l_can_go ?c_can_go ?k_can_go ?a_can_begin ?l_can_begin ?c_can_begin ?k_can_begin ?a_bk_begin ?l_bk_begin ?c_bk_begin ?k_bk_begin ?a_bk_want ?l_bk_want ?c_bk_want ?k_bk_want ?a_bk_leave ?l_bk_leave ?c_bk_leave ?k_bk_leave ?a_bk_number ?l_bk_number ?c_bk_number ?k_bk_number ?a_nm_begin ?l_nm_begin ?c_nm_begin ?k_nm_begin ?a_read_for ?l_read_for ?c_read_for ?k_read_for ?a_written_for ?l_written_for ?c_written_for ?k_written_for ?a_answers ?l_answers ?c_answers ?k_answers ?a_w___init__ ?i_w___init__ ?l_w___init__ ?c_w___init__ ?k_w___init__ ?a_w_here ?i_w_here ?l_w_here ?c_w_here ?k_w_here ?a_w_go_on ?i_w_go_on ?l_w_go_on ?c_w_go_on ?k_w_go_on ?a_w_got ?i_w_got ?l_w_got ?c_w_got ?k_w_got ?a_w_wrote ?i_w_wrote ?l_w_wrote ?c_w_wrote ?k_w_wrote ?a_w_tried ?i_w_tried ?l_w_tried ?c_w_tried ?k_w_tried ?a_w_looked ?i_w_looked ?l_w_looked ?c_w_looked ?k_w_looked ?a_g___init__ ?i_g___init__ ?l_g___init__ ?c_g___init__ ?k_g___init__ ?a_g_want ?i_g_want ?l_g_want ?c_g_want ?k_g_want ?a_g_leave ?i_g_leave ?l_g_leave ?c_g_leave ?k_g_leave ?a_g_got ?i_g_got ?l_g_got ?c_g_got ?k_g_got ?a_g_wrote ?i_g_wrote ?l_g_wrote ?c_g_wrote ?k_g_wrote ?a_g_number ?i_g_number ?l_g_number ?c_g_number ?k_g_number ?a_g_seen ?i_g_seen ?l_g_seen ?c_g_seen ?k_g_seen ?a_g_look_at ?i_g_look_at ?l_g_look_at ?c_g_look_at ?k_g_look_at ?a_g_watched ?i_g_watched ?l_g_watched ?c_g_watched ?k_g_watched ?a_g_goes_behind ?i_g_goes_behind ?l_g_goes_behind ?c_g_goes_behind ?k_g_goes_behind ?a_g_waited ?i_g_waited ?l_g_waited ?c_g_waited ?k_g_waited ?pgCG ?hdCG ?poCG ?saCG ?mkCG ?kcCG ?nCG_me ?nCG_n ?nCG_stand ?nCG_other ?nCG_drawn ?nCG_greatest ?pgCW ?hdCW ?poCW ?saCW ?mkCW ?kcCW ?nCW_me ?nCW_n ?nCW_row ?nCW_place ?nCW_stand ?v_INSIDE ?v_OUTSIDE ?v_READ_DRAWING ?v_READ_NUMBER ?v_WRITE_DRAWING ?v_WRITE_NOT_DRAWING ?v_WRITE_NUMBER ?v_WRITE_WHO ?v_READ_WHO ?v_READ_SHUT ?v_WRITE_SHUT ?v_NO_NAME ?v_NOT_NOW ?v_NO_ARGUMENTS ?v_ALL ?v_LEAST_MANY_naming ?v_MOST_MANY_naming ?v_LEAST_MANY_room ?v_MOST_MANY_room ?v_MOST_OBJECTS ?b_range ?b_len ?b_max ?aDD ?lDD ?aMM ?lMM
    (case aG => k_is)
    (case aW => k_is)
    (case a_drawing_of => k_is)
    (case l_drawing_of => k_is)
    (case c_drawing_of => k_is)
    (case k_drawing_of => k_is)
    (case a_number_of => k_is)
    (case l_number_of => k_is)
    (case c_number_of => k_is)
    (case k_number_of => k_is)
    (case a_write_who => k_is)
    (case l_write_who => k_is)
    (case c_write_who => k_is)
    (case k_write_who => k_is)
    (case a_read_who => k_is)
    (case l_read_who => k_is)
    (case c_read_who => k_is)
    (case k_read_who => k_is)
    (case a_read_shut => k_is)
    (case l_read_shut => k_is)
    (case c_read_shut => k_is)
    (case k_read_shut => k_is)
    (case a_write_shut => k_is)
    (case l_write_shut => k_is)
    (case c_write_shut => k_is)
    (case k_write_shut => k_is)
    (case a_crossing => k_is)
    (case l_crossing => k_is)
    (case c_crossing => k_is)
    (case k_crossing => k_is)
    (case a_is_beyond => k_is)
    (case l_is_beyond => k_is)
    (case c_is_beyond => k_is)
    (case k_is_beyond => k_is)
    (case a_can_go => k_is)
    (case l_can_go => k_is)
    (case c_can_go => k_is)
    (case k_can_go => k_is)
    (case a_can_begin => k_is)
    (case l_can_begin => k_is)
    (case c_can_begin => k_is)
    (case k_can_begin => k_is)
    (case a_bk_begin => k_is)
    (case l_bk_begin => k_is)
    (case c_bk_begin => k_is)
    (case k_bk_begin => k_is)
    (case a_bk_want => k_is)
    (case l_bk_want => k_is)
    (case c_bk_want => k_is)
    (case k_bk_want => k_is)
    (case a_bk_leave => k_is)
    (case l_bk_leave => k_is)
    (case c_bk_leave => k_is)
    (case k_bk_leave => k_is)
    (case a_bk_number => k_is)
    (case l_bk_number => k_is)
    (case c_bk_number => k_is)
    (case k_bk_number => k_is)
    (case a_nm_begin => k_is)
    (case l_nm_begin => k_is)
    (case c_nm_begin => k_is)
    (case k_nm_begin => k_is)
    (case a_read_for => k_is)
    (case l_read_for => k_is)
    (case c_read_for => k_is)
    (case k_read_for => k_is)
    (case a_written_for => k_is)
    (case l_written_for => k_is)
    (case c_written_for => k_is)
    (case k_written_for => k_is)
    (case a_answers => k_is)
    (case l_answers => k_is)
    (case c_answers => k_is)
    (case k_answers => k_is)
    (case a_w___init__ => k_is)
    (case i_w___init__ => k_is)
    (case l_w___init__ => k_is)
    (case c_w___init__ => k_is)
    (case k_w___init__ => k_is)
    (case a_w_here => k_is)
    (case i_w_here => k_is)
    (case l_w_here => k_is)
    (case c_w_here => k_is)
    (case k_w_here => k_is)
    (case a_w_go_on => k_is)
    (case i_w_go_on => k_is)
    (case l_w_go_on => k_is)
    (case c_w_go_on => k_is)
    (case k_w_go_on => k_is)
    (case a_w_got => k_is)
    (case i_w_got => k_is)
    (case l_w_got => k_is)
    (case c_w_got => k_is)
    (case k_w_got => k_is)
    (case a_w_wrote => k_is)
    (case i_w_wrote => k_is)
    (case l_w_wrote => k_is)
    (case c_w_wrote => k_is)
    (case k_w_wrote => k_is)
    (case a_w_tried => k_is)
    (case i_w_tried => k_is)
    (case l_w_tried => k_is)
    (case c_w_tried => k_is)
    (case k_w_tried => k_is)
    (case a_w_looked => k_is)
    (case i_w_looked => k_is)
    (case l_w_looked => k_is)
    (case c_w_looked => k_is)
    (case k_w_looked => k_is)
    (case a_g___init__ => k_is)
    (case i_g___init__ => k_is)
    (case l_g___init__ => k_is)
    (case c_g___init__ => k_is)
    (case k_g___init__ => k_is)
    (case a_g_want => k_is)
    (case i_g_want => k_is)
    (case l_g_want => k_is)
    (case c_g_want => k_is)
    (case k_g_want => k_is)
    (case a_g_leave => k_is)
    (case i_g_leave => k_is)
    (case l_g_leave => k_is)
    (case c_g_leave => k_is)
    (case k_g_leave => k_is)
    (case a_g_got => k_is)
    (case i_g_got => k_is)
    (case l_g_got => k_is)
    (case c_g_got => k_is)
    (case k_g_got => k_is)
    (case a_g_wrote => k_is)
    (case i_g_wrote => k_is)
    (case l_g_wrote => k_is)
    (case c_g_wrote => k_is)
    (case k_g_wrote => k_is)
    (case a_g_number => k_is)
    (case i_g_number => k_is)
    (case l_g_number => k_is)
    (case c_g_number => k_is)
    (case k_g_number => k_is)
    (case a_g_seen => k_is)
    (case i_g_seen => k_is)
    (case l_g_seen => k_is)
    (case c_g_seen => k_is)
    (case k_g_seen => k_is)
    (case a_g_look_at => k_is)
    (case i_g_look_at => k_is)
    (case l_g_look_at => k_is)
    (case c_g_look_at => k_is)
    (case k_g_look_at => k_is)
    (case a_g_watched => k_is)
    (case i_g_watched => k_is)
    (case l_g_watched => k_is)
    (case c_g_watched => k_is)
    (case k_g_watched => k_is)
    (case a_g_goes_behind => k_is)
    (case i_g_goes_behind => k_is)
    (case l_g_goes_behind => k_is)
    (case c_g_goes_behind => k_is)
    (case k_g_goes_behind => k_is)
    (case a_g_waited => k_is)
    (case i_g_waited => k_is)
    (case l_g_waited => k_is)
    (case c_g_waited => k_is)
    (case k_g_waited => k_is)
    (case pgCG => k_is)
    (case hdCG => k_is)
    (case poCG => k_is)
    (case saCG => k_is)
    (case mkCG => k_is)
    (case kcCG => k_is)
    (case nCG_me => k_is)
    (case nCG_n => k_is)
    (case nCG_stand => k_is)
    (case nCG_other => k_is)
    (case nCG_drawn => k_is)
    (case nCG_greatest => k_is)
    (case pgCW => k_is)
    (case hdCW => k_is)
    (case poCW => k_is)
    (case saCW => k_is)
    (case mkCW => k_is)
    (case kcCW => k_is)
    (case nCW_me => k_is)
    (case nCW_n => k_is)
    (case nCW_row => k_is)
    (case nCW_place => k_is)
    (case nCW_stand => k_is)
    (case v_INSIDE => k_is)
    (case v_OUTSIDE => k_is)
    (case v_READ_DRAWING => k_is)
    (case v_READ_NUMBER => k_is)
    (case v_WRITE_DRAWING => k_is)
    (case v_WRITE_NOT_DRAWING => k_is)
    (case v_WRITE_NUMBER => k_is)
    (case v_WRITE_WHO => k_is)
    (case v_READ_WHO => k_is)
    (case v_READ_SHUT => k_is)
    (case v_WRITE_SHUT => k_is)
    (case v_NO_NAME => k_is)
    (case v_NOT_NOW => k_is)
    (case v_NO_ARGUMENTS => k_is)
    (case v_ALL => k_is)
    (case v_LEAST_MANY_naming => k_is)
    (case v_MOST_MANY_naming => k_is)
    (case v_LEAST_MANY_room => k_is)
    (case v_MOST_MANY_room => k_is)
    (case v_MOST_OBJECTS => k_is)
    (case b_range => k_is)
    (case b_len => k_is)
    (case b_max => k_is)
    (case aDD => k_is)
    (case lDD => k_is)
    (case aMM => k_is)
    (case lMM => k_is)
  case S =>
    intro K H xs a hO hwi hask hx
    cases hx with
    | cons h1 h2 =>
      cases h2
      cases h1 with
      | lst hs ha =>
        have e := L2.ints_dw a.1 _ ha
        subst e
        have q : ((Codec.inLen 0 16000 a.1 && a.1.all (Codec.inInt (Int.negSucc 2147483647) (Int.ofNat 18446744073709551615))) && true) = true := hwi
        rw [Bool.and_eq_true, Bool.and_eq_true] at q
        exact ⟨_, a.1, rfl, hs, hO, hask, (Codec.inNat_iff.mp q.1.1).2, fun H' p hp => .lst (L2.SqL.of hp) (L2.dw_ints _)⟩
#print axioms PySem.Challenge.cw_roomnames_s01_answers_holds
