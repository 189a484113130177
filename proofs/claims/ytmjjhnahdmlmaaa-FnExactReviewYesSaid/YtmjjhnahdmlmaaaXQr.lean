/- Plain law FnExactReviewYes. Conditions: the law's own premises. -/
import Derived.Test.YtmjjhnahdmlmaaaXQp
import Derived.Test.YtmjjhnahdmlmaaaXX
namespace Go.Vm
open Go Go.Sx
set_option linter.unusedSimpArgs false
set_option linter.unusedVariables false

theorem yesB_fit {v : Review} {who : Str} (h : Bk.fit v) (hw : who.length ≤ maxi) : Bk.fit (yesB v who).1 := by
  unfold yesB
  cases hr : revB v with
  | false => exact ⟨by simp [Bk.fit, maxi], by simp [Bk.fit, maxi], by simp [Bk.fit, maxi], by simp [maxi], by simp⟩
  | true =>
    rw [cond_true]
    cases revB (withYes v (insS v.Yes who))
    · exact h
    · exact ins_fit h hw (rev_short hr)
theorem yesB_len {v : Review} {who : Str} : (yesB v who).1.Yes.length ≤ v.Yes.length + 1 := by
  unfold yesB
  cases hr : revB v with
  | false => simp
  | true =>
    rw [cond_true]
    cases revB (withYes v (insS v.Yes who))
    · simp
    · exact insS_len v.Yes who
theorem cn_review (v : Review) : mdVReview.cn v = v.Yes.length := by
  have := cn_mdStr v.Yes
  show 0 + (0 + (0 + mdStr.list.cn v.Yes)) = _
  omega
theorem FnExactReviewYes_eq {v : Review} {who : Str} (h : Bk.fit v) (hw : Bk.fit who) : laws_FnExactReviewYes v who = some true := by
  unfold laws_FnExactReviewYes
  by_cases hc : (1048576 : Int) < (who.length : Int)
  · rw [decide_eq_true hc]; rfl
  rw [decide_eq_false hc, cond_false, eszReview h (by omega) (by omega), Option.bind_some]
  by_cases hb : (Bk.bulk v : Int) ≤ 1048576
  case neg => rw [if_neg hb]; rfl
  rw [if_pos hb, decide_eq_false (by omega), cond_false]
  have b1 : Bk.bulk v ≤ 1048576 := by omega
  have fw : who.length ≤ maxi := hw
  have hf := yesB_fit (who := who) h fw
  have hl : v.Yes.length ≤ 1048576 := bulk_len (show Bk.bulk v.Yes ≤ 1048576 by have : Bk.bulk v = Bk.bulk v.Branch + (Bk.bulk v.Into + (Bk.bulk v.By + Bk.bulk v.Yes)) := rfl; omega)
  have hl2 := yesB_len (v := v) (who := who)
  have c1 := cn_review v
  have c2 := cn_review (yesB v who).1
  have hg : Bk.fit (mdVReview.wr 1 (yesB v who).1).2 := fit_mdVReview 1 _ (by omega) (by omega) hf
  have e1 : (⟨(yesB v who).1.Branch, (yesB v who).1.Into, (yesB v who).1.By, (mdVReview.wr 1 (yesB v who).1).2.Yes⟩ : Review) = (mdVReview.wr 1 (yesB v who).1).2 := rfl
  have e2 := mdVReview.again 1 (yesB v who).1
  have c3 := mdVReview.cnt 1 (yesB v who).1
  have n1 : decide ((mdVReview.wr 1 v).1 < 0) = false := decide_eq_false (by rw [mdVReview.fst]; omega)
  have n2 : decide ((mdVReview.wr 1 (yesB v who).1).1 < 0) = false := decide_eq_false (by rw [mdVReview.fst]; omega)
  simp only [etoReview b1, Option.bind_some, sReviewYes_eq h fw, iReviewYes_eq h fw, jn, eeqReview hf, eeqReview h, beq_self_eq_true, Bool.not_true, cond_false, bne_self_eq_false,
    emarkReview (x := v) (k := 1) (by omega) (by omega) h, n1, emarkReview (x := (yesB v who).1) (k := 1) (by omega) (by omega) hf, e1,
    eheldReview (mdVReview.held_wr 1 (yesB v who).1) (show (0 : Int) ≤ 1 by omega) (by omega) hg, e2, n2]
end Go.Vm
