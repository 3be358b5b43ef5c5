/- Plain lemmas on what the printed functions come to. -/
import Derived.Test.YtkahcjnkmbbplaaLG
import Derived.Test.YtkahcjnkmbbplaaLQ
set_option maxRecDepth 100000
set_option linter.unusedVariables false
set_option linter.unusedSimpArgs false
namespace Go.Proofs.YtkahcjnkmbbplaaE
/-! mainLeafAt -/
theorem main_FnExactLeafAt {b : Bx} {l : List Nd} {p : Pt} (hb : SzBox 1000000 b) (hl : l.length ≤ 1000000) (hp : p.length ≤ 1000000) : ∃ w, s_LeafAt b.1 b.2.1 b.2.2 l p = some w ∧ i_LeafAt b.1 b.2.1 b.2.2 l p = some w := by
  unfold s_LeafAt i_LeafAt
  have hf : i_treeFits (b.1, b.2.1, b.2.2) l = some (asked b l).isSome := treeFits_v hl
  rw [bsome (rpAsked_v hl), bsome hf]
  cases ha : asked b l with
  | none => exact ⟨_, rfl, rfl⟩
  | some bs =>
    have hbt : bOkB b = true ∧ isT (b.2.1.length : Int) l = true ∧ lbx l [b] = some bs := by
      unfold asked at ha
      cases hc : bOkB b && isT (b.2.1.length : Int) l with
      | false => rw [hc] at ha; cases ha
      | true =>
        rw [hc] at ha
        rw [Bool.and_eq_true] at hc
        exact ⟨hc.1, hc.2, ha⟩
    obtain ⟨hbb, htt, hlb⟩ := hbt
    have hbs : ∀ c ∈ bs, bOkB c = true ∧ c.2.1.length = b.2.1.length := lbx_ok (st := [b]) (fun c hc => by rw [List.mem_singleton.1 hc]; exact ⟨hbb, rfl⟩) hlb
    have hbl : bs.length ≤ 1000000 := Nat.le_trans (lbx_len hlb) hl
    have hlf : i_leafBoxes (b.1, b.2.1, b.2.2) l = some (lbR [] (lbx l [b])) := leafBoxes_v hl hbb htt
    rw [hlb] at hlf
    rw [bsome (bxPoint_v hp), bsome hlf]
    show ∃ w, (bif !(ptOk p && decide ((p.length : Int) = (b.2.1.length : Int))) then some ((0 : Int), false) else s_LeafAt_1005 p bs (bs.length : Int) 0) = some w ∧ (bif !decide ((p.length : Int) = (b.2.1.length : Int)) then some ((0 : Int), false) else i_LeafAt_1005 p bs (bs.length : Int) 0) = some w
    by_cases hn : (p.length : Int) = (b.2.1.length : Int)
    rotate_left
    · rw [decide_eq_false hn, Bool.and_false]; exact ⟨_, rfl, rfl⟩
    rw [decide_eq_true hn, Bool.and_true]
    have hbs' : ∀ c ∈ bs, bOkB c = true ∧ p.length = c.2.1.length := fun c hc => ⟨(hbs c hc).1, by have := (hbs c hc).2; omega⟩
    cases hpo : ptOk p with
    | false => exact ⟨(0, false), rfl, leafAt_no hbl hpo hbs'⟩
    | true =>
      obtain ⟨r, r1, r2⟩ := leafAt_l hbl hpo hbs'
      exact ⟨r, r1, r2⟩
end Go.Proofs.YtkahcjnkmbbplaaE
