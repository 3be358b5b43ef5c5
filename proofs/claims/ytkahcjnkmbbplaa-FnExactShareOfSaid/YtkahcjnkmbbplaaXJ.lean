/- Plain lemmas on what the printed functions come to. -/
import Derived.Test.YtkahcjnkmbbplaaXI
import Derived.Test.YtkahcjnkmbbplaaXQ
set_option maxRecDepth 100000
set_option linter.unusedVariables false
set_option linter.unusedSimpArgs false
namespace Go.Proofs.YtkahcjnkmbbplaaE
/-! mainCompareTrees -/
theorem ksum_dok {kind : Int} {b : Bx} {l : List Nd} {bs : List Bx} (ha : asked b l = some bs) : dOk (red 24 (ksum kind (lvs l) bs)).1 (red 24 (ksum kind (lvs l) bs)).2 = true := by
  obtain ⟨_, _, _, hbs, _, hsum, _⟩ := asked_parts ha
  have := ksum_bd (kind := kind) (ns := lvs l) (bs := bs) fun c hc => (hbs c hc).1
  exact red_ok (Nat.le_refl _) (by omega)
theorem main_FnExactCompareTrees {b : Bx} {l m : List Nd} (hb : SzBox 1000000 b) (hl : l.length ≤ 1000000) (hm : m.length ≤ 1000000) : ∃ w, s_CompareTrees b.1 b.2.1 b.2.2 l m = some w ∧ i_CompareTrees b.1 b.2.1 b.2.2 l m = some w := by
  unfold s_CompareTrees i_CompareTrees
  have hf : i_treeFits (b.1, b.2.1, b.2.2) l = some (asked b l).isSome := treeFits_v hl
  have hg : i_treeFits (b.1, b.2.1, b.2.2) m = some (asked b m).isSome := treeFits_v hm
  rw [bsome (rpAsked_v hl), bsome (rpAsked_v hm), bsome hf]
  cases ha : asked b l with
  | none => exact ⟨_, rfl, rfl⟩
  | some bs =>
    show ∃ w, (bif !(lbR [] (some bs)).2 then _ else _) = some w ∧ (bif !true then _ else _) = some w
    rw [cnt, bsome hg]
    cases hc : asked b m with
    | none => exact ⟨_, rfl, rfl⟩
    | some cs =>
      obtain ⟨_, _, _, hbs, hlen, hsum, _⟩ := asked_parts ha
      obtain ⟨_, _, _, hcs, hlen2, hsum2, _⟩ := asked_parts hc
      have w2 : s_rpVolume (lbR [] (some cs)).1 m 3 = some (red 24 (ksum 3 (lvs m) cs)) := rpVolume_v hm (fun c hc => (hcs c hc).1) hlen2 hsum2
      have k1 : i_kindVolumes (b.1, b.2.1, b.2.2) l = _ := kindVolumes_v hl ha
      have k2 : i_kindVolumes (b.1, b.2.1, b.2.2) m = _ := kindVolumes_v hm hc
      show ∃ w, (bif !true then some ((0 : Int), false) else bif !true then some ((0 : Int), false) else (s_rpVolume bs l 3).bind _) = some w ∧ (bif !true then some ((0 : Int), false) else (i_kindVolumes (b.1, b.2.1, b.2.2) l).bind _) = some w
      rw [cnt, cnt, cnt, bsome (rpVolume_v hl (fun c hc => (hbs c hc).1) hlen hsum), bsome w2, bsome k1, bsome k2]
      have d1 := ksum_dok (kind := 3) ha
      have d2 := ksum_dok (kind := 3) hc
      refine ⟨_, bsome (dyCmp_v d1 d2), ?_⟩
      show (i_compareD (red 24 (ksum 3 (lvs l) bs)).1 (red 24 (ksum 3 (lvs l) bs)).2 (red 24 (ksum 3 (lvs m) cs)).1 (red 24 (ksum 3 (lvs m) cs)).2).bind _ = _
      rw [bsome (compareD_v d1 d2)]
end Go.Proofs.YtkahcjnkmbbplaaE
