/- Plain lemmas on what the printed functions come to. -/
import Derived.Test.YtbaeikcfchiiaaaCX
import Derived.Test.YtbaeikcfchiiaaaCQ
set_option maxRecDepth 100000
set_option linter.unusedVariables false
set_option linter.unusedSimpArgs false
namespace Go.Proofs.YtbaeikcfchiiaaaE
/-! mainIsCatalogue -/
theorem en_sz {x : List En} (h : SzEntryS 1000000 x) : ∀ e ∈ x, EnSz e := fun e he => by
  obtain ⟨h1, ⟨h2, h3⟩, _⟩ := h.2 e he
  exact ⟨h1, h2, h3⟩
theorem main_FnExactIsCatalogue {x : List En} (h : SzEntryS 1000000 x) : ∃ w, s_IsCatalogue x = some w ∧ i_IsCatalogue x = some w := by
  refine ⟨caOk x, ?_, ?_⟩
  · unfold s_IsCatalogue; rw [bret]; exact caGood_v h.1 (en_sz h)
  · unfold i_IsCatalogue; rw [bret]; exact isCatalogue_v h.1 (en_sz h)
/-! mainOpenWidth -/
theorem en_sz2 {x : List En} (h : SzEntryS 1000000 x) : ∀ e ∈ x, EnSz e := fun e he => by
  obtain ⟨h1, ⟨h2, h3⟩, _⟩ := h.2 e he
  exact ⟨h1, h2, h3⟩
theorem main_FnExactOpenWidth {x : List En} (h : SzEntryS 1000000 x) : ∃ w, s_OpenWidth x = some w ∧ i_OpenWidth x = some w := by
  have hl := h.1
  unfold s_OpenWidth i_OpenWidth
  rw [bsome (caGood_v h.1 (en_sz2 h)), bsome (isCatalogue_v h.1 (en_sz2 h))]
  cases caOk x with
  | false => exact ⟨_, rfl, rfl⟩
  | true =>
    rw [cnt, cnt]
    refine ⟨(x.foldl (fun (s : Int) (e : En) => IntKind.wrap .i64 (s + IntKind.wrap .i64 (e.2.2.2.2.1 - e.2.2.2.1))) 0, true), ?_, ?_⟩
    · refine fold_loop (xs := x) (f := fun i (s : Int) => s_OpenWidth_1005 s x x.length (i : Int)) (fin := fun s => some (s, true)) (fun s => ?_) (fun i s hi => ?_) 0
      · show s_OpenWidth_1005 _ _ _ _ = _
        rw [Es_OpenWidth_1005, cf ltf]
      · show s_OpenWidth_1005 _ _ _ _ = s_OpenWidth_1005 _ _ _ _
        rw [Es_OpenWidth_1005, ct (ltt hi), ct (bA hi), gD hi, sc hi (by omega)]
    · refine fold_loop (xs := x) (f := fun i (s : Int) => i_OpenWidth_1005 s x x.length (i : Int)) (fin := fun s => some (s, true)) (fun s => ?_) (fun i s hi => ?_) 0
      · show i_OpenWidth_1005 _ _ _ _ = _
        rw [Ei_OpenWidth_1005, cf ltf]
      · show i_OpenWidth_1005 _ _ _ _ = i_OpenWidth_1005 _ _ _ _
        rw [Ei_OpenWidth_1005, ct (ltt hi), ct (bA hi), gD hi, sc hi (by omega)]
end Go.Proofs.YtbaeikcfchiiaaaE
