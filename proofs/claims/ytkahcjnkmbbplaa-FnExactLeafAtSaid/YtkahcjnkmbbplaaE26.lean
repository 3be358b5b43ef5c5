/- The engine, part 26: functions without a body: math/bits.Add64 and Sub64, as the model runs them. -/
import Derived.Test.YtkahcjnkmbbplaaE25
import Derived.Laws.Externs
import GoSem.Extern.BytealgCompare
import GoSem.Extern.MathBitsCarry
namespace Go.Proofs.YtkahcjnkmbbplaaE
set_option linter.unusedVariables false
set_option linter.unusedSimpArgs false

def add64R (x y c : Int) : Option (Int × Int) :=
  bif decide (c.toNat ≤ 1) then some (((((x.toNat + y.toNat + c.toNat) % 18446744073709551616 : Nat)) : Int), (((x.toNat + y.toNat + c.toNat) / 18446744073709551616 : Nat) : Int)) else none
def sub64R (x y c : Int) : Option (Int × Int) :=
  bif decide (c.toNat ≤ 1) then some ((((x.toNat + 18446744073709551616 - y.toNat - c.toNat) % 18446744073709551616 : Nat) : Int), ((if x.toNat < y.toNat + c.toNat then 1 else 0 : Nat) : Int)) else none

/-- The same, shut to the kernel. -/
noncomputable def add64 (x y c : Int) : Option (Int × Int) := Classical.choose (⟨add64R x y c, rfl⟩ : ∃ r, r = add64R x y c)
noncomputable def sub64 (x y c : Int) : Option (Int × Int) := Classical.choose (⟨sub64R x y c, rfl⟩ : ∃ r, r = sub64R x y c)
theorem add64_eq (x y c : Int) : add64 x y c = add64R x y c := Classical.choose_spec (⟨add64R x y c, rfl⟩ : ∃ r, r = add64R x y c)
theorem sub64_eq (x y c : Int) : sub64 x y c = sub64R x y c := Classical.choose_spec (⟨sub64R x y c, rfl⟩ : ∃ r, r = sub64R x y c)

def addE : Array Value → Sem Value := (Extern.MathBitsCarry.rows[0]'(by decide)).2
def subE : Array Value → Sem Value := (Extern.MathBitsCarry.rows[1]'(by decide)).2

theorem carry_cases {c : Int} (h : c.toNat ≤ 1) : c.toNat = 0 ∨ c.toNat = 1 := by omega

theorem addE_run {P : Program} {x y c : Int} {r} {w : World} (h : add64 x y c = some r) : (addE #[.int .u64 x, .int .u64 y, .int .u64 c]).run P w = .ok (.tuple #[.int .u64 r.1, .int .u64 r.2]) w := by
  rw [add64_eq] at h
  unfold add64R at h
  cases hc : decide (c.toNat ≤ 1) with
  | false => rw [hc] at h; cases h
  | true =>
    rw [hc] at h
    cases h
    have hc := of_decide_eq_true hc
    match c, hc with
    | .ofNat 0, _ => rfl
    | .ofNat 1, _ => rfl
    | .ofNat (n + 2), hc => exact absurd hc (by show ¬ (n + 2 ≤ 1); omega)
    | .negSucc n, _ => rfl
theorem subE_run {P : Program} {x y c : Int} {r} {w : World} (h : sub64 x y c = some r) : (subE #[.int .u64 x, .int .u64 y, .int .u64 c]).run P w = .ok (.tuple #[.int .u64 r.1, .int .u64 r.2]) w := by
  rw [sub64_eq] at h
  unfold sub64R at h
  cases hc : decide (c.toNat ≤ 1) with
  | false => rw [hc] at h; cases h
  | true =>
    rw [hc] at h
    cases h
    have hc := of_decide_eq_true hc
    match c, hc with
    | .ofNat 0, _ => rfl
    | .ofNat 1, _ => rfl
    | .ofNat (n + 2), hc => exact absurd hc (by show ¬ (n + 2 ≤ 1); omega)
    | .negSucc n, _ => rfl

def two64 (f : Nat → Int → Int → Int → Option (Int × Int)) : Spec :=
  ⟨false, [(.int .u64, false), (.int .u64, false)], true, .pair (.int .u64) (.int .u64), fun k xs => match xs with | [.int .u64 x, .int .u64 y, .int .u64 c] => f k x y c | _ => none, false⟩

theorem Kept.refl0 (w : World) : Kept (fun _ => False) w w := ⟨rfl, rfl, rfl, Nat.le_refl _, fun _ _ _ => rfl⟩

/-- A function without a body over three numbers, of two results. -/
theorem now_two64 {P : Program} {n : FuncId} {fn : Func} {e : Array Value → Sem Value} {f : Nat → Int → Int → Int → Option (Int × Int)} (hf : P.funcs[n]? = some fn) (hname : (fn.name == "runtime.NumGoroutine") = false)
    (hb : fn.body.isNone = true) (hn : Extern.findNext fn = none) (he : Extern.find fn = some e)
    (hrun : ∀ k x y c r w, f k x y c = some r → (e #[.int .u64 x, .int .u64 y, .int .u64 c]).run P w = .ok (.tuple #[.int .u64 r.1, .int .u64 r.2]) w) : Now P n (two64 f) := by
  intro k args r vals w Z0 hZ h hargs
  unfold two64 at h
  dsimp only at h
  split at h
  · rename_i x y c
    obtain ⟨u1, us, rfl, h1, u2, us, rfl, h2, u3, us, rfl, h3, h4⟩ := hargs
    obtain rfl : us = [] := h4
    obtain rfl : u1 = .int .u64 x := h1
    obtain rfl : u2 = .int .u64 y := h2
    obtain rfl : u3 = .int .u64 c := h3
    refine ⟨.tuple #[.int .u64 r.1, .int .u64 r.2], w, ?_, Kept.refl0 w, [.int .u64 r.1, .int .u64 r.2], rfl, rfl, ?_, ?_⟩
    · rw [run_callFunc_extern hf hname hb hn he]
      have := hrun k x y c r w h
      show ((e #[.int .u64 x, .int .u64 y, .int .u64 c]).run P w).andThen _ = _
      rw [this]
      rfl
    · intro p hp _
      simp only [two64, List.mem_cons, List.not_mem_nil, or_false, or_self] at hp
      subst hp
      rfl
    · rw [if_pos (show (two64 f).own = true from rfl)]
      exact ⟨[], ⟨_, _, [], [], rfl, rfl, ⟨rfl, rfl⟩, rfl, rfl⟩, fun _ _ _ h => by simp at h, fun _ _ _ _ _ _ _ h => by simp at h⟩
  · cases h
/-- The order of two strings, as the model has it. -/
def cmpS (a b : ByteArray) : Option Int := some (Extern.BytealgCompare.cmp a b)
def str2 (f : Nat → ByteArray → ByteArray → Option Int) : Spec :=
  ⟨false, [(.int .i64, false)], true, .int .i64, fun k xs => match xs with | [.str a, .str b] => f k a b | _ => none, false⟩
theorem cmpS_run {P : Program} {a b : ByteArray} {r : Int} {w : World} (h : cmpS a b = some r) : (Extern.BytealgCompare.compare #[.string a, .string b]).run P w = .ok (.int .i64 r) w := by
  unfold cmpS at h
  cases h
  rfl
/-- A function without a body over two strings. -/
theorem now_str2 {P : Program} {n : FuncId} {fn : Func} {e : Array Value → Sem Value} {f : Nat → ByteArray → ByteArray → Option Int} (hf : P.funcs[n]? = some fn) (hname : (fn.name == "runtime.NumGoroutine") = false)
    (hb : fn.body.isNone = true) (hn : Extern.findNext fn = none) (he : Extern.find fn = some e)
    (hrun : ∀ k a b r w, f k a b = some r → (e #[.string a, .string b]).run P w = .ok (.int .i64 r) w) : Now P n (str2 f) := by
  intro k args r vals w Z0 hZ h hargs
  unfold str2 at h
  dsimp only at h
  split at h
  · rename_i a b
    obtain ⟨u1, us, rfl, h1, u2, us, rfl, h2, h4⟩ := hargs
    obtain rfl : us = [] := h4
    obtain rfl : u1 = .string a := h1
    obtain rfl : u2 = .string b := h2
    refine ⟨.int .i64 r, w, ?_, Kept.refl0 w, [.int .i64 r], rfl, rfl, ?_, ?_⟩
    · rw [run_callFunc_extern hf hname hb hn he]
      have := hrun k a b r w h
      show ((e #[.string a, .string b]).run P w).andThen _ = _
      rw [this]
      rfl
    · intro p hp _
      simp only [str2, List.mem_cons, List.not_mem_nil, or_false] at hp
      subst hp
      rfl
    · rw [if_pos (show (str2 f).own = true from rfl)]
      exact ⟨[], ⟨rfl, rfl⟩, fun _ _ _ h => by simp at h, fun _ _ _ _ _ _ _ h => by simp at h⟩
  · cases h
/-- A function that calls itself: its contract by the rounds. -/
theorem meets_rec {P : Program} {n : FuncId} {views own : Bool} {rts : List (Ty × Bool)} {rt : Ty} {F : Nat → List AVal → Option (T rt)} (h0 : ∀ xs, F 0 xs = none)
    (hstep : ∀ j, Meets P n ⟨views, rts, own, rt, fun _ xs => F j xs, false⟩ → Meets P n ⟨views, rts, own, rt, fun k xs => bif Nat.beq k j then F (j + 1) xs else none, false⟩) : Meets P n ⟨views, rts, own, rt, F, false⟩ := by
  have all : ∀ j, Meets P n ⟨views, rts, own, rt, fun _ xs => F j xs, false⟩ := by
    intro j
    induction j with
    | zero =>
      intro k args r vals w Z0 hZ h
      have h : F 0 args = some r := h
      rw [h0] at h
      cases h
    | succ j ih =>
      intro k args r vals w Z0 hZ h ha
      exact hstep j ih j args r vals w Z0 hZ (by show (bif Nat.beq j j then F (j + 1) args else none) = some r; rw [Nat.beq_refl]; exact h) ha
  intro k args r vals w Z0 hZ h ha
  exact all k k args r vals w Z0 hZ h ha
end Go.Proofs.YtkahcjnkmbbplaaE
