/- The engine, part 19: the machine's run; a function's contract out of its run. -/
import Derived.Test.YtchdegcfohegfaaE18
namespace Go.Proofs.YtchdegcfohegfaaE
set_option linter.unusedVariables false
set_option linter.unusedSimpArgs false
set_option linter.unusedSectionVars false
open Pr

def todoOf : List It → List Item
  | [] => []
  | .code c :: st => .code c :: todoOf st
  | .inBlock id :: st => .inBlock id :: todoOf st
  | .inLoop _ body :: st => .inLoop body :: todoOf st

/-- Where a label begins. -/
def labOf : List It → List Item
  | .inLoop _ body :: st => .code body :: .inLoop body :: todoOf st
  | st => todoOf st

section
variable {P : Program} {ti : TI} {N : Nat} {X Y : Nat → Prop} {w0 w w' : World} {β β' : Beta} {σ σ' : St} {a a' : Act} {env : Env} {R' : Type}

def Live (ti : TI) (N : Nat) (X Y : Nat → Prop) (w0 : World) (tick : Nat) (σ : St) (a : Act) (w : World) : Prop :=
  ∃ β, Rel ti N X Y w0 β σ a w ∧ SOdd σ ∧ ∀ j, objL tick 0 ≤ j → β j = none

theorem runRegion_sound (hti : TiOk P ti) (henv : EnvOk P env) (hm : P.follows .mixedOrders = true) {k tick id : Nat} {ops : Array Oper} {draw : Bool} {r : R'} {κ : St → Option R'}
    (h : runRegion ti env N k tick ops draw σ κ = some r) (hl : Live ti N X Y w0 tick σ a w) :
    (Code.region id ops draw).wp P (fun e a' w' => e = .normal ∧ ∃ σ', κ σ' = some r ∧ Live ti N X Y w0 (tick + 1) σ' a' w') a w := by
  obtain ⟨β, R, hs, hf⟩ := hl
  unfold runRegion at h
  cases hsz : Nat.ble ops.size 1024 with
  | false => rw [hsz] at h; cases h
  | true =>
  rw [hsz] at h
  have hsz := Nat.le_of_ble_eq_true hsz
  have hκ : ∀ σ' a' w' β', κ σ' = some r → Rel ti N X Y w0 β' σ' a' w' → SOdd σ' → (∀ j, objL tick (64 * ops.size) ≤ j → β' j = none) → (fun (e : Exit) (a' : Act) (w' : World) => e = .normal ∧ ∃ σ', κ σ' = some r ∧ Live ti N X Y w0 (tick + 1) σ' a' w') .normal a' w' :=
    fun σ' a' w' β' h1 h2 h3 h4 => ⟨rfl, σ', h1, β', h2, h3, fun j hj => h4 j (Nat.le_trans (objL_next tick ops.size hsz) hj)⟩
  cases draw with
  | false =>
    have h : runOps ti env N k tick ops.toList ops.toList 0 σ [] (fun σ' acc => κ σ') = some r := h
    refine wp_region_list ?_
    have := runOps_sound (κ := fun σ' acc => κ σ') (Q := fun e a' w' => e = .normal ∧ ∃ σ', κ σ' = some r ∧ Live ti N X Y w0 (tick + 1) σ' a' w') (n := ops.size) hti henv (fun σ' acc a' w' β' h1 h2 h3 h4 => hκ σ' a' w' β' h1 h2 h3 h4) (i := 0) (by simp) h R hs (by rw [Nat.mul_zero]; exact hf)
    simpa using this
  | true =>
    exact runDraw_sound hti henv hm hκ h R hs hf

/-- It comes to the end. -/
def Arr (P : Program) (Post : Act → World → Prop) (b : Frame) (cs : List Frame) (m : Machine) : Prop :=
  ∃ a' w' todo, Post a' w' ∧ Steps P m (lone { b.at a' todo with mode := .returning } cs w')

theorem Arr.head {Post : Act → World → Prop} {b : Frame} {cs : List Frame} {m m' : Machine} (h : step P m = .next m') (k : Arr P Post b cs m') : Arr P Post b cs m :=
  let ⟨a', w', todo, h1, h2⟩ := k; ⟨a', w', todo, h1, .head h h2⟩
theorem Arr.steps {Post : Act → World → Prop} {b : Frame} {cs : List Frame} {m m' : Machine} (h : Steps P m m') (k : Arr P Post b cs m') : Arr P Post b cs m :=
  let ⟨a', w', todo, h1, h2⟩ := k; ⟨a', w', todo, h1, .trans h h2⟩

structure KOk (P : Program) (ti : TI) (N : Nat) (X Y : Nat → Prop) (w0 : World) (fin : St → Option R') (r : R') (b : Frame) (cs : List Frame) (Post : Act → World → Prop) (κ : Kn R') (st : List It) : Prop where
  n : ∀ tick σ a w, κ tick .normal σ = some r → Live ti N X Y w0 tick σ a w → Arr P Post b cs (lone (b.at a (todoOf st)) cs w)
  x : ∀ tick id σ a w, κ tick (.exit id) σ = some r → Live ti N X Y w0 tick σ a w → ∃ k', exitTo id (todoOf st) = some k' ∧ Arr P Post b cs (lone (b.at a k') cs w)
  r : ∀ tick σ, κ tick .ret σ = some r → fin σ = some r

def RecOk (P : Program) (ti : TI) (N : Nat) (X Y : Nat → Prop) (w0 : World) (r : R') (b : Frame) (cs : List Frame) (Post : Act → World → Prop) (rec : List It → St → Option R') : Prop :=
  ∀ st σ a w, rec st σ = some r → Live ti N X Y w0 1 σ a w → Arr P Post b cs (lone (b.at a (labOf st)) cs w)

variable {fin : St → Option R'} {r : R'} {b : Frame} {cs : List Frame} {Post : Act → World → Prop}

theorem seqK_ok {κ : Kn R'} {st : List It} {c : Code} {next : Nat → St → Option R'} (hκ : KOk P ti N X Y w0 fin r b cs Post κ st)
    (hn : ∀ tick σ a w, next tick σ = some r → Live ti N X Y w0 tick σ a w → Arr P Post b cs (lone (b.at a (.code c :: todoOf st)) cs w)) : KOk P ti N X Y w0 fin r b cs Post (seqK κ next) (.code c :: st) where
  n := fun tick σ a w h hl => hn tick σ a w h hl
  x := fun tick id σ a w h hl => by
    obtain ⟨k', h1, h2⟩ := hκ.x tick id σ a w h hl
    exact ⟨k', by simpa [todoOf, exitTo] using h1, h2⟩
  r := fun tick σ h => hκ.r tick σ h

theorem loopK_ok {κ : Kn R'} {st : List It} {body : Code} {u : Option Nat} {next : Nat → St → Option R'} (hκ : KOk P ti N X Y w0 fin r b cs Post κ st)
    (hn : ∀ tick σ a w, next tick σ = some r → Live ti N X Y w0 tick σ a w → Arr P Post b cs (lone (b.at a (.inLoop body :: todoOf st)) cs w)) : KOk P ti N X Y w0 fin r b cs Post (seqK κ next) (.inLoop u body :: st) where
  n := fun tick σ a w h hl => hn tick σ a w h hl
  x := fun tick id σ a w h hl => by
    obtain ⟨k', h1, h2⟩ := hκ.x tick id σ a w h hl
    exact ⟨k', by simpa [todoOf, exitTo] using h1, h2⟩
  r := fun tick σ h => hκ.r tick σ h

theorem blockK_ok {κ : Kn R'} {st : List It} {id : Nat} (hκ : KOk P ti N X Y w0 fin r b cs Post κ st) : KOk P ti N X Y w0 fin r b cs Post (blockK id κ) (.inBlock id :: st) where
  n := fun tick σ a w h hl => .head step_inBlock (hκ.n tick σ a w h hl)
  x := fun tick j σ a w h hl => by
    replace h : (bif Nat.beq j id then κ tick .normal σ else κ tick (.exit j) σ) = some r := h
    cases hj : Nat.beq j id with
    | true =>
      rw [hj] at h
      obtain rfl := Nat.eq_of_beq_eq_true hj
      exact ⟨todoOf st, by simp [todoOf, exitTo], hκ.n tick σ a w h hl⟩
    | false =>
      rw [hj] at h
      obtain ⟨k', h1, h2⟩ := hκ.x tick j σ a w h hl
      refine ⟨k', ?_, h2⟩
      have hne : ¬ j = id := fun e => by rw [e, Nat.beq_refl] at hj; cases hj
      have hne2 : (id == j) = false := by simpa using fun e : id = j => hne e.symm
      simpa [todoOf, exitTo, hne2] using h1
  r := fun tick σ h => hκ.r tick σ h

theorem closeN_live (n : Nat) {tick : Nat} (hl : Live ti N X Y w0 tick σ a w) : Live ti N X Y w0 tick (closeN ti n σ) a w := by
  obtain ⟨β, R, hs, hf⟩ := hl
  obtain ⟨β', h1, h2, h3⟩ := closeN_sound n R hs
  exact ⟨β', h2, h3, fun j hj => by rw [h1]; exact hf j hj⟩
theorem crossC_sound {rec : List It → St → Option R'} (hrec : RecOk P ti N X Y w0 r b cs Post rec) {sh : List (Nat × Sh)} {st : List It} {tick : Nat} (h : crossC ti rec sh st σ = some r) (hl : Live ti N X Y w0 tick σ a w) :
    Arr P Post b cs (lone (b.at a (labOf st)) cs w) := by
  unfold crossC at h
  split at h
  · rename_i τ rn new hn
    cases hb : Nat.ble new 131071 with
    | false => rw [hb] at h; cases h
    | true =>
      rw [hb] at h
      obtain ⟨β, R, hs, hf⟩ := hl
      obtain ⟨β', g1, g2, g3⟩ := norm_rel R hn (Nat.le_of_ble_eq_true hb)
      exact hrec st (τ ++ (pinsOf σ pinL).2) a w h ⟨β', g1, g2, g3⟩
  · cases h
theorem cross_sound {rec : List It → St → Option R'} (hrec : RecOk P ti N X Y w0 r b cs Post rec) {sh : List (Nat × Sh)} {st : List It} {tick : Nat} (h : cross ti rec sh st σ = some r) (hl : Live ti N X Y w0 tick σ a w) :
    Arr P Post b cs (lone (b.at a (labOf st)) cs w) := by
  unfold cross at h
  cases hc : sh.any (fun p => isDeepSh p.2) with
  | false => rw [hc] at h; exact crossC_sound hrec h hl
  | true => rw [hc] at h; exact crossC_sound hrec h (closeN_live _ hl)

variable (hti : TiOk P ti) (henv : EnvOk P env) (hm : P.follows .mixedOrders = true) (hpost : ∀ tick σ a w, fin σ = some r → Live ti N X Y w0 tick σ a w → Post a w) {hs : Hints} {rec : List It → St → Option R'} (hrec : RecOk P ti N X Y w0 r b cs Post rec) {k : Nat}
include hti henv hm hpost hrec

theorem region_arr {id tick : Nat} {ops : Array Oper} {draw : Bool} {κ : St → Option R'} {td : List Item} (h : runRegion ti env N k tick ops draw σ κ = some r) (hl : Live ti N X Y w0 tick σ a w)
    (hκ : ∀ σ' a' w', κ σ' = some r → Live ti N X Y w0 (tick + 1) σ' a' w' → Arr P Post b cs (lone (b.at a' td) cs w')) : Arr P Post b cs (lone (b.at a (.code (.region id ops draw) :: td)) cs w) := by
  obtain ⟨e, a', w', ⟨rfl, σ', h1, h2⟩, harr⟩ := runRegion_sound (id := id) hti henv hm h hl b td cs
  exact .steps harr (hκ σ' a' w' h1 h2)

theorem iterN_sound {body : Code} {st : List It} {κ : Kn R'} (hκ : KOk P ti N X Y w0 fin r b cs Post κ st)
    (run : Nat → St → List It → Kn R' → Option R')
    (hrun : ∀ tick σ a w st κ, run tick σ st κ = some r → KOk P ti N X Y w0 fin r b cs Post κ st → Live ti N X Y w0 tick σ a w → Arr P Post b cs (lone (b.at a (.code body :: todoOf st)) cs w)) :
    ∀ n tick σ a w, iterN run body st κ n tick σ = some r → Live ti N X Y w0 tick σ a w → Arr P Post b cs (lone (b.at a (.code body :: .inLoop body :: todoOf st)) cs w)
  | 0, _, _, _, _, h, _ => by cases h
  | n + 1, tick, σ, a, w, h, hl => by
    have h : run tick σ (.inLoop (some n) body :: st) (seqK κ (iterN run body st κ n)) = some r := h
    refine hrun tick σ a w _ _ h (loopK_ok hκ (fun tick' σ' a' w' h' hl' => .head step_inLoop ?_)) hl
    exact iterN_sound hκ run hrun n tick' σ' a' w' h' hl'

theorem runCode_sound : ∀ (c : Code) (tick : Nat) (σ : St) (a : Act) (w : World) (st : List It) (κ : Kn R'), runCode ti env N hs rec k c tick σ st κ = some r → KOk P ti N X Y w0 fin r b cs Post κ st → Live ti N X Y w0 tick σ a w →
    Arr P Post b cs (lone (b.at a (.code c :: todoOf st)) cs w) := by
  intro c
  induction c with
  | skip => exact fun tick σ a w st κ h hκ hl => .head step_skip (hκ.n tick σ a w h hl)
  | region id ops draw =>
    intro tick σ a w st κ h hκ hl
    unfold runCode at h
    split at h
    · exact cross_sound hrec h hl
    · exact region_arr hti henv hm hpost hrec h hl (fun σ' a' w' h' hl' => hκ.n _ σ' a' w' h' hl')
  | seq x y ihx ihy =>
    intro tick σ a w st κ h hκ hl
    unfold runCode at h
    exact .head step_seq (ihx tick σ a w (.code y :: st) _ h (seqK_ok hκ (fun tick' σ' a' w' h' hl' => ihy tick' σ' a' w' st κ h' hκ hl')) hl)
  | cond c x y ihx ihy =>
    intro tick σ a w st κ h hκ hl
    unfold runCode at h
    obtain ⟨v, rs, h1, h2⟩ := run_E h
    split at h2
    · rename_i z
      have hl' := hl
      obtain ⟨β, R, _⟩ := hl'
      have he : a.eval c = .bool z := opd_sound R h1
      cases z with
      | true => exact .head (step_cond he) (ihx tick σ a w st κ h2 hκ hl)
      | false => exact .head (step_cond he) (ihy tick σ a w st κ h2 hκ hl)
    · cases h2
  | block id body ih =>
    intro tick σ a w st κ h hκ hl
    unfold runCode at h
    exact .head step_block (ih tick σ a w (.inBlock id :: st) _ h (blockK_ok hκ) hl)
  | loop body ih =>
    intro tick σ a w st κ h hκ hl
    unfold runCode at h
    split at h
    · exact .head step_loop (cross_sound hrec h hl)
    · exact .head step_loop (iterN_sound hti henv hm hpost hrec hκ _ (fun tick σ a w st κ h1 h2 h3 => ih tick σ a w st κ h1 h2 h3) _ tick σ a w h hl)
    · cases h
  | exit id =>
    intro tick σ a w st κ h hκ hl
    obtain ⟨k', h1, h2⟩ := hκ.x tick id σ a w h hl
    exact .head (step_exit h1) h2
  | ret =>
    intro tick σ a w st κ h hκ hl
    exact ⟨a, w, _, hpost tick σ a w (hκ.r tick σ h) hl, .one step_ret⟩
  | rangeFunc => intro tick σ a w st κ h; simp [runCode] at h
  | scope => intro tick σ a w st κ h; simp [runCode] at h
  | label => intro tick σ a w st κ h; simp [runCode] at h
  | goto => intro tick σ a w st κ h; simp [runCode] at h
  | refuse => intro tick σ a w st κ h; simp [runCode] at h

theorem resume_sound : ∀ st : List It, KOk P ti N X Y w0 fin r b cs Post (resume ti env N hs rec k fin st) st
  | [] => {
      n := fun tick σ a w h hl => ⟨a, w, [], hpost tick σ a w h hl, .one step_end⟩
      x := fun tick id σ a w h hl => by simp [resume] at h
      r := fun tick σ h => h }
  | .code c :: st => seqK_ok (resume_sound st) (fun tick σ a w h hl => runCode_sound hti henv hm hpost hrec c tick σ a w st _ h (resume_sound st) hl)
  | .inBlock id :: st => blockK_ok (resume_sound st)
  | .inLoop none body :: st => loopK_ok (resume_sound st) (fun tick σ a w h hl => by
      split at h
      · exact .head step_inLoop (cross_sound hrec h hl)
      · cases h)
  | .inLoop (some n) body :: st => loopK_ok (resume_sound st) (fun tick σ a w h hl => .head step_inLoop
      (iterN_sound hti henv hm hpost hrec (resume_sound st) _ (fun tick σ a w st κ h1 h2 h3 => runCode_sound hti henv hm hpost hrec body tick σ a w st κ h1 h2 h3) n tick σ a w h hl))

omit hrec in
theorem exec_sound : ∀ k : Nat, RecOk P ti N X Y w0 r b cs Post (exec ti env N hs fin k)
  | 0 => fun st σ a w h => by cases h
  | k + 1 => fun st σ a w h hl => by
    have ih := exec_sound k
    unfold exec at h
    split at h
    · rename_i id ops draw st'
      exact region_arr hti henv hm hpost ih h hl (fun σ' a' w' h' hl' => (resume_sound hti henv hm hpost ih st').n _ σ' a' w' h' hl')
    · rename_i body st'
      exact runCode_sound hti henv hm hpost ih body 1 σ a w (.inLoop none body :: st') _ h (resume_sound hti henv hm hpost ih _) hl
    · cases h

omit hrec in
theorem runFn_sound {body : Code} (h : runFn ti env N hs fin k body σ = some r) (hl : Live ti N X Y w0 1 σ a w) : Arr P Post b cs (lone (b.at a [.code body]) cs w) :=
  runCode_sound hti henv hm hpost (exec_sound hti henv hm hpost k) body 1 σ a w [] _ h (resume_sound hti henv hm hpost (exec_sound hti henv hm hpost k) []) hl
end

/-! ### results -/
section
variable {P : Program} {ti : TI} {N : Nat} {X Y : Nat → Prop} {w0 w w' : World} {β β' : Beta} {σ σ' : St} {a a' : Act} {env : Env}

/-- What is told of a result's cells: used are the places handed back. -/
theorem outT_own (R : Rel ti N X Y w0 β σ a w) : ∀ {t : Ty} {as rest : List AVal} {us us' : List Loc} {x : T t} {vs : List Value}, outT ti true σ t as us = some (x, rest, us') → VRs β w (Zs Y β σ w) as vs →
    ∃ (cs vs' : List Value) (bs : List (Option Nat × Nat × Nat)) (ls : List Loc), vs = cs ++ vs' ∧ VRs β w (Zs Y β σ w) rest vs' ∧ OwnR w (Zs Y β σ w) t x cs bs ∧ us' = ls.reverse ++ us ∧
      (∀ l ∈ ls, l ∉ us) ∧ ls.Nodup ∧
      (∀ (i j : Nat) g c n c' n', bs[i]? = some (some g, c, n) → bs[j]? = some (some g, c', n') → i = j) ∧ (∀ b ∈ bs, ∀ g, b.1 = some g → ∃ l ∈ ls, ∃ c n, β l = some (some g, c, n) ∧ isOwn (look σ l) = true) := by
  intro t
  induction t with
  | pair p q hp hq =>
    intro as rest us us' x vs h hv
    simp only [outT] at h
    split at h
    · rename_i x1 as1 us1 h1
      split at h
      · rename_i x2 as2 us2 h2
        cases h
        obtain ⟨c1, v1, b1, l1, rfl, hv1, o1, rfl, n1, d1, i1, e1⟩ := hp h1 hv
        obtain ⟨c2, v2, b2, l2, rfl, hv2, o2, rfl, n2, d2, i2, e2⟩ := hq h2 hv1
        refine ⟨c1 ++ c2, v2, b1 ++ b2, l1 ++ l2, (List.append_assoc ..).symm, hv2, ⟨c1, c2, b1, b2, rfl, rfl, o1, o2⟩, by rw [List.reverse_append, List.append_assoc], ?_, ?_, ?_, ?_⟩
        · intro l hl
          rcases List.mem_append.1 hl with hl | hl
          · exact n1 l hl
          · exact fun h => n2 l hl (List.mem_append_right _ h)
        · refine List.nodup_append.2 ⟨d1, d2, fun a ha b hb e => ?_⟩
          subst e
          exact n2 a hb (List.mem_append_left _ (List.mem_reverse.2 ha))
        · have cross : ∀ (i j : Nat) g c n c' n', b1[i]? = some (some g, c, n) → b2[j]? = some (some g, c', n') → False := by
            intro i j g c n c' n' hi hj
            obtain ⟨l, hl, c3, n3, hb3, ho3⟩ := e1 _ (List.mem_of_getElem? hi) g rfl
            obtain ⟨l', hl', c4, n4, hb4, ho4⟩ := e2 _ (List.mem_of_getElem? hj) g rfl
            have := R.apart l l' g c3 n3 c4 n4 ho3 ho4 hb3 hb4
            subst this
            exact n2 l hl' (List.mem_append_left _ (List.mem_reverse.2 hl))
          intro i j g c n c' n' hi hj
          by_cases hi1 : i < b1.length <;> by_cases hj1 : j < b1.length
          · rw [List.getElem?_append_left hi1] at hi
            rw [List.getElem?_append_left hj1] at hj
            exact i1 i j g c n c' n' hi hj
          · rw [List.getElem?_append_left hi1] at hi
            rw [List.getElem?_append_right (by omega)] at hj
            exact (cross _ _ g c n c' n' hi hj).elim
          · rw [List.getElem?_append_right (by omega)] at hi
            rw [List.getElem?_append_left hj1] at hj
            exact (cross _ _ g c' n' c n hj hi).elim
          · rw [List.getElem?_append_right (by omega)] at hi
            rw [List.getElem?_append_right (by omega)] at hj
            have := i2 _ _ g c n c' n' hi hj
            omega
        · intro b hb g hg
          rcases List.mem_append.1 hb with hb | hb
          · obtain ⟨l, h1, h2⟩ := e1 b hb g hg; exact ⟨l, List.mem_append_left _ h1, h2⟩
          · obtain ⟨l, h1, h2⟩ := e2 b hb g hg; exact ⟨l, List.mem_append_right _ h1, h2⟩
      · cases h
    · cases h
  | slice e t _ =>
    intro as rest us us' x vs h hv
    cases as with
    | nil => simp [outT] at h
    | cons c cs =>
      obtain ⟨u, vs', rfl, hu, _, hv'⟩ := hv
      simp only [outT] at h
      split at h
      · cases h
        refine ⟨[u], vs', [(none, 0, 0)], [], rfl, hv', ⟨none, 0, by rw [show u = _ from hu]; rfl, ⟨rfl, rfl⟩, rfl⟩, rfl, by simp, List.nodup_nil, ?_, ?_⟩
        · intro i j g c n c' n' hi
          cases i <;> simp at hi
        · intro b hb g hg
          rw [List.mem_singleton.1 hb] at hg
          cases hg
      · cases h
      · cases h
      · rename_i l n
        split at h
        · rename_i m xs hro
          cases hc : (m && !memN l us) with
          | false => simp only [hc, cond_true, cond_false] at h; cases h
          | true =>
            simp only [hc, cond_true] at h
            cases h
            rw [Bool.and_eq_true, Bool.not_eq_true'] at hc
            obtain ⟨b, hb, hrow, hown, _, _⟩ := rowOf_sound R hro
            have hown := hown hc.1
            obtain ⟨bb, cc, len, hb', hval⟩ := hu
            rw [hb] at hb'
            cases hb'
            have hlen : len = xs.length := hrow.1
            -- the row that is seen
            have hseen : (seen n xs).length = n.getD len ∧ RowOk w (Zs Y β σ w) e t (seen n xs) (bb, cc, (seen n xs).length) := by
              have hsl : (seen n xs).length = n.getD len := by
                cases n with
                | none => exact hlen.symm
                | some j =>
                  show (xs.take j).length = j
                  rw [List.length_take]
                  refine Nat.min_eq_left ?_
                  cases bb with
                  | none => have : j = 0 := hval.2.2; omega
                  | some g => have := hval.2.1; have : j ≤ len := this; omega
              refine ⟨hsl, rfl, ?_⟩
              cases bb with
              | none =>
                have hx : xs = [] := hrow.2
                subst hx
                cases n <;> simp [seen]
              | some g =>
                obtain ⟨_, cur, F, h3, h4, h5, h6, h7, h8⟩ := hrow
                cases n with
                | none => exact ⟨cur, F, h3, h4, h5, h6, h7, h8⟩
                | some j =>
                  obtain ⟨F', g1, g2⟩ := rowR_take (n := sz t) (fun _ _ _ => Rd_len) j h7
                  have hjl : j ≤ xs.length := by have : j ≤ len := hval.2.1; omega
                  have e1 : (seen (some j) xs).length = j := hsl
                  refine ⟨cur, F', h3, by rw [e1]; exact Nat.le_trans hjl h4, h5, h6, ?_, fun f hf => h8 f (g1 f hf)⟩
                  rw [e1]
                  rw [List.take_take, Nat.min_eq_left (Nat.mul_le_mul_right _ hjl)] at g2
                  exact g2
            refine ⟨[u], vs', [(bb, cc, (seen n xs).length)], [l], rfl, hv', ⟨bb, cc, ?_, hseen.2, rfl⟩, rfl, ?_, by simp, ?_, ?_⟩
            · cases bb with
              | none => rw [hval.1, hseen.1, show n.getD len = 0 by rw [hval.2.1]; exact hval.2.2]; rfl
              | some g => rw [hval.1, hseen.1]; rfl
            · intro l' hl'
              rw [List.mem_singleton.1 hl']
              intro hm
              rw [memN_iff.2 hm] at hc
              cases hc.2
            · intro i j g c n c' n' hi hj
              cases i with
              | zero => cases j with
                | zero => rfl
                | succ j => simp at hj
              | succ i => simp at hi
            · intro b' hb' g hg
              rw [List.mem_singleton.1 hb'] at hg
              have hg : bb = some g := hg
              exact ⟨l, List.mem_singleton.2 rfl, cc, len, by rw [hb, hg], hown⟩
        · cases h
      · cases h
  | vslice e t _ =>
    intro as rest us us' x vs h hv
    cases as with
    | nil => simp [outT] at h
    | cons c cs =>
      obtain ⟨u, vs', rfl, hu, _, hv'⟩ := hv
      simp only [outT] at h
      split at h
      · cases h
        refine ⟨[u], vs', [(none, 0, 0)], [], rfl, hv', ⟨none, 0, by rw [show u = _ from hu]; rfl, Nat.le_refl _, ⟨rfl, rfl⟩, rfl⟩, rfl, by simp, List.nodup_nil, ?_, ?_⟩
        · intro i j g c n c' n' hi
          cases i <;> simp at hi
        · intro b hb g hg
          rw [List.mem_singleton.1 hb] at hg
          cases hg
      · rename_i l n
        split at h
        · rename_i m xs hro
          cases hc : (true && m && !memN l us) with
          | false => simp only [hc, cond_false] at h; cases h
          | true =>
            simp only [hc, cond_true] at h
            cases h
            rw [Bool.true_and, Bool.and_eq_true, Bool.not_eq_true'] at hc
            obtain ⟨b, hb, hrow, hown, _, _⟩ := rowOf_sound R hro
            have hown := hown hc.1
            obtain ⟨bb, cc, len, hb', hval⟩ := hu
            rw [hb] at hb'
            cases hb'
            have hlen : len = xs.length := hrow.1
            have hsl : n.getD xs.length = n.getD len := by rw [show len = xs.length from hlen]
            refine ⟨[u], vs', [(bb, cc, xs.length)], [l], rfl, hv', ⟨bb, cc, ?_, ?_, ⟨rfl, hrow.2⟩, rfl⟩, rfl, ?_, by simp, ?_, ?_⟩
            · show [u] = [Value.slice _ (n.getD xs.length) _]
              rw [hsl]
              cases bb with
              | none => rw [hval.1, show n.getD len = 0 by rw [hval.2.1]; exact hval.2.2]; rfl
              | some g => rw [hval.1]; rfl
            · show n.getD xs.length ≤ xs.length
              rw [hsl, ← hlen]
              cases bb with
              | none => rw [hval.2.1, hval.2.2]; exact Nat.le_refl _
              | some g => exact hval.2.1
            · intro l' hl'
              rw [List.mem_singleton.1 hl']
              intro hm
              rw [memN_iff.2 hm] at hc
              cases hc.2
            · intro i j g c n c' n' hi hj
              cases i with
              | zero => cases j with
                | zero => rfl
                | succ j => simp at hj
              | succ i => simp at hi
            · intro b' hb' g hg
              rw [List.mem_singleton.1 hb'] at hg
              have hg : bb = some g := hg
              exact ⟨l, List.mem_singleton.2 rfl, cc, len, by rw [hb, hg], hown⟩
        · cases h
      · cases h
  | _ =>
    intro as rest us us' x vs h hv
    cases as with
    | nil => simp [outT] at h
    | cons c cs =>
      obtain ⟨u, vs', rfl, hu, _, hv'⟩ := hv
      simp only [outT] at h
      split at h
      · rename_i y hy
        cases h
        obtain ⟨F, hF, _⟩ := Rd_enc1 hy hu
        exact ⟨[u], vs', [], [], rfl, hv', ⟨hF.1, rfl⟩, rfl, by simp, List.nodup_nil, by simp, by simp⟩
      · cases h
end
end Go.Proofs.YtchdegcfohegfaaE
