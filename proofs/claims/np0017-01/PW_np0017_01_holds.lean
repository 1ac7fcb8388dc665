import PyProof.Rows.All
import Wide.All
import OpenK.AllK
import Wide.FinOn
import Lean
import PySem.Challenge.RW_np0017_01
open PySem PySem.W PyProof.Rows PySem.Calls
set_option Elab.async false
set_option maxRecDepth 100000
set_option maxHeartbeats 8000000
namespace Mine
/-! part P0 -/
section
/-! the functions of the text, as plain functions upon offsets -/
def loopF (c : Nat → Bool) (g : Nat → Nat) : Nat → Nat → Nat
  | 0, i => i
  | k + 1, i => if c i = true then loopF c g k (g i) else i
def loop (c : Nat → Bool) (g : Nat → Nat) (μ : Nat → Nat) (i : Nat) : Nat := loopF c g (μ i) i
section
variable {c : Nat → Bool} {g : Nat → Nat} {μ : Nat → Nat} {P : Nat → Prop}
theorem loopF_fuel (hμ : ∀ i, P i → c i = true → μ (g i) < μ i ∧ P (g i)) : ∀ (k j i : Nat), P i → μ i ≤ k → μ i ≤ j → loopF c g k i = loopF c g j i
  | 0, 0, _, _, _, _ => rfl
  | 0, j + 1, i, hp, hk, _ => by
    cases hc : c i with
    | true => have := (hμ i hp hc).1; omega
    | false => simp [loopF, hc]
  | k + 1, 0, i, hp, _, hj => by
    cases hc : c i with
    | true => have := (hμ i hp hc).1; omega
    | false => simp [loopF, hc]
  | k + 1, j + 1, i, hp, hk, hj => by
    cases hc : c i with
    | true =>
      have h := hμ i hp hc
      simp only [loopF, hc, if_true]
      exact loopF_fuel hμ k j (g i) h.2 (by omega) (by omega)
    | false => simp [loopF, hc]
theorem loop_true (hμ : ∀ i, P i → c i = true → μ (g i) < μ i ∧ P (g i)) {i : Nat} (hp : P i) (hc : c i = true) : loop c g μ i = loop c g μ (g i) := by
  have h := hμ i hp hc
  unfold loop
  obtain ⟨k, hk⟩ : ∃ k, μ i = k + 1 := ⟨μ i - 1, by omega⟩
  rw [hk]
  simp only [loopF, hc, if_true]
  exact loopF_fuel hμ _ _ _ h.2 (by omega) (Nat.le_refl _)
theorem loop_false {i : Nat} (hc : c i = false) : loop c g μ i = i := by
  unfold loop
  cases μ i with
  | zero => rfl
  | succ k => simp [loopF, hc]
theorem loop_ind (hμ : ∀ i, P i → c i = true → μ (g i) < μ i ∧ P (g i)) : ∀ (n i : Nat), μ i ≤ n → P i → P (loop c g μ i) ∧ c (loop c g μ i) = false
  | n, i, hn, hp => by
    cases hc : c i with
    | false => rw [loop_false hc]; exact ⟨hp, hc⟩
    | true =>
      have h := hμ i hp hc
      rw [loop_true hμ hp hc]
      cases n with
      | zero => omega
      | succ n => exact loop_ind hμ n (g i) (by omega) h.2
theorem loop_inv (hμ : ∀ i, P i → c i = true → μ (g i) < μ i ∧ P (g i)) {i : Nat} (hp : P i) : P (loop c g μ i) := (loop_ind hμ _ i (Nat.le_refl _) hp).1
theorem loop_end (hμ : ∀ i, P i → c i = true → μ (g i) < μ i ∧ P (g i)) {i : Nat} (hp : P i) : c (loop c g μ i) = false := (loop_ind hμ _ i (Nat.le_refl _) hp).2
end

def co (xs : List Int) (i : Nat) : Int := xs.getD i (-1)
def blank (z : Int) : Bool := decide (z = 32) || decide (z = 9) || decide (z = 12)
def gP (_xs : List Int) (i : Nat) : Nat := i - 1
def gS (_xs : List Int) (i : Nat) : Nat := i + 1
def mI (_xs : List Int) (i : Nat) : Nat := i
def mN (xs : List Int) (i : Nat) : Nat := xs.length - i
def Falls (c : List Int → Nat → Bool) (g : List Int → Nat → Nat) (μ : List Int → Nat → Nat) : Prop := ∀ xs i, c xs i = true → μ xs (g xs i) < μ xs i
theorem Falls.at {c : List Int → Nat → Bool} {g : List Int → Nat → Nat} {μ : List Int → Nat → Nat} (h : Falls c g μ) (xs : List Int) : ∀ i, True → c xs i = true → μ xs (g xs i) < μ xs i ∧ True := fun i _ hc => ⟨h xs i hc, trivial⟩
theorem Falls.with {c : List Int → Nat → Bool} {g : List Int → Nat → Nat} {μ : List Int → Nat → Nat} {P : Nat → Prop} (h : Falls c g μ) (xs : List Int) (hP : ∀ i, P i → c xs i = true → P (g xs i)) : ∀ i, P i → c xs i = true → μ xs (g xs i) < μ xs i ∧ P (g xs i) := fun i hp hc => ⟨h xs i hc, hP i hp hc⟩
abbrev run (c : List Int → Nat → Bool) (g : List Int → Nat → Nat) (μ : List Int → Nat → Nat) (xs : List Int) (i : Nat) : Nat := loop (c xs) (g xs) (μ xs) i

def cS (xs : List Int) (i : Nat) : Bool := decide (0 < i) && !decide (co xs (i - 1) = 10)
theorem cS_falls : Falls cS gP mI := by intro xs i h; simp [cS] at h; simp only [mI, gP]; omega
def lstart (xs : List Int) (i : Nat) : Nat := run cS gP mI xs i
def cE (xs : List Int) (i : Nat) : Bool := decide (i < xs.length) && !decide (co xs i = 10)
theorem cE_falls : Falls cE gS mN := by intro xs i h; simp [cE] at h; simp only [mN, gS]; omega
def lend (xs : List Int) (i : Nat) : Nat := run cE gS mN xs i
def isEnd (xs : List Int) (i : Nat) : Bool := decide (i = xs.length) || decide (co xs i = 10)
def cB (xs : List Int) (i : Nat) : Bool := decide (i < xs.length) && blank (co xs i)
theorem cB_falls : Falls cB gS mN := by intro xs i h; simp only [cB, Bool.and_eq_true, decide_eq_true_eq] at h; simp only [mN, gS]; omega
def parts (xs : List Int) (i : Nat) : Bool := isEnd xs (run cB gS mN xs i)
def begins (xs : List Int) (i : Nat) : Bool := decide (co xs i = 12) || parts xs i
def nstart (xs : List Int) (b : Int) (i : Nat) : Int := if lend xs i < xs.length then b + ((lend xs i + 1 : Nat) : Int) else -1
def lbehind (xs : List Int) (i : Nat) : Nat := if lend xs i < xs.length then lend xs i + 1 else xs.length

theorem lstart_le (xs : List Int) (i : Nat) : lstart xs i ≤ i :=
  loop_inv (P := fun j => j ≤ i) (cS_falls.with xs fun j hj _ => by simp only [gP]; omega) (Nat.le_refl i)
theorem lend_le (xs : List Int) {i : Nat} (h : i ≤ xs.length) : lend xs i ≤ xs.length :=
  loop_inv (P := fun j => j ≤ xs.length) (cE_falls.with xs fun j hj hc => by simp [cE] at hc; simp only [gS]; omega) h
theorem lend_ge (xs : List Int) (i : Nat) : i ≤ lend xs i :=
  loop_inv (P := fun j => i ≤ j) (cE_falls.with xs fun j hj _ => by simp only [gS]; omega) (Nat.le_refl i)
theorem lbehind_le (xs : List Int) (i : Nat) : lbehind xs i ≤ xs.length := by unfold lbehind; split <;> omega
theorem lbehind_gt (xs : List Int) {i : Nat} (h : i < xs.length) : i < lbehind xs i := by
  have := lend_ge xs i
  unfold lbehind; split <;> omega

def cP (xs : List Int) (i : Nat) : Bool := decide (i < xs.length) && parts xs i
theorem cP_falls : Falls cP lbehind mN := by
  intro xs i h; simp only [cP, Bool.and_eq_true, decide_eq_true_eq] at h
  have := lbehind_gt xs h.1
  simp only [mN]; omega
def past (xs : List Int) (i : Nat) : Nat := run cP lbehind mN xs (lstart xs i)
def cF (xs : List Int) (i : Nat) : Bool := decide (i < xs.length) && !begins xs i
theorem cF_falls : Falls cF lbehind mN := by
  intro xs i h; simp only [cF, Bool.and_eq_true, decide_eq_true_eq] at h
  have := lbehind_gt xs h.1
  simp only [mN]; omega
def oneFwd (xs : List Int) (i : Nat) : Nat := run cF lbehind mN xs (lbehind xs (past xs i))
def behindEmpty (xs : List Int) (i : Nat) : Bool := decide (0 < i) && (decide (co xs (i - 1) = 10) && (!parts xs i && decide (lstart xs (i - 1) = i - 1)))
def gL (xs : List Int) (i : Nat) : Nat := lstart xs (i - 1)
def cL (xs : List Int) (i : Nat) : Bool := decide (0 < i) && !begins xs i
theorem cL_falls : Falls cL gL mI := by
  intro xs i h; simp only [cL, Bool.and_eq_true, decide_eq_true_eq] at h
  have := lstart_le xs (i - 1)
  simp only [mI, gL]; omega
def firstLine (xs : List Int) (i : Nat) : Nat := run cL gL mI xs i
def cK (xs : List Int) (i : Nat) : Bool := decide (0 < i) && parts xs i
theorem cK_falls : Falls cK gL mI := by
  intro xs i h; simp only [cK, Bool.and_eq_true, decide_eq_true_eq] at h
  have := lstart_le xs (i - 1)
  simp only [mI, gL]; omega
def backPart (xs : List Int) (i : Nat) : Nat := run cK gL mI xs (lstart xs (i - 1))
def emptyAbove (xs : List Int) (i : Nat) : Nat := if 0 < i ∧ lstart xs (i - 1) = i - 1 then i - 1 else i
def oneBwd (xs : List Int) (i : Nat) : Nat :=
  if i = 0 ∨ behindEmpty xs i = true then i - 1
  else if backPart xs i = 0 then 0
  else if begins xs (firstLine xs (backPart xs i)) = false then firstLine xs (backPart xs i)
  else emptyAbove xs (past xs (firstLine xs (backPart xs i)))

theorem past_le (xs : List Int) {i : Nat} (h : i ≤ xs.length) : past xs i ≤ xs.length :=
  loop_inv (P := fun j => j ≤ xs.length) (cP_falls.with xs fun j _ _ => lbehind_le xs j) (Nat.le_trans (lstart_le xs i) h)
theorem oneFwd_le (xs : List Int) (i : Nat) : oneFwd xs i ≤ xs.length :=
  loop_inv (P := fun j => j ≤ xs.length) (cF_falls.with xs fun j _ _ => lbehind_le xs j) (lbehind_le xs _)
theorem firstLine_le (xs : List Int) (i : Nat) : firstLine xs i ≤ i :=
  loop_inv (P := fun j => j ≤ i) (cL_falls.with xs fun j hj _ => by have := lstart_le xs (j - 1); simp only [gL]; omega) (Nat.le_refl i)
theorem backPart_le (xs : List Int) (i : Nat) : backPart xs i ≤ i - 1 :=
  loop_inv (P := fun j => j ≤ i - 1) (cK_falls.with xs fun j hj _ => by have := lstart_le xs (j - 1); simp only [gL]; omega) (lstart_le xs (i - 1))
theorem emptyAbove_le (xs : List Int) (i : Nat) : emptyAbove xs i ≤ i := by unfold emptyAbove; split <;> omega
theorem oneBwd_le (xs : List Int) {i : Nat} (h : i ≤ xs.length) : oneBwd xs i ≤ xs.length := by
  have h1 := backPart_le xs i
  have h2 := firstLine_le xs (backPart xs i)
  have h3 := past_le xs (i := firstLine xs (backPart xs i)) (by omega)
  have h4 := emptyAbove_le xs (past xs (firstLine xs (backPart xs i)))
  unfold oneBwd
  repeat' split
  all_goals omega
end
/-! part Top -/
section
open_top hd for PySem.Challenge.rw_np0017_01
end
local macro_rules | `(tactic| walk_at $s:str) => `(tactic| k_extra $s)
/-! part V0 -/
section
abbrev Led := List (Addr × Obj)
abbrev PR : Program := PySem.Challenge.rw_np0017_01.row.prog

def Con (w : World) (mean : ExcName → Option Value) (mg mb : Str → Option Value) (f : Addr) (dn : Nat) (news : Led) (vs : List Value) (Post : Value → Led → Prop) : Prop :=
  ∀ (dp un : Nat) (gd : Option (List Code)) (cn : Str) (cs : Scope) (a : Addr) (ccd : Value) (cl : List (Str × Addr)) (outer : List Env) (A₀ : Around) (base h₀ : Heap) (L : Addr) (m : Str → Option Value) (s : Shared) (Q E : Value → Shared → Prop),
    Below A₀ base outer h₀ → Fr h₀ L s.heap m → (hd.heap_39 w.params).In h₀ → News h₀ L s.heap news → Top hd.view_39 (looseW hd.view_39 [Str.ofString "PARTING"]) mean mg mb h₀ → cs.kind = .function →
    dp + dn < recursionLimit → un + 8 * dn < cLine →
    (∀ v news' h' tk', Post v news' → Fr h₀ L h' m → News h₀ L h' news' → Q v { s with heap := h', toks := tk' }) →
    wpAny (model PR w) (ktrTop dp un gd cn cs L a ccd cl outer) (call (.ref f) vs) Q E s

structure ViewAt (w : World) (news : Led) (v : Addr) (b : Int) (cs : List Int) : Prop where
  at' : ∃ (d c : Addr) (t1 t2 t3 : Tok) (n : Nat) (vs : List Value), (v, instObj 152 d) ∈ news ∧
    (d, dictOf [⟨PyData.keyHash w.params (Str.ofString "codes"), .str (Str.ofString "codes") t1, .ref c⟩, ⟨PyData.keyHash w.params (Str.ofString "place"), .str (Str.ofString "place") t2, .int b t3⟩] 2) ∈ news ∧
    (c, PySem.W.listOf vs.toArray n) ∈ news ∧ IntsAre vs cs
  fit : cs.length < 2 ^ 20
  pos : 1 ≤ b

abbrev PInt (news : Led) (x : Int) : Value → Led → Prop := fun r news' => news' = news ∧ ∃ t, r = .int x t
abbrev PBool (news : Led) (x : Bool) : Value → Led → Prop := fun r news' => news' = news ∧ r = .bool x

section
variable {w : World} {mean : ExcName → Option Value} {mg mb : Str → Option Value} {f : Addr} {dn : Nat} {news : Led} {vs : List Value} {Post : Value → Led → Prop}
variable {dp un : Nat} {gd : Option (List Code)} {cn : Str} {cs : Scope} {a : Addr} {ccd : Value} {cl : List (Str × Addr)} {outer : List Env} {A₀ : Around} {base h₀ : Heap} {L : Addr} {m : Str → Option Value} {s : Shared} {Q E : Value → Shared → Prop}
theorem con_use (C : Con w mean mg mb f dn news vs Post) (B : Below A₀ base outer h₀) (F : Fr h₀ L s.heap m) (X : (hd.heap_39 w.params).In h₀) (N : News h₀ L s.heap news) (T : Top hd.view_39 (looseW hd.view_39 [Str.ofString "PARTING"]) mean mg mb h₀) (hk : cs.kind = .function)
    (hdp : dp + dn < recursionLimit) (hun : un + 8 * dn < cLine)
    (ret : ∀ v news' h' tk', Post v news' → Fr h₀ L h' m → News h₀ L h' news' → Q v { s with heap := h', toks := tk' }) :
    wpAny (model PR w) (ktrTop dp un gd cn cs L a ccd cl outer) (call (.ref f) vs) Q E s := C _ _ _ _ _ _ _ _ _ _ _ _ _ _ _ _ _ B F X N T hk hdp hun ret
theorem use_int {x : Int} (C : Con w mean mg mb f dn news vs (PInt news x)) (B : Below A₀ base outer h₀) (F : Fr h₀ L s.heap m) (X : (hd.heap_39 w.params).In h₀) (N : News h₀ L s.heap news) (T : Top hd.view_39 (looseW hd.view_39 [Str.ofString "PARTING"]) mean mg mb h₀) (hk : cs.kind = .function)
    (hdp : dp + dn < recursionLimit) (hun : un + 8 * dn < cLine)
    (ret : ∀ t h' tk', Fr h₀ L h' m → News h₀ L h' news → Q (.int x t) { s with heap := h', toks := tk' }) :
    wpAny (model PR w) (ktrTop dp un gd cn cs L a ccd cl outer) (call (.ref f) vs) Q E s :=
  con_use C B F X N T hk hdp hun fun v news' h' tk' ⟨e, t, hv⟩ F' N' => by subst e; subst hv; exact ret t h' tk' F' N'
theorem use_bool {x : Bool} (C : Con w mean mg mb f dn news vs (PBool news x)) (B : Below A₀ base outer h₀) (F : Fr h₀ L s.heap m) (X : (hd.heap_39 w.params).In h₀) (N : News h₀ L s.heap news) (T : Top hd.view_39 (looseW hd.view_39 [Str.ofString "PARTING"]) mean mg mb h₀) (hk : cs.kind = .function)
    (hdp : dp + dn < recursionLimit) (hun : un + 8 * dn < cLine)
    (ret : ∀ h' tk', Fr h₀ L h' m → News h₀ L h' news → Q (.bool x) { s with heap := h', toks := tk' }) :
    wpAny (model PR w) (ktrTop dp un gd cn cs L a ccd cl outer) (call (.ref f) vs) Q E s :=
  con_use C B F X N T hk hdp hun fun v news' h' tk' ⟨e, hv⟩ F' N' => by subst e; subst hv; exact ret h' tk' F' N'
theorem end_int {h' : Heap} {tk' : Nat} {x y : Int} {t : Tok} (hret : ∀ v news' h' tk', PInt news x v news' → Fr h₀ L h' m → News h₀ L h' news' → Q v { s with heap := h', toks := tk' })
    (F : Fr h₀ L h' m) (N : News h₀ L h' news) (e : y = x) : Q (.int y t) { s with heap := h', toks := tk' } := hret _ _ _ _ ⟨rfl, t, by rw [e]⟩ F N
theorem end_bool {h' : Heap} {tk' : Nat} {x y : Bool} (hret : ∀ v news' h' tk', PBool news x v news' → Fr h₀ L h' m → News h₀ L h' news' → Q v { s with heap := h', toks := tk' })
    (F : Fr h₀ L h' m) (N : News h₀ L h' news) (e : y = x) : Q (.bool y) { s with heap := h', toks := tk' } := hret _ _ _ _ ⟨rfl, by rw [e]⟩ F N
end
theorem room_le {d a b R : Nat} (h : d + a < R) (hab : 1 + b ≤ a) : d + 1 + b < R := by omega
theorem units_le {u a b R : Nat} (h : u + a < R) (hab : 3 + b ≤ a) : u + 3 + b < R := by omega
end
/-! part V2 -/
section
/-- a test's end: it gives v, and leaves frame and ledger -/
def TEnd (s : Shared) (h₀ : Heap) (L : Addr) (m : Str → Option Value) (news : Led) (v : Bool) (bb : Bool) (s₂ : Shared) : Prop :=
  bb = v ∧ ∃ h' tk', s₂ = { s with heap := h', toks := tk' } ∧ Fr h₀ L h' m ∧ News h₀ L h' news
/-- a turn's end: it stores j at the one name -/
def BEnd (s : Shared) (h₀ : Heap) (L : Addr) (m₀ : Str → Option Value) (x : Str) (b : Int) (j : Nat) (news : Led) (f : Flow) (s₂ : Shared) : Prop :=
  f = .next ∧ ∃ h' tk' m' t', s₂ = { s with heap := h', toks := tk' } ∧ Fr h₀ L h' m' ∧ News h₀ L h' news ∧ m' x = some (.int (b + (j : Nat)) t') ∧ ∀ z, z ≠ x → m' z = m₀ z
section
variable {s : Shared} {h₀ h' : Heap} {L : Addr} {m m' m₀ : Str → Option Value} {news : Led} {tk' : Nat}
theorem tend {v bb : Bool} (F : Fr h₀ L h' m) (N : News h₀ L h' news) (e : bb = v) : TEnd s h₀ L m news v bb { s with heap := h', toks := tk' } := ⟨e, h', tk', rfl, F, N⟩
theorem bend {x : Str} {b p : Int} {j : Nat} {t' : Tok} (F : Fr h₀ L h' m') (N : News h₀ L h' news) (hx : m' x = some (.int p t')) (hz : ∀ z, z ≠ x → m' z = m₀ z) (e : p = b + (j : Nat)) :
    BEnd s h₀ L m₀ x b j news .next { s with heap := h', toks := tk' } := ⟨rfl, h', tk', m', t', rfl, F, N, by rw [hx, e], hz⟩
end
section
variable {prog : Program} {w : World} {A : Around} {E : Value → Shared → Prop} {Q : Flow → Shared → Prop} {s : Shared} {env : Env} {h₀ : Heap} {L : Addr} {news : Led}
theorem while_at {test : PySem.Expr} {body : List Stmt} {pos : Pos} {m₀ : Str → Option Value} (x : Str) {b : Int} {c : Nat → Bool} {g μ : Nat → Nat} (P : Nat → Prop) {i₀ : Nat} {t₀ : Tok}
    (hμ : ∀ i, P i → c i = true → μ (g i) < μ i ∧ P (g i)) (F : Fr h₀ L s.heap m₀) (N : News h₀ L s.heap news) (hx : m₀ x = some (.int (b + (i₀ : Nat)) t₀)) (hP : P i₀)
    (htest : ∀ (i : Nat) t h tk, P i → Fr h₀ L h (fun y => if y = x then some (.int (b + (i : Nat)) t) else m₀ y) → News h₀ L h news →
      wpAny (model prog w) A (isTrue test env (eval test env)) (TEnd s h₀ L (fun y => if y = x then some (.int (b + (i : Nat)) t) else m₀ y) news (c i)) E { s with heap := h, toks := tk })
    (hbody : ∀ (i : Nat) t h tk, P i → c i = true → Fr h₀ L h (fun y => if y = x then some (.int (b + (i : Nat)) t) else m₀ y) → News h₀ L h news →
      wpAny (model prog w) A (execs body env) (BEnd s h₀ L m₀ x b (g i) news) E { s with heap := h, toks := tk })
    (done : ∀ t h tk, P (loop c g μ i₀) → Fr h₀ L h (fun y => if y = x then some (.int (b + (loop c g μ i₀ : Nat)) t) else m₀ y) → News h₀ L h news → Q .next { s with heap := h, toks := tk })
    (hE : PassesOwn (model prog w) A env E := by passes_own) : wpAny (model prog w) A (exec (.While test body [] pos) env) Q E s := by
  refine While_inv2 (fun n m nx => nx = news ∧ ∃ (i : Nat) (t : Tok), n = μ i ∧ m = (fun y => if y = x then some (.int (b + (i : Nat)) t) else m₀ y) ∧ P i ∧ loop c g μ i = loop c g μ i₀) (n₀ := μ i₀) F N
    ⟨rfl, i₀, t₀, rfl, ?_, hP, rfl⟩ ?_ hE
  · funext y
    by_cases hy : y = x
    · rw [if_pos hy, hy, hx]
    · rw [if_neg hy]
  · rintro n m₁ nx h₁ tk₁ F₁ N₁ ⟨rfl, i, t, rfl, rfl, hp, hl⟩
    refine wpAny_mono (htest i t h₁ tk₁ hp F₁ N₁) (fun bb s₂ h₂ => ?_) fun _ _ e => e
    obtain ⟨rfl, h', tk', rfl, F₂, N₂⟩ := h₂
    cases hc : c i with
    | false =>
      rw [if_neg (by simp)]
      have e : loop c g μ i₀ = i := by rw [← hl]; exact loop_false hc
      refine done t h' tk' (by rw [e]; exact hp) ?_ N₂
      rw [e]; exact F₂
    | true =>
      rw [if_pos rfl]
      refine wpAny_mono (hbody i t h' tk' hp hc F₂ N₂) (fun f s₃ h₃ => ?_) fun _ _ e => e
      obtain ⟨rfl, h'', tk'', m', t', rfl, F₃, N₃, hx', hz⟩ := h₃
      have hg := hμ i hp hc
      refine ⟨h'', tk'', m', _, μ (g i), rfl, F₃, N₃, hg.1, rfl, g i, t', rfl, ?_, hg.2, ?_⟩
      · funext y
        by_cases hy : y = x
        · rw [if_pos hy, hy, hx']
        · rw [if_neg hy, hz y hy]
      · rw [← hl]; exact (loop_true hμ hp hc).symm
end
section
variable {prog : Program} {w : World} {A : Around} {E : Value → Shared → Prop} {Q : Flow → Shared → Prop} {s : Shared} {env : Env} {h₀ : Heap} {L : Addr} {news : Led}
theorem while_view {test : PySem.Expr} {body : List Stmt} {pos : Pos} {m₀ : Str → Option Value} {v : Addr} {b : Int} {xs : List Int} (V : ViewAt w news v b xs) (x : Str) (c : List Int → Nat → Bool) (g μ : List Int → Nat → Nat) (hμ : Falls c g μ) {i₀ : Nat} {t₀ : Tok}
    (F : Fr h₀ L s.heap m₀) (N : News h₀ L s.heap news) (hx : m₀ x = some (.int (b + (i₀ : Nat)) t₀))
    (htest : ∀ (i : Nat) t h tk, Fr h₀ L h (fun y => if y = x then some (.int (b + (i : Nat)) t) else m₀ y) → News h₀ L h news →
      wpAny (model prog w) A (isTrue test env (eval test env)) (TEnd s h₀ L (fun y => if y = x then some (.int (b + (i : Nat)) t) else m₀ y) news (c xs i)) E { s with heap := h, toks := tk })
    (hbody : ∀ (i : Nat) t h tk, c xs i = true → Fr h₀ L h (fun y => if y = x then some (.int (b + (i : Nat)) t) else m₀ y) → News h₀ L h news →
      wpAny (model prog w) A (execs body env) (BEnd s h₀ L m₀ x b (g xs i) news) E { s with heap := h, toks := tk })
    (done : ∀ t h tk, Fr h₀ L h (fun y => if y = x then some (.int (b + (run c g μ xs i₀ : Nat)) t) else m₀ y) → News h₀ L h news → Q .next { s with heap := h, toks := tk })
    (hE : PassesOwn (model prog w) A env E := by passes_own) : wpAny (model prog w) A (exec (.While test body [] pos) env) Q E s :=
  while_at x (fun _ => True) (hμ.at xs) F N hx trivial (fun i t h tk _ F' N' => htest i t h tk F' N') (fun i t h tk _ hc F' N' => hbody i t h tk hc F' N') (fun t h tk _ F' N' => done t h tk F' N') hE
end
theorem place_pred {b : Int} {j : Nat} (h : 0 < j) : b + (j : Nat) - 1 = b + ((j - 1 : Nat) : Int) := by omega
theorem place_succ {b : Int} {j : Nat} : b + (j : Nat) + 1 = b + ((j + 1 : Nat) : Int) := by omega
theorem place_zero {b : Int} : b = b + ((0 : Nat) : Int) := by omega
theorem place_all {b : Int} {xs : List Int} : b + (xs.length : Int) = b + ((xs.length : Nat) : Int) := rfl
section
variable {prog : Program} {w : World} {A : Around} {E : Value → Shared → Prop} {s : Shared} {h₀ : Heap} {L c : Addr} {news : Led} {vs : List Value} {ns : List Int} {n : Nat}
theorem my_list (N : News h₀ L s.heap news) (hm : (c, PySem.W.listOf vs.toArray n) ∈ news) : s.heap.IsList c vs.toArray := ⟨_, (N _ hm).1, rfl, n, rfl⟩
theorem my_len {Q : Value → Shared → Prop} (N : News h₀ L s.heap news) (hm : (c, PySem.W.listOf vs.toArray n) ∈ news) (hi : IntsAre vs ns) (hfit : ns.length < 2 ^ 62)
    (h : Q (.int ns.length (s.toks + 1)) { s with toks := s.toks + 1 + 1 }) : wpAny (model prog w) A (call (.builtin "len") [.ref c]) Q E s := by
  have e : (List.toArray vs).size = ns.length := by rw [List.size_toArray]; exact hi.length
  exact call_len_list (my_list N hm) (by rw [e]; omega) (by rw [e]; exact h)
theorem my_item {value slice : PySem.Expr} {k : Int} {u : Tok} {Q : Value → Shared → Prop} (N : News h₀ L s.heap news) (hm : (c, PySem.W.listOf vs.toArray n) ∈ news) (hi : IntsAre vs ns)
    (h0 : 0 ≤ k) (h1 : k < ns.length) (hfit : ns.length < 2 ^ 62) (h : ∀ t, Q (.int (ns.getD k.toNat 0) t) s)
    (hs : subscripted slice false (.ref c) (.int k u) = operate [.ref c, .int k u] (getItem (.ref c) (.int k u)) := by with_unfolding_all rfl) :
    wpAny (model prog w) A (subscriptTail value slice (.ref c) (.int k u)) Q E s := by
  have hl := my_list N hm
  have hk : k.toNat < ns.length := by omega
  obtain ⟨t, ht⟩ := hi.get k.toNat (ns.getD k.toNat 0) (by rw [List.getD_eq_getElem?_getD, List.getElem?_eq_getElem hk]; rfl)
  exact tail_any hl.typeIs slot_list_getitem.lookup (wpAny_getItem_list hl h0 (by omega) (by simpa using ht) (h t)) hs
end
theorem co_in {xs : List Int} {b p : Int} {i : Nat} (hp : p = b + (i : Nat)) (h : p < b + xs.length) : xs.getD (p - b).toNat 0 = co xs i := by
  have e : (p - b).toNat = i := by omega
  have hi : i < xs.length := by omega
  rw [e, co, List.getD_eq_getElem?_getD, List.getD_eq_getElem?_getD, List.getElem?_eq_getElem hi]; rfl
theorem co_out {xs : List Int} {b p : Int} {i : Nat} (hp : p = b + (i : Nat)) (h : ¬ p < b + xs.length) : (-1 : Int) = co xs i := by
  have hi : xs.length ≤ i := by omega
  rw [co, List.getD_eq_getElem?_getD, List.getElem?_eq_none hi]; rfl
variable {w : World} {mean : ExcName → Option Value} {mg mb : Str → Option Value} {news : Led} {v : Addr} {b : Int} {xs : List Int}
theorem fill0 : (hd.heap_39, PySem.Challenge.rw_np0017_01) = (hd.heap_39, PySem.Challenge.rw_np0017_01) := by
  k_fill
  rfl
local macro_rules | `(tactic| k_mem) => `(tactic| assumption)
theorem con_begin (V : ViewAt w news v b xs) : Con w mean mg mb 135 1 news [.ref v] (PInt news b) := by
  k_with_none
  k_with "call builtin:len" => (k_here; (with_reducible show wpAny _ _ (call (Value.builtin "len") [Value.ref _]) _ _ _); refine my_len (by assumption) (by assumption) (by assumption) (by omega) ?_)
  k_with "subscriptTail" => (k_here; (with_reducible show wpAny _ _ (subscriptTail _ _ (Value.ref _) (Value.int _ _)) _ _ _); (refine my_item (by assumption) (by assumption) (by assumption) (by omega) (by omega) (by omega) ?_); intro _)
  obtain ⟨d, c, t1, t2, t3, n, vs, h1, h2, h3, hi⟩ := V.at'
  unfold Con
  intro dp un gd cn cs a ccd cl outer A₀ base h₀ L m s Q E B F X N T hk hdp hun hret
  refine wpAny_call ?_
  k_dflt cell_enter
  k_steps
  all_goals exact end_int hret (by k_asm) (by k_asm) rfl
theorem con_end (V : ViewAt w news v b xs) : Con w mean mg mb 142 1 news [.ref v] (PInt news (b + xs.length)) := by
  k_with_none
  k_with "call builtin:len" => (k_here; (with_reducible show wpAny _ _ (call (Value.builtin "len") [Value.ref _]) _ _ _); refine my_len (by assumption) (by assumption) (by assumption) (by omega) ?_)
  k_with "subscriptTail" => (k_here; (with_reducible show wpAny _ _ (subscriptTail _ _ (Value.ref _) (Value.int _ _)) _ _ _); (refine my_item (by assumption) (by assumption) (by assumption) (by omega) (by omega) (by omega) ?_); intro _)
  have hfit := V.fit
  obtain ⟨d, c, t1, t2, t3, n, vs, h1, h2, h3, hi⟩ := V.at'
  unfold Con
  intro dp un gd cn cs a ccd cl outer A₀ base h₀ L m s Q E B F X N T hk hdp hun hret
  refine wpAny_call ?_
  k_dflt cell_enter
  k_steps
  all_goals exact end_int hret (by k_asm) (by k_asm) rfl
theorem con_code {p : Int} {i : Nat} {u : Tok} (V : ViewAt w news v b xs) (hp : p = b + (i : Nat)) : Con w mean mg mb 149 1 news [.ref v, .int p u] (PInt news (co xs i)) := by
  k_with_none
  k_with "call builtin:len" => (k_here; (with_reducible show wpAny _ _ (call (Value.builtin "len") [Value.ref _]) _ _ _); refine my_len (by assumption) (by assumption) (by assumption) (by omega) ?_)
  k_with "subscriptTail" => (k_here; (with_reducible show wpAny _ _ (subscriptTail _ _ (Value.ref _) (Value.int _ _)) _ _ _); (refine my_item (by assumption) (by assumption) (by assumption) (by omega) (by omega) (by omega) ?_); intro _)
  have hfit := V.fit
  obtain ⟨d, c, t1, t2, t3, n, vs, h1, h2, h3, hi⟩ := V.at'
  unfold Con
  intro dp un gd cn cs a ccd cl outer A₀ base h₀ L m s Q E B F X N T hk hdp hun hret
  refine wpAny_call ?_
  k_dflt cell_enter
  k_steps
  all_goals refine end_int hret (by k_asm) (by k_asm) ?_
  all_goals first | exact co_in hp (by assumption) | exact co_out hp (by assumption) | (exfalso; omega)
end
/-! part V3 -/
section
variable {w : World} {mean : ExcName → Option Value} {mg mb : Str → Option Value} {news : Led} {v : Addr} {b : Int} {xs : List Int}
theorem fill3 : (hd.heap_39, PySem.Challenge.rw_np0017_01) = (hd.heap_39, PySem.Challenge.rw_np0017_01) := by
  k_fill
  rfl
local macro_rules | `(tactic| k_mem) => `(tactic| assumption)
theorem con_line_start {p : Int} {i : Nat} {u : Tok} (V : ViewAt w news v b xs) (hp : p = b + (i : Nat)) : Con w mean mg mb 21 2 news [.ref v, .int p u] (PInt news (b + (lstart xs i : Nat))) := by
  k_with_none
  k_with "call ref" => (k_here; k_dflt (refine' use_int (con_begin ?zqa0) ?zqk1 ?zqk2 ?zqk3 ?zqk4 ?zqk5 ?zqkK ?zqkd ?zqku ?_; (case zqa0 => assumption); (case zqk1 => k_asm); (case zqk2 => k_asm); (case zqk3 => k_asm); (case zqk4 => k_asm); (case zqk5 => k_asm); (case zqkK => first | exact rfl | assumption); (case zqkd => first | exact room_le hdp (by decide) | ktr_room); (case zqku => first | exact units_le hun (by decide) | ktr_units); k_whole; intro t' h' tk' F' N'; (try k_sweep)))
  k_with "call ref" => (k_here; k_dflt (refine' use_int (con_end ?zqa0) ?zqk1 ?zqk2 ?zqk3 ?zqk4 ?zqk5 ?zqkK ?zqkd ?zqku ?_; (case zqa0 => assumption); (case zqk1 => k_asm); (case zqk2 => k_asm); (case zqk3 => k_asm); (case zqk4 => k_asm); (case zqk5 => k_asm); (case zqkK => first | exact rfl | assumption); (case zqkd => first | exact room_le hdp (by decide) | ktr_room); (case zqku => first | exact units_le hun (by decide) | ktr_units); k_whole; intro t' h' tk' F' N'; (try k_sweep)))
  k_with "call ref" => (k_here; k_dflt (refine' use_int (con_code ?zqa0 ?zqa1) ?zqk1 ?zqk2 ?zqk3 ?zqk4 ?zqk5 ?zqkK ?zqkd ?zqku ?_; (case zqa0 => assumption); (case zqa1 => (first | exact rfl | exact place_zero | exact place_pred (by omega) | exact place_succ)); (case zqk1 => k_asm); (case zqk2 => k_asm); (case zqk3 => k_asm); (case zqk4 => k_asm); (case zqk5 => k_asm); (case zqkK => first | exact rfl | assumption); (case zqkd => first | exact room_le hdp (by decide) | ktr_room); (case zqku => first | exact units_le hun (by decide) | ktr_units); k_whole; intro t' h' tk' F' N'; (try k_sweep)))
  k_with "exec While BoolOp cons nil" => (k_here; k_dflt (refine' while_view ?zqV (Str.ofString "at") cS gP mI cS_falls ?zqF ?zqN ?zqhx ?zqht ?zqhb ?zqdone ?zqhE; (case zqV => assumption); (case zqF => k_asm); (case zqN => k_asm); (case zqhx => exact rfl); (case zqhE => passes_own); (case' zqht => (intro i' t' h' tk' F' N'; try k_sweep)); (case' zqhb => (intro i' t' h' tk' hc' F' N'; try k_sweep)); (case' zqdone => (intro t' h' tk' F' N'; try k_sweep))))
  subst hp
  have V₀ := V
  have hpos := V₀.pos
  obtain ⟨d, c, t1, t2, t3, n, vs, h1, h2, h3, hi⟩ := V₀.at'
  clear V₀
  unfold Con
  intro dp un gd cn cs a ccd cl outer A₀ base h₀ L m s Q E B F X N T hk hdp hun hret
  refine wpAny_call ?_
  k_dflt cell_enter
  k_steps
  all_goals first
    | (refine tend (by k_asm) (by k_asm) ?_; k_unmd; grind [cS])
    | (refine bend (by k_asm) (by k_asm) rfl (fun z hz => (if_neg hz).trans (if_neg hz)) ?_; k_unmd; grind [cS, gP])
    | (refine end_int hret (by k_asm) (by k_asm) ?_; k_unmd; rfl)
    | (refine end_bool hret (by k_asm) (by k_asm) ?_; k_unmd; rfl)
theorem con_line_end {p : Int} {i : Nat} {u : Tok} (V : ViewAt w news v b xs) (hp : p = b + (i : Nat)) : Con w mean mg mb 28 2 news [.ref v, .int p u] (PInt news (b + (lend xs i : Nat))) := by
  k_with_none
  k_with "call ref" => (k_here; k_dflt (refine' use_int (con_begin ?zqa0) ?zqk1 ?zqk2 ?zqk3 ?zqk4 ?zqk5 ?zqkK ?zqkd ?zqku ?_; (case zqa0 => assumption); (case zqk1 => k_asm); (case zqk2 => k_asm); (case zqk3 => k_asm); (case zqk4 => k_asm); (case zqk5 => k_asm); (case zqkK => first | exact rfl | assumption); (case zqkd => first | exact room_le hdp (by decide) | ktr_room); (case zqku => first | exact units_le hun (by decide) | ktr_units); k_whole; intro t' h' tk' F' N'; (try k_sweep)))
  k_with "call ref" => (k_here; k_dflt (refine' use_int (con_end ?zqa0) ?zqk1 ?zqk2 ?zqk3 ?zqk4 ?zqk5 ?zqkK ?zqkd ?zqku ?_; (case zqa0 => assumption); (case zqk1 => k_asm); (case zqk2 => k_asm); (case zqk3 => k_asm); (case zqk4 => k_asm); (case zqk5 => k_asm); (case zqkK => first | exact rfl | assumption); (case zqkd => first | exact room_le hdp (by decide) | ktr_room); (case zqku => first | exact units_le hun (by decide) | ktr_units); k_whole; intro t' h' tk' F' N'; (try k_sweep)))
  k_with "call ref" => (k_here; k_dflt (refine' use_int (con_code ?zqa0 ?zqa1) ?zqk1 ?zqk2 ?zqk3 ?zqk4 ?zqk5 ?zqkK ?zqkd ?zqku ?_; (case zqa0 => assumption); (case zqa1 => (first | exact rfl | exact place_zero | exact place_pred (by omega) | exact place_succ)); (case zqk1 => k_asm); (case zqk2 => k_asm); (case zqk3 => k_asm); (case zqk4 => k_asm); (case zqk5 => k_asm); (case zqkK => first | exact rfl | assumption); (case zqkd => first | exact room_le hdp (by decide) | ktr_room); (case zqku => first | exact units_le hun (by decide) | ktr_units); k_whole; intro t' h' tk' F' N'; (try k_sweep)))
  k_with "exec While BoolOp cons nil" => (k_here; k_dflt (refine' while_view ?zqV (Str.ofString "at") cS gP mI cS_falls ?zqF ?zqN ?zqhx ?zqht ?zqhb ?zqdone ?zqhE; (case zqV => assumption); (case zqF => k_asm); (case zqN => k_asm); (case zqhx => exact rfl); (case zqhE => passes_own); (case' zqht => (intro i' t' h' tk' F' N'; try k_sweep)); (case' zqhb => (intro i' t' h' tk' hc' F' N'; try k_sweep)); (case' zqdone => (intro t' h' tk' F' N'; try k_sweep))))
  k_with "call ref" => (k_here; k_dflt (refine' use_int (con_line_start ?zqa0 ?zqa1) ?zqk1 ?zqk2 ?zqk3 ?zqk4 ?zqk5 ?zqkK ?zqkd ?zqku ?_; (case zqa0 => assumption); (case zqa1 => (first | exact rfl | exact place_zero | exact place_pred (by omega) | exact place_succ)); (case zqk1 => k_asm); (case zqk2 => k_asm); (case zqk3 => k_asm); (case zqk4 => k_asm); (case zqk5 => k_asm); (case zqkK => first | exact rfl | assumption); (case zqkd => first | exact room_le hdp (by decide) | ktr_room); (case zqku => first | exact units_le hun (by decide) | ktr_units); k_whole; intro t' h' tk' F' N'; (try k_sweep)))
  k_with "exec While BoolOp cons nil" => (k_here; k_dflt (refine' while_view ?zqV (Str.ofString "at") cE gS mN cE_falls ?zqF ?zqN ?zqhx ?zqht ?zqhb ?zqdone ?zqhE; (case zqV => assumption); (case zqF => k_asm); (case zqN => k_asm); (case zqhx => exact rfl); (case zqhE => passes_own); (case' zqht => (intro i' t' h' tk' F' N'; try k_sweep)); (case' zqhb => (intro i' t' h' tk' hc' F' N'; try k_sweep)); (case' zqdone => (intro t' h' tk' F' N'; try k_sweep))))
  subst hp
  have V₀ := V
  have hpos := V₀.pos
  obtain ⟨d, c, t1, t2, t3, n, vs, h1, h2, h3, hi⟩ := V₀.at'
  clear V₀
  unfold Con
  intro dp un gd cn cs a ccd cl outer A₀ base h₀ L m s Q E B F X N T hk hdp hun hret
  refine wpAny_call ?_
  k_dflt cell_enter
  k_steps
  all_goals first
    | (refine tend (by k_asm) (by k_asm) ?_; k_unmd; grind [cE])
    | (refine bend (by k_asm) (by k_asm) rfl (fun z hz => (if_neg hz).trans (if_neg hz)) ?_; k_unmd; grind [cE, gS])
    | (refine end_int hret (by k_asm) (by k_asm) ?_; k_unmd; rfl)
    | (refine end_bool hret (by k_asm) (by k_asm) ?_; k_unmd; rfl)
theorem con_next_start {p : Int} {i : Nat} {u : Tok} (V : ViewAt w news v b xs) (hp : p = b + (i : Nat)) : Con w mean mg mb 35 3 news [.ref v, .int p u] (PInt news (nstart xs b i)) := by
  k_with_none
  k_with "call ref" => (k_here; k_dflt (refine' use_int (con_begin ?zqa0) ?zqk1 ?zqk2 ?zqk3 ?zqk4 ?zqk5 ?zqkK ?zqkd ?zqku ?_; (case zqa0 => assumption); (case zqk1 => k_asm); (case zqk2 => k_asm); (case zqk3 => k_asm); (case zqk4 => k_asm); (case zqk5 => k_asm); (case zqkK => first | exact rfl | assumption); (case zqkd => first | exact room_le hdp (by decide) | ktr_room); (case zqku => first | exact units_le hun (by decide) | ktr_units); k_whole; intro t' h' tk' F' N'; (try k_sweep)))
  k_with "call ref" => (k_here; k_dflt (refine' use_int (con_end ?zqa0) ?zqk1 ?zqk2 ?zqk3 ?zqk4 ?zqk5 ?zqkK ?zqkd ?zqku ?_; (case zqa0 => assumption); (case zqk1 => k_asm); (case zqk2 => k_asm); (case zqk3 => k_asm); (case zqk4 => k_asm); (case zqk5 => k_asm); (case zqkK => first | exact rfl | assumption); (case zqkd => first | exact room_le hdp (by decide) | ktr_room); (case zqku => first | exact units_le hun (by decide) | ktr_units); k_whole; intro t' h' tk' F' N'; (try k_sweep)))
  k_with "call ref" => (k_here; k_dflt (refine' use_int (con_code ?zqa0 ?zqa1) ?zqk1 ?zqk2 ?zqk3 ?zqk4 ?zqk5 ?zqkK ?zqkd ?zqku ?_; (case zqa0 => assumption); (case zqa1 => (first | exact rfl | exact place_zero | exact place_pred (by omega) | exact place_succ)); (case zqk1 => k_asm); (case zqk2 => k_asm); (case zqk3 => k_asm); (case zqk4 => k_asm); (case zqk5 => k_asm); (case zqkK => first | exact rfl | assumption); (case zqkd => first | exact room_le hdp (by decide) | ktr_room); (case zqku => first | exact units_le hun (by decide) | ktr_units); k_whole; intro t' h' tk' F' N'; (try k_sweep)))
  k_with "exec While BoolOp cons nil" => (k_here; k_dflt (refine' while_view ?zqV (Str.ofString "at") cS gP mI cS_falls ?zqF ?zqN ?zqhx ?zqht ?zqhb ?zqdone ?zqhE; (case zqV => assumption); (case zqF => k_asm); (case zqN => k_asm); (case zqhx => exact rfl); (case zqhE => passes_own); (case' zqht => (intro i' t' h' tk' F' N'; try k_sweep)); (case' zqhb => (intro i' t' h' tk' hc' F' N'; try k_sweep)); (case' zqdone => (intro t' h' tk' F' N'; try k_sweep))))
  k_with "call ref" => (k_here; k_dflt (refine' use_int (con_line_start ?zqa0 ?zqa1) ?zqk1 ?zqk2 ?zqk3 ?zqk4 ?zqk5 ?zqkK ?zqkd ?zqku ?_; (case zqa0 => assumption); (case zqa1 => (first | exact rfl | exact place_zero | exact place_pred (by omega) | exact place_succ)); (case zqk1 => k_asm); (case zqk2 => k_asm); (case zqk3 => k_asm); (case zqk4 => k_asm); (case zqk5 => k_asm); (case zqkK => first | exact rfl | assumption); (case zqkd => first | exact room_le hdp (by decide) | ktr_room); (case zqku => first | exact units_le hun (by decide) | ktr_units); k_whole; intro t' h' tk' F' N'; (try k_sweep)))
  k_with "exec While BoolOp cons nil" => (k_here; k_dflt (refine' while_view ?zqV (Str.ofString "at") cE gS mN cE_falls ?zqF ?zqN ?zqhx ?zqht ?zqhb ?zqdone ?zqhE; (case zqV => assumption); (case zqF => k_asm); (case zqN => k_asm); (case zqhx => exact rfl); (case zqhE => passes_own); (case' zqht => (intro i' t' h' tk' F' N'; try k_sweep)); (case' zqhb => (intro i' t' h' tk' hc' F' N'; try k_sweep)); (case' zqdone => (intro t' h' tk' F' N'; try k_sweep))))
  k_with "call ref" => (k_here; k_dflt (refine' use_int (con_line_end ?zqa0 ?zqa1) ?zqk1 ?zqk2 ?zqk3 ?zqk4 ?zqk5 ?zqkK ?zqkd ?zqku ?_; (case zqa0 => assumption); (case zqa1 => (first | exact rfl | exact place_zero | exact place_pred (by omega) | exact place_succ)); (case zqk1 => k_asm); (case zqk2 => k_asm); (case zqk3 => k_asm); (case zqk4 => k_asm); (case zqk5 => k_asm); (case zqkK => first | exact rfl | assumption); (case zqkd => first | exact room_le hdp (by decide) | ktr_room); (case zqku => first | exact units_le hun (by decide) | ktr_units); k_whole; intro t' h' tk' F' N'; (try k_sweep)))
  subst hp
  have V₀ := V
  have hpos := V₀.pos
  obtain ⟨d, c, t1, t2, t3, n, vs, h1, h2, h3, hi⟩ := V₀.at'
  clear V₀
  unfold Con
  intro dp un gd cn cs a ccd cl outer A₀ base h₀ L m s Q E B F X N T hk hdp hun hret
  refine wpAny_call ?_
  k_dflt cell_enter
  k_steps
  all_goals first
    | (refine tend (by k_asm) (by k_asm) ?_; k_unmd; skip)
    | (refine bend (by k_asm) (by k_asm) rfl (fun z hz => (if_neg hz).trans (if_neg hz)) ?_; k_unmd; skip)
    | (refine end_int hret (by k_asm) (by k_asm) ?_; k_unmd; grind [nstart])
    | (refine end_bool hret (by k_asm) (by k_asm) ?_; k_unmd; grind [nstart])
theorem con_is_line_end {p : Int} {i : Nat} {u : Tok} (V : ViewAt w news v b xs) (hp : p = b + (i : Nat)) : Con w mean mg mb 42 2 news [.ref v, .int p u] (PBool news (isEnd xs i)) := by
  k_with_none
  k_with "call ref" => (k_here; k_dflt (refine' use_int (con_begin ?zqa0) ?zqk1 ?zqk2 ?zqk3 ?zqk4 ?zqk5 ?zqkK ?zqkd ?zqku ?_; (case zqa0 => assumption); (case zqk1 => k_asm); (case zqk2 => k_asm); (case zqk3 => k_asm); (case zqk4 => k_asm); (case zqk5 => k_asm); (case zqkK => first | exact rfl | assumption); (case zqkd => first | exact room_le hdp (by decide) | ktr_room); (case zqku => first | exact units_le hun (by decide) | ktr_units); k_whole; intro t' h' tk' F' N'; (try k_sweep)))
  k_with "call ref" => (k_here; k_dflt (refine' use_int (con_end ?zqa0) ?zqk1 ?zqk2 ?zqk3 ?zqk4 ?zqk5 ?zqkK ?zqkd ?zqku ?_; (case zqa0 => assumption); (case zqk1 => k_asm); (case zqk2 => k_asm); (case zqk3 => k_asm); (case zqk4 => k_asm); (case zqk5 => k_asm); (case zqkK => first | exact rfl | assumption); (case zqkd => first | exact room_le hdp (by decide) | ktr_room); (case zqku => first | exact units_le hun (by decide) | ktr_units); k_whole; intro t' h' tk' F' N'; (try k_sweep)))
  k_with "call ref" => (k_here; k_dflt (refine' use_int (con_code ?zqa0 ?zqa1) ?zqk1 ?zqk2 ?zqk3 ?zqk4 ?zqk5 ?zqkK ?zqkd ?zqku ?_; (case zqa0 => assumption); (case zqa1 => (first | exact rfl | exact place_zero | exact place_pred (by omega) | exact place_succ)); (case zqk1 => k_asm); (case zqk2 => k_asm); (case zqk3 => k_asm); (case zqk4 => k_asm); (case zqk5 => k_asm); (case zqkK => first | exact rfl | assumption); (case zqkd => first | exact room_le hdp (by decide) | ktr_room); (case zqku => first | exact units_le hun (by decide) | ktr_units); k_whole; intro t' h' tk' F' N'; (try k_sweep)))
  k_with "exec While BoolOp cons nil" => (k_here; k_dflt (refine' while_view ?zqV (Str.ofString "at") cS gP mI cS_falls ?zqF ?zqN ?zqhx ?zqht ?zqhb ?zqdone ?zqhE; (case zqV => assumption); (case zqF => k_asm); (case zqN => k_asm); (case zqhx => exact rfl); (case zqhE => passes_own); (case' zqht => (intro i' t' h' tk' F' N'; try k_sweep)); (case' zqhb => (intro i' t' h' tk' hc' F' N'; try k_sweep)); (case' zqdone => (intro t' h' tk' F' N'; try k_sweep))))
  k_with "call ref" => (k_here; k_dflt (refine' use_int (con_line_start ?zqa0 ?zqa1) ?zqk1 ?zqk2 ?zqk3 ?zqk4 ?zqk5 ?zqkK ?zqkd ?zqku ?_; (case zqa0 => assumption); (case zqa1 => (first | exact rfl | exact place_zero | exact place_pred (by omega) | exact place_succ)); (case zqk1 => k_asm); (case zqk2 => k_asm); (case zqk3 => k_asm); (case zqk4 => k_asm); (case zqk5 => k_asm); (case zqkK => first | exact rfl | assumption); (case zqkd => first | exact room_le hdp (by decide) | ktr_room); (case zqku => first | exact units_le hun (by decide) | ktr_units); k_whole; intro t' h' tk' F' N'; (try k_sweep)))
  k_with "exec While BoolOp cons nil" => (k_here; k_dflt (refine' while_view ?zqV (Str.ofString "at") cE gS mN cE_falls ?zqF ?zqN ?zqhx ?zqht ?zqhb ?zqdone ?zqhE; (case zqV => assumption); (case zqF => k_asm); (case zqN => k_asm); (case zqhx => exact rfl); (case zqhE => passes_own); (case' zqht => (intro i' t' h' tk' F' N'; try k_sweep)); (case' zqhb => (intro i' t' h' tk' hc' F' N'; try k_sweep)); (case' zqdone => (intro t' h' tk' F' N'; try k_sweep))))
  k_with "call ref" => (k_here; k_dflt (refine' use_int (con_line_end ?zqa0 ?zqa1) ?zqk1 ?zqk2 ?zqk3 ?zqk4 ?zqk5 ?zqkK ?zqkd ?zqku ?_; (case zqa0 => assumption); (case zqa1 => (first | exact rfl | exact place_zero | exact place_pred (by omega) | exact place_succ)); (case zqk1 => k_asm); (case zqk2 => k_asm); (case zqk3 => k_asm); (case zqk4 => k_asm); (case zqk5 => k_asm); (case zqkK => first | exact rfl | assumption); (case zqkd => first | exact room_le hdp (by decide) | ktr_room); (case zqku => first | exact units_le hun (by decide) | ktr_units); k_whole; intro t' h' tk' F' N'; (try k_sweep)))
  subst hp
  have V₀ := V
  have hpos := V₀.pos
  obtain ⟨d, c, t1, t2, t3, n, vs, h1, h2, h3, hi⟩ := V₀.at'
  clear V₀
  unfold Con
  intro dp un gd cn cs a ccd cl outer A₀ base h₀ L m s Q E B F X N T hk hdp hun hret
  refine wpAny_call ?_
  k_dflt cell_enter
  k_steps
  all_goals first
    | (refine tend (by k_asm) (by k_asm) ?_; k_unmd; skip)
    | (refine bend (by k_asm) (by k_asm) rfl (fun z hz => (if_neg hz).trans (if_neg hz)) ?_; k_unmd; skip)
    | (refine end_int hret (by k_asm) (by k_asm) ?_; k_unmd; grind [isEnd])
    | (refine end_bool hret (by k_asm) (by k_asm) ?_; k_unmd; grind [isEnd])
end
/-! part V4 -/
section
variable {w : World} {mean : ExcName → Option Value} {mg mb : Str → Option Value} {news : Led} {v : Addr} {b : Int} {xs : List Int}
theorem fill4 : (hd.heap_39, PySem.Challenge.rw_np0017_01) = (hd.heap_39, PySem.Challenge.rw_np0017_01) := by
  k_fill
  rfl
local macro_rules | `(tactic| k_mem) => `(tactic| assumption)
theorem in_parting {h₀ : Heap} {L : Addr} {m : Str → Option Value} {A : Around} {E Q : Value → Shared → Prop} {s : Shared} {x : Int} {u : Tok} (F : Fr h₀ L s.heap m) (X : (hd.heap_39 w.params).In h₀)
    (hl : (hd.heap_39 w.params).lookup 43 = some ⟨.type "tuple", none, .seq [Value.int 32 191, Value.int 9 193, Value.int 12 232].toArray 0, #[]⟩)
    (h : Q (.bool (blank x)) s) : wpAny (model PR w) A (compareOp .In (.int x u) (.ref 43)) Q E s := by
  refine in_tuple_ints (ns := [32, 9, 12]) (tupK (X.keeps F.keep) hl) (.cons _ _ (.cons _ _ (.cons _ _ .nil))) ?_
  rw [show ([32, 9, 12] : List Int).any (fun y => y == x) = blank x from by simp only [List.any_cons, List.any_nil, blank]; grind]
  exact h
theorem con_parts {p : Int} {i : Nat} {u : Tok} (V : ViewAt w news v b xs) (hp : p = b + (i : Nat)) : Con w mean mg mb 50 4 news [.ref v, .int p u] (PBool news (parts xs i)) := by
  k_with_none
  k_with "call ref" => (k_here; k_dflt (refine' use_int (con_begin ?zqa0) ?zqk1 ?zqk2 ?zqk3 ?zqk4 ?zqk5 ?zqkK ?zqkd ?zqku ?_; (case zqa0 => assumption); (case zqk1 => k_asm); (case zqk2 => k_asm); (case zqk3 => k_asm); (case zqk4 => k_asm); (case zqk5 => k_asm); (case zqkK => first | exact rfl | assumption); (case zqkd => first | exact room_le hdp (by decide) | ktr_room); (case zqku => first | exact units_le hun (by decide) | ktr_units); k_whole; intro t' h' tk' F' N'; (try k_sweep)))
  k_with "call ref" => (k_here; k_dflt (refine' use_int (con_end ?zqa0) ?zqk1 ?zqk2 ?zqk3 ?zqk4 ?zqk5 ?zqkK ?zqkd ?zqku ?_; (case zqa0 => assumption); (case zqk1 => k_asm); (case zqk2 => k_asm); (case zqk3 => k_asm); (case zqk4 => k_asm); (case zqk5 => k_asm); (case zqkK => first | exact rfl | assumption); (case zqkd => first | exact room_le hdp (by decide) | ktr_room); (case zqku => first | exact units_le hun (by decide) | ktr_units); k_whole; intro t' h' tk' F' N'; (try k_sweep)))
  k_with "call ref" => (k_here; k_dflt (refine' use_int (con_code ?zqa0 ?zqa1) ?zqk1 ?zqk2 ?zqk3 ?zqk4 ?zqk5 ?zqkK ?zqkd ?zqku ?_; (case zqa0 => assumption); (case zqa1 => (first | exact rfl | exact place_zero | exact place_pred (by omega) | exact place_succ)); (case zqk1 => k_asm); (case zqk2 => k_asm); (case zqk3 => k_asm); (case zqk4 => k_asm); (case zqk5 => k_asm); (case zqkK => first | exact rfl | assumption); (case zqkd => first | exact room_le hdp (by decide) | ktr_room); (case zqku => first | exact units_le hun (by decide) | ktr_units); k_whole; intro t' h' tk' F' N'; (try k_sweep)))
  k_with "call ref" => (k_here; k_dflt (refine' use_int (con_line_start ?zqa0 ?zqa1) ?zqk1 ?zqk2 ?zqk3 ?zqk4 ?zqk5 ?zqkK ?zqkd ?zqku ?_; (case zqa0 => assumption); (case zqa1 => (first | exact rfl | exact place_zero | exact place_pred (by omega) | exact place_succ)); (case zqk1 => k_asm); (case zqk2 => k_asm); (case zqk3 => k_asm); (case zqk4 => k_asm); (case zqk5 => k_asm); (case zqkK => first | exact rfl | assumption); (case zqkd => first | exact room_le hdp (by decide) | ktr_room); (case zqku => first | exact units_le hun (by decide) | ktr_units); k_whole; intro t' h' tk' F' N'; (try k_sweep)))
  k_with "call ref" => (k_here; k_dflt (refine' use_int (con_line_end ?zqa0 ?zqa1) ?zqk1 ?zqk2 ?zqk3 ?zqk4 ?zqk5 ?zqkK ?zqkd ?zqku ?_; (case zqa0 => assumption); (case zqa1 => (first | exact rfl | exact place_zero | exact place_pred (by omega) | exact place_succ)); (case zqk1 => k_asm); (case zqk2 => k_asm); (case zqk3 => k_asm); (case zqk4 => k_asm); (case zqk5 => k_asm); (case zqkK => first | exact rfl | assumption); (case zqkd => first | exact room_le hdp (by decide) | ktr_room); (case zqku => first | exact units_le hun (by decide) | ktr_units); k_whole; intro t' h' tk' F' N'; (try k_sweep)))
  k_with "call ref" => (k_here; k_dflt (refine' use_int (con_next_start ?zqa0 ?zqa1) ?zqk1 ?zqk2 ?zqk3 ?zqk4 ?zqk5 ?zqkK ?zqkd ?zqku ?_; (case zqa0 => assumption); (case zqa1 => (first | exact rfl | exact place_zero | exact place_pred (by omega) | exact place_succ)); (case zqk1 => k_asm); (case zqk2 => k_asm); (case zqk3 => k_asm); (case zqk4 => k_asm); (case zqk5 => k_asm); (case zqkK => first | exact rfl | assumption); (case zqkd => first | exact room_le hdp (by decide) | ktr_room); (case zqku => first | exact units_le hun (by decide) | ktr_units); k_whole; intro t' h' tk' F' N'; (try k_sweep)))
  k_with "call ref" => (k_here; k_dflt (refine' use_bool (con_is_line_end ?zqa0 ?zqa1) ?zqk1 ?zqk2 ?zqk3 ?zqk4 ?zqk5 ?zqkK ?zqkd ?zqku ?_; (case zqa0 => assumption); (case zqa1 => (first | exact rfl | exact place_zero | exact place_pred (by omega) | exact place_succ)); (case zqk1 => k_asm); (case zqk2 => k_asm); (case zqk3 => k_asm); (case zqk4 => k_asm); (case zqk5 => k_asm); (case zqkK => first | exact rfl | assumption); (case zqkd => first | exact room_le hdp (by decide) | ktr_room); (case zqku => first | exact units_le hun (by decide) | ktr_units); k_whole; intro h' tk' F' N'; (try k_sweep)))
  k_with "compareOp In int ref" => (k_here; k_dflt (refine' in_parting ?zqF ?zqX ?zql ?_; (case zqF => k_asm); (case zqX => k_asm); (case zql => k_is); k_whole))
  k_with "exec While BoolOp cons nil" => (k_here; k_dflt (refine' while_view ?zqV (Str.ofString "at") cB gS mN cB_falls ?zqF ?zqN ?zqhx ?zqht ?zqhb ?zqdone ?zqhE; (case zqV => assumption); (case zqF => k_asm); (case zqN => k_asm); (case zqhx => exact rfl); (case zqhE => passes_own); (case' zqht => (intro i' t' h' tk' F' N'; try k_sweep)); (case' zqhb => (intro i' t' h' tk' hc' F' N'; try k_sweep)); (case' zqdone => (intro t' h' tk' F' N'; try k_sweep))))
  subst hp
  have V₀ := V
  have hpos := V₀.pos
  obtain ⟨d, c, t1, t2, t3, n, vs, h1, h2, h3, hi⟩ := V₀.at'
  clear V₀
  unfold Con
  intro dp un gd cn cs a ccd cl outer A₀ base h₀ L m s Q E B F X N T hk hdp hun hret
  refine wpAny_call ?_
  k_dflt cell_enter
  k_steps
  all_goals first
    | (refine tend (by k_asm) (by k_asm) ?_; k_unmd; grind [cB, blank])
    | (refine bend (by k_asm) (by k_asm) rfl (fun z hz => (if_neg hz).trans (if_neg hz)) ?_; k_unmd; grind [gS])
    | (refine end_int hret (by k_asm) (by k_asm) ?_; k_unmd; rfl)
    | (refine end_bool hret (by k_asm) (by k_asm) ?_; k_unmd; rfl)
theorem con_begins {p : Int} {i : Nat} {u : Tok} (V : ViewAt w news v b xs) (hp : p = b + (i : Nat)) : Con w mean mg mb 57 5 news [.ref v, .int p u] (PBool news (begins xs i)) := by
  k_with_none
  k_with "call ref" => (k_here; k_dflt (refine' use_int (con_begin ?zqa0) ?zqk1 ?zqk2 ?zqk3 ?zqk4 ?zqk5 ?zqkK ?zqkd ?zqku ?_; (case zqa0 => assumption); (case zqk1 => k_asm); (case zqk2 => k_asm); (case zqk3 => k_asm); (case zqk4 => k_asm); (case zqk5 => k_asm); (case zqkK => first | exact rfl | assumption); (case zqkd => first | exact room_le hdp (by decide) | ktr_room); (case zqku => first | exact units_le hun (by decide) | ktr_units); k_whole; intro t' h' tk' F' N'; (try k_sweep)))
  k_with "call ref" => (k_here; k_dflt (refine' use_int (con_end ?zqa0) ?zqk1 ?zqk2 ?zqk3 ?zqk4 ?zqk5 ?zqkK ?zqkd ?zqku ?_; (case zqa0 => assumption); (case zqk1 => k_asm); (case zqk2 => k_asm); (case zqk3 => k_asm); (case zqk4 => k_asm); (case zqk5 => k_asm); (case zqkK => first | exact rfl | assumption); (case zqkd => first | exact room_le hdp (by decide) | ktr_room); (case zqku => first | exact units_le hun (by decide) | ktr_units); k_whole; intro t' h' tk' F' N'; (try k_sweep)))
  k_with "call ref" => (k_here; k_dflt (refine' use_int (con_code ?zqa0 ?zqa1) ?zqk1 ?zqk2 ?zqk3 ?zqk4 ?zqk5 ?zqkK ?zqkd ?zqku ?_; (case zqa0 => assumption); (case zqa1 => (first | exact rfl | exact place_zero | exact place_pred (by omega) | exact place_succ)); (case zqk1 => k_asm); (case zqk2 => k_asm); (case zqk3 => k_asm); (case zqk4 => k_asm); (case zqk5 => k_asm); (case zqkK => first | exact rfl | assumption); (case zqkd => first | exact room_le hdp (by decide) | ktr_room); (case zqku => first | exact units_le hun (by decide) | ktr_units); k_whole; intro t' h' tk' F' N'; (try k_sweep)))
  k_with "call ref" => (k_here; k_dflt (refine' use_int (con_line_start ?zqa0 ?zqa1) ?zqk1 ?zqk2 ?zqk3 ?zqk4 ?zqk5 ?zqkK ?zqkd ?zqku ?_; (case zqa0 => assumption); (case zqa1 => (first | exact rfl | exact place_zero | exact place_pred (by omega) | exact place_succ)); (case zqk1 => k_asm); (case zqk2 => k_asm); (case zqk3 => k_asm); (case zqk4 => k_asm); (case zqk5 => k_asm); (case zqkK => first | exact rfl | assumption); (case zqkd => first | exact room_le hdp (by decide) | ktr_room); (case zqku => first | exact units_le hun (by decide) | ktr_units); k_whole; intro t' h' tk' F' N'; (try k_sweep)))
  k_with "call ref" => (k_here; k_dflt (refine' use_int (con_line_end ?zqa0 ?zqa1) ?zqk1 ?zqk2 ?zqk3 ?zqk4 ?zqk5 ?zqkK ?zqkd ?zqku ?_; (case zqa0 => assumption); (case zqa1 => (first | exact rfl | exact place_zero | exact place_pred (by omega) | exact place_succ)); (case zqk1 => k_asm); (case zqk2 => k_asm); (case zqk3 => k_asm); (case zqk4 => k_asm); (case zqk5 => k_asm); (case zqkK => first | exact rfl | assumption); (case zqkd => first | exact room_le hdp (by decide) | ktr_room); (case zqku => first | exact units_le hun (by decide) | ktr_units); k_whole; intro t' h' tk' F' N'; (try k_sweep)))
  k_with "call ref" => (k_here; k_dflt (refine' use_int (con_next_start ?zqa0 ?zqa1) ?zqk1 ?zqk2 ?zqk3 ?zqk4 ?zqk5 ?zqkK ?zqkd ?zqku ?_; (case zqa0 => assumption); (case zqa1 => (first | exact rfl | exact place_zero | exact place_pred (by omega) | exact place_succ)); (case zqk1 => k_asm); (case zqk2 => k_asm); (case zqk3 => k_asm); (case zqk4 => k_asm); (case zqk5 => k_asm); (case zqkK => first | exact rfl | assumption); (case zqkd => first | exact room_le hdp (by decide) | ktr_room); (case zqku => first | exact units_le hun (by decide) | ktr_units); k_whole; intro t' h' tk' F' N'; (try k_sweep)))
  k_with "call ref" => (k_here; k_dflt (refine' use_bool (con_is_line_end ?zqa0 ?zqa1) ?zqk1 ?zqk2 ?zqk3 ?zqk4 ?zqk5 ?zqkK ?zqkd ?zqku ?_; (case zqa0 => assumption); (case zqa1 => (first | exact rfl | exact place_zero | exact place_pred (by omega) | exact place_succ)); (case zqk1 => k_asm); (case zqk2 => k_asm); (case zqk3 => k_asm); (case zqk4 => k_asm); (case zqk5 => k_asm); (case zqkK => first | exact rfl | assumption); (case zqkd => first | exact room_le hdp (by decide) | ktr_room); (case zqku => first | exact units_le hun (by decide) | ktr_units); k_whole; intro h' tk' F' N'; (try k_sweep)))
  k_with "compareOp In int ref" => (k_here; k_dflt (refine' in_parting ?zqF ?zqX ?zql ?_; (case zqF => k_asm); (case zqX => k_asm); (case zql => k_is); k_whole))
  k_with "exec While BoolOp cons nil" => (k_here; k_dflt (refine' while_view ?zqV (Str.ofString "at") cB gS mN cB_falls ?zqF ?zqN ?zqhx ?zqht ?zqhb ?zqdone ?zqhE; (case zqV => assumption); (case zqF => k_asm); (case zqN => k_asm); (case zqhx => exact rfl); (case zqhE => passes_own); (case' zqht => (intro i' t' h' tk' F' N'; try k_sweep)); (case' zqhb => (intro i' t' h' tk' hc' F' N'; try k_sweep)); (case' zqdone => (intro t' h' tk' F' N'; try k_sweep))))
  k_with "call ref" => (k_here; k_dflt (refine' use_bool (con_parts ?zqa0 ?zqa1) ?zqk1 ?zqk2 ?zqk3 ?zqk4 ?zqk5 ?zqkK ?zqkd ?zqku ?_; (case zqa0 => assumption); (case zqa1 => (first | exact rfl | exact place_zero | exact place_pred (by omega) | exact place_succ)); (case zqk1 => k_asm); (case zqk2 => k_asm); (case zqk3 => k_asm); (case zqk4 => k_asm); (case zqk5 => k_asm); (case zqkK => first | exact rfl | assumption); (case zqkd => first | exact room_le hdp (by decide) | ktr_room); (case zqku => first | exact units_le hun (by decide) | ktr_units); k_whole; intro h' tk' F' N'; (try k_sweep)))
  subst hp
  have V₀ := V
  have hpos := V₀.pos
  obtain ⟨d, c, t1, t2, t3, n, vs, h1, h2, h3, hi⟩ := V₀.at'
  clear V₀
  unfold Con
  intro dp un gd cn cs a ccd cl outer A₀ base h₀ L m s Q E B F X N T hk hdp hun hret
  refine wpAny_call ?_
  k_dflt cell_enter
  k_steps
  all_goals first
    | (refine tend (by k_asm) (by k_asm) ?_; k_unmd; skip)
    | (refine bend (by k_asm) (by k_asm) rfl (fun z hz => (if_neg hz).trans (if_neg hz)) ?_; k_unmd; skip)
    | (refine end_int hret (by k_asm) (by k_asm) ?_; k_unmd; grind [begins])
    | (refine end_bool hret (by k_asm) (by k_asm) ?_; k_unmd; grind [begins])
theorem con_line_behind {p : Int} {i : Nat} {u : Tok} (V : ViewAt w news v b xs) (hp : p = b + (i : Nat)) : Con w mean mg mb 64 4 news [.ref v, .int p u] (PInt news (b + (lbehind xs i : Nat))) := by
  k_with_none
  k_with "call ref" => (k_here; k_dflt (refine' use_int (con_begin ?zqa0) ?zqk1 ?zqk2 ?zqk3 ?zqk4 ?zqk5 ?zqkK ?zqkd ?zqku ?_; (case zqa0 => assumption); (case zqk1 => k_asm); (case zqk2 => k_asm); (case zqk3 => k_asm); (case zqk4 => k_asm); (case zqk5 => k_asm); (case zqkK => first | exact rfl | assumption); (case zqkd => first | exact room_le hdp (by decide) | ktr_room); (case zqku => first | exact units_le hun (by decide) | ktr_units); k_whole; intro t' h' tk' F' N'; (try k_sweep)))
  k_with "call ref" => (k_here; k_dflt (refine' use_int (con_end ?zqa0) ?zqk1 ?zqk2 ?zqk3 ?zqk4 ?zqk5 ?zqkK ?zqkd ?zqku ?_; (case zqa0 => assumption); (case zqk1 => k_asm); (case zqk2 => k_asm); (case zqk3 => k_asm); (case zqk4 => k_asm); (case zqk5 => k_asm); (case zqkK => first | exact rfl | assumption); (case zqkd => first | exact room_le hdp (by decide) | ktr_room); (case zqku => first | exact units_le hun (by decide) | ktr_units); k_whole; intro t' h' tk' F' N'; (try k_sweep)))
  k_with "call ref" => (k_here; k_dflt (refine' use_int (con_code ?zqa0 ?zqa1) ?zqk1 ?zqk2 ?zqk3 ?zqk4 ?zqk5 ?zqkK ?zqkd ?zqku ?_; (case zqa0 => assumption); (case zqa1 => (first | exact rfl | exact place_zero | exact place_pred (by omega) | exact place_succ)); (case zqk1 => k_asm); (case zqk2 => k_asm); (case zqk3 => k_asm); (case zqk4 => k_asm); (case zqk5 => k_asm); (case zqkK => first | exact rfl | assumption); (case zqkd => first | exact room_le hdp (by decide) | ktr_room); (case zqku => first | exact units_le hun (by decide) | ktr_units); k_whole; intro t' h' tk' F' N'; (try k_sweep)))
  k_with "call ref" => (k_here; k_dflt (refine' use_int (con_line_start ?zqa0 ?zqa1) ?zqk1 ?zqk2 ?zqk3 ?zqk4 ?zqk5 ?zqkK ?zqkd ?zqku ?_; (case zqa0 => assumption); (case zqa1 => (first | exact rfl | exact place_zero | exact place_pred (by omega) | exact place_succ)); (case zqk1 => k_asm); (case zqk2 => k_asm); (case zqk3 => k_asm); (case zqk4 => k_asm); (case zqk5 => k_asm); (case zqkK => first | exact rfl | assumption); (case zqkd => first | exact room_le hdp (by decide) | ktr_room); (case zqku => first | exact units_le hun (by decide) | ktr_units); k_whole; intro t' h' tk' F' N'; (try k_sweep)))
  k_with "call ref" => (k_here; k_dflt (refine' use_int (con_line_end ?zqa0 ?zqa1) ?zqk1 ?zqk2 ?zqk3 ?zqk4 ?zqk5 ?zqkK ?zqkd ?zqku ?_; (case zqa0 => assumption); (case zqa1 => (first | exact rfl | exact place_zero | exact place_pred (by omega) | exact place_succ)); (case zqk1 => k_asm); (case zqk2 => k_asm); (case zqk3 => k_asm); (case zqk4 => k_asm); (case zqk5 => k_asm); (case zqkK => first | exact rfl | assumption); (case zqkd => first | exact room_le hdp (by decide) | ktr_room); (case zqku => first | exact units_le hun (by decide) | ktr_units); k_whole; intro t' h' tk' F' N'; (try k_sweep)))
  k_with "call ref" => (k_here; k_dflt (refine' use_int (con_next_start ?zqa0 ?zqa1) ?zqk1 ?zqk2 ?zqk3 ?zqk4 ?zqk5 ?zqkK ?zqkd ?zqku ?_; (case zqa0 => assumption); (case zqa1 => (first | exact rfl | exact place_zero | exact place_pred (by omega) | exact place_succ)); (case zqk1 => k_asm); (case zqk2 => k_asm); (case zqk3 => k_asm); (case zqk4 => k_asm); (case zqk5 => k_asm); (case zqkK => first | exact rfl | assumption); (case zqkd => first | exact room_le hdp (by decide) | ktr_room); (case zqku => first | exact units_le hun (by decide) | ktr_units); k_whole; intro t' h' tk' F' N'; (try k_sweep)))
  k_with "call ref" => (k_here; k_dflt (refine' use_bool (con_is_line_end ?zqa0 ?zqa1) ?zqk1 ?zqk2 ?zqk3 ?zqk4 ?zqk5 ?zqkK ?zqkd ?zqku ?_; (case zqa0 => assumption); (case zqa1 => (first | exact rfl | exact place_zero | exact place_pred (by omega) | exact place_succ)); (case zqk1 => k_asm); (case zqk2 => k_asm); (case zqk3 => k_asm); (case zqk4 => k_asm); (case zqk5 => k_asm); (case zqkK => first | exact rfl | assumption); (case zqkd => first | exact room_le hdp (by decide) | ktr_room); (case zqku => first | exact units_le hun (by decide) | ktr_units); k_whole; intro h' tk' F' N'; (try k_sweep)))
  k_with "compareOp In int ref" => (k_here; k_dflt (refine' in_parting ?zqF ?zqX ?zql ?_; (case zqF => k_asm); (case zqX => k_asm); (case zql => k_is); k_whole))
  k_with "exec While BoolOp cons nil" => (k_here; k_dflt (refine' while_view ?zqV (Str.ofString "at") cB gS mN cB_falls ?zqF ?zqN ?zqhx ?zqht ?zqhb ?zqdone ?zqhE; (case zqV => assumption); (case zqF => k_asm); (case zqN => k_asm); (case zqhx => exact rfl); (case zqhE => passes_own); (case' zqht => (intro i' t' h' tk' F' N'; try k_sweep)); (case' zqhb => (intro i' t' h' tk' hc' F' N'; try k_sweep)); (case' zqdone => (intro t' h' tk' F' N'; try k_sweep))))
  k_with "call ref" => (k_here; k_dflt (refine' use_bool (con_parts ?zqa0 ?zqa1) ?zqk1 ?zqk2 ?zqk3 ?zqk4 ?zqk5 ?zqkK ?zqkd ?zqku ?_; (case zqa0 => assumption); (case zqa1 => (first | exact rfl | exact place_zero | exact place_pred (by omega) | exact place_succ)); (case zqk1 => k_asm); (case zqk2 => k_asm); (case zqk3 => k_asm); (case zqk4 => k_asm); (case zqk5 => k_asm); (case zqkK => first | exact rfl | assumption); (case zqkd => first | exact room_le hdp (by decide) | ktr_room); (case zqku => first | exact units_le hun (by decide) | ktr_units); k_whole; intro h' tk' F' N'; (try k_sweep)))
  k_with "call ref" => (k_here; k_dflt (refine' use_bool (con_begins ?zqa0 ?zqa1) ?zqk1 ?zqk2 ?zqk3 ?zqk4 ?zqk5 ?zqkK ?zqkd ?zqku ?_; (case zqa0 => assumption); (case zqa1 => (first | exact rfl | exact place_zero | exact place_pred (by omega) | exact place_succ)); (case zqk1 => k_asm); (case zqk2 => k_asm); (case zqk3 => k_asm); (case zqk4 => k_asm); (case zqk5 => k_asm); (case zqkK => first | exact rfl | assumption); (case zqkd => first | exact room_le hdp (by decide) | ktr_room); (case zqku => first | exact units_le hun (by decide) | ktr_units); k_whole; intro h' tk' F' N'; (try k_sweep)))
  subst hp
  have V₀ := V
  have hpos := V₀.pos
  obtain ⟨d, c, t1, t2, t3, n, vs, h1, h2, h3, hi⟩ := V₀.at'
  clear V₀
  unfold Con
  intro dp un gd cn cs a ccd cl outer A₀ base h₀ L m s Q E B F X N T hk hdp hun hret
  refine wpAny_call ?_
  k_dflt cell_enter
  k_steps
  all_goals first
    | (refine tend (by k_asm) (by k_asm) ?_; k_unmd; skip)
    | (refine bend (by k_asm) (by k_asm) rfl (fun z hz => (if_neg hz).trans (if_neg hz)) ?_; k_unmd; skip)
    | (refine end_int hret (by k_asm) (by k_asm) ?_; k_unmd; grind [lbehind, nstart])
    | (refine end_bool hret (by k_asm) (by k_asm) ?_; k_unmd; grind [lbehind, nstart])
theorem con_past_parting {p : Int} {i : Nat} {u : Tok} (V : ViewAt w news v b xs) (hp : p = b + (i : Nat)) : Con w mean mg mb 71 5 news [.ref v, .int p u] (PInt news (b + (past xs i : Nat))) := by
  k_with_none
  k_with "call ref" => (k_here; k_dflt (refine' use_int (con_begin ?zqa0) ?zqk1 ?zqk2 ?zqk3 ?zqk4 ?zqk5 ?zqkK ?zqkd ?zqku ?_; (case zqa0 => assumption); (case zqk1 => k_asm); (case zqk2 => k_asm); (case zqk3 => k_asm); (case zqk4 => k_asm); (case zqk5 => k_asm); (case zqkK => first | exact rfl | assumption); (case zqkd => first | exact room_le hdp (by decide) | ktr_room); (case zqku => first | exact units_le hun (by decide) | ktr_units); k_whole; intro t' h' tk' F' N'; (try k_sweep)))
  k_with "call ref" => (k_here; k_dflt (refine' use_int (con_end ?zqa0) ?zqk1 ?zqk2 ?zqk3 ?zqk4 ?zqk5 ?zqkK ?zqkd ?zqku ?_; (case zqa0 => assumption); (case zqk1 => k_asm); (case zqk2 => k_asm); (case zqk3 => k_asm); (case zqk4 => k_asm); (case zqk5 => k_asm); (case zqkK => first | exact rfl | assumption); (case zqkd => first | exact room_le hdp (by decide) | ktr_room); (case zqku => first | exact units_le hun (by decide) | ktr_units); k_whole; intro t' h' tk' F' N'; (try k_sweep)))
  k_with "call ref" => (k_here; k_dflt (refine' use_int (con_code ?zqa0 ?zqa1) ?zqk1 ?zqk2 ?zqk3 ?zqk4 ?zqk5 ?zqkK ?zqkd ?zqku ?_; (case zqa0 => assumption); (case zqa1 => (first | exact rfl | exact place_zero | exact place_pred (by omega) | exact place_succ)); (case zqk1 => k_asm); (case zqk2 => k_asm); (case zqk3 => k_asm); (case zqk4 => k_asm); (case zqk5 => k_asm); (case zqkK => first | exact rfl | assumption); (case zqkd => first | exact room_le hdp (by decide) | ktr_room); (case zqku => first | exact units_le hun (by decide) | ktr_units); k_whole; intro t' h' tk' F' N'; (try k_sweep)))
  k_with "call ref" => (k_here; k_dflt (refine' use_int (con_line_start ?zqa0 ?zqa1) ?zqk1 ?zqk2 ?zqk3 ?zqk4 ?zqk5 ?zqkK ?zqkd ?zqku ?_; (case zqa0 => assumption); (case zqa1 => (first | exact rfl | exact place_zero | exact place_pred (by omega) | exact place_succ)); (case zqk1 => k_asm); (case zqk2 => k_asm); (case zqk3 => k_asm); (case zqk4 => k_asm); (case zqk5 => k_asm); (case zqkK => first | exact rfl | assumption); (case zqkd => first | exact room_le hdp (by decide) | ktr_room); (case zqku => first | exact units_le hun (by decide) | ktr_units); k_whole; intro t' h' tk' F' N'; (try k_sweep)))
  k_with "call ref" => (k_here; k_dflt (refine' use_int (con_line_end ?zqa0 ?zqa1) ?zqk1 ?zqk2 ?zqk3 ?zqk4 ?zqk5 ?zqkK ?zqkd ?zqku ?_; (case zqa0 => assumption); (case zqa1 => (first | exact rfl | exact place_zero | exact place_pred (by omega) | exact place_succ)); (case zqk1 => k_asm); (case zqk2 => k_asm); (case zqk3 => k_asm); (case zqk4 => k_asm); (case zqk5 => k_asm); (case zqkK => first | exact rfl | assumption); (case zqkd => first | exact room_le hdp (by decide) | ktr_room); (case zqku => first | exact units_le hun (by decide) | ktr_units); k_whole; intro t' h' tk' F' N'; (try k_sweep)))
  k_with "call ref" => (k_here; k_dflt (refine' use_int (con_next_start ?zqa0 ?zqa1) ?zqk1 ?zqk2 ?zqk3 ?zqk4 ?zqk5 ?zqkK ?zqkd ?zqku ?_; (case zqa0 => assumption); (case zqa1 => (first | exact rfl | exact place_zero | exact place_pred (by omega) | exact place_succ)); (case zqk1 => k_asm); (case zqk2 => k_asm); (case zqk3 => k_asm); (case zqk4 => k_asm); (case zqk5 => k_asm); (case zqkK => first | exact rfl | assumption); (case zqkd => first | exact room_le hdp (by decide) | ktr_room); (case zqku => first | exact units_le hun (by decide) | ktr_units); k_whole; intro t' h' tk' F' N'; (try k_sweep)))
  k_with "call ref" => (k_here; k_dflt (refine' use_bool (con_is_line_end ?zqa0 ?zqa1) ?zqk1 ?zqk2 ?zqk3 ?zqk4 ?zqk5 ?zqkK ?zqkd ?zqku ?_; (case zqa0 => assumption); (case zqa1 => (first | exact rfl | exact place_zero | exact place_pred (by omega) | exact place_succ)); (case zqk1 => k_asm); (case zqk2 => k_asm); (case zqk3 => k_asm); (case zqk4 => k_asm); (case zqk5 => k_asm); (case zqkK => first | exact rfl | assumption); (case zqkd => first | exact room_le hdp (by decide) | ktr_room); (case zqku => first | exact units_le hun (by decide) | ktr_units); k_whole; intro h' tk' F' N'; (try k_sweep)))
  k_with "compareOp In int ref" => (k_here; k_dflt (refine' in_parting ?zqF ?zqX ?zql ?_; (case zqF => k_asm); (case zqX => k_asm); (case zql => k_is); k_whole))
  k_with "exec While BoolOp cons nil" => (k_here; k_dflt (refine' while_view ?zqV (Str.ofString "at") cB gS mN cB_falls ?zqF ?zqN ?zqhx ?zqht ?zqhb ?zqdone ?zqhE; (case zqV => assumption); (case zqF => k_asm); (case zqN => k_asm); (case zqhx => exact rfl); (case zqhE => passes_own); (case' zqht => (intro i' t' h' tk' F' N'; try k_sweep)); (case' zqhb => (intro i' t' h' tk' hc' F' N'; try k_sweep)); (case' zqdone => (intro t' h' tk' F' N'; try k_sweep))))
  k_with "call ref" => (k_here; k_dflt (refine' use_bool (con_parts ?zqa0 ?zqa1) ?zqk1 ?zqk2 ?zqk3 ?zqk4 ?zqk5 ?zqkK ?zqkd ?zqku ?_; (case zqa0 => assumption); (case zqa1 => (first | exact rfl | exact place_zero | exact place_pred (by omega) | exact place_succ)); (case zqk1 => k_asm); (case zqk2 => k_asm); (case zqk3 => k_asm); (case zqk4 => k_asm); (case zqk5 => k_asm); (case zqkK => first | exact rfl | assumption); (case zqkd => first | exact room_le hdp (by decide) | ktr_room); (case zqku => first | exact units_le hun (by decide) | ktr_units); k_whole; intro h' tk' F' N'; (try k_sweep)))
  k_with "call ref" => (k_here; k_dflt (refine' use_bool (con_begins ?zqa0 ?zqa1) ?zqk1 ?zqk2 ?zqk3 ?zqk4 ?zqk5 ?zqkK ?zqkd ?zqku ?_; (case zqa0 => assumption); (case zqa1 => (first | exact rfl | exact place_zero | exact place_pred (by omega) | exact place_succ)); (case zqk1 => k_asm); (case zqk2 => k_asm); (case zqk3 => k_asm); (case zqk4 => k_asm); (case zqk5 => k_asm); (case zqkK => first | exact rfl | assumption); (case zqkd => first | exact room_le hdp (by decide) | ktr_room); (case zqku => first | exact units_le hun (by decide) | ktr_units); k_whole; intro h' tk' F' N'; (try k_sweep)))
  k_with "call ref" => (k_here; k_dflt (refine' use_int (con_line_behind ?zqa0 ?zqa1) ?zqk1 ?zqk2 ?zqk3 ?zqk4 ?zqk5 ?zqkK ?zqkd ?zqku ?_; (case zqa0 => assumption); (case zqa1 => (first | exact rfl | exact place_zero | exact place_pred (by omega) | exact place_succ)); (case zqk1 => k_asm); (case zqk2 => k_asm); (case zqk3 => k_asm); (case zqk4 => k_asm); (case zqk5 => k_asm); (case zqkK => first | exact rfl | assumption); (case zqkd => first | exact room_le hdp (by decide) | ktr_room); (case zqku => first | exact units_le hun (by decide) | ktr_units); k_whole; intro t' h' tk' F' N'; (try k_sweep)))
  k_with "exec While BoolOp cons nil" => (k_here; k_dflt (refine' while_view ?zqV (Str.ofString "at") cP lbehind mN cP_falls ?zqF ?zqN ?zqhx ?zqht ?zqhb ?zqdone ?zqhE; (case zqV => assumption); (case zqF => k_asm); (case zqN => k_asm); (case zqhx => exact rfl); (case zqhE => passes_own); (case' zqht => (intro i' t' h' tk' F' N'; try k_sweep)); (case' zqhb => (intro i' t' h' tk' hc' F' N'; try k_sweep)); (case' zqdone => (intro t' h' tk' F' N'; try k_sweep))))
  subst hp
  have V₀ := V
  have hpos := V₀.pos
  obtain ⟨d, c, t1, t2, t3, n, vs, h1, h2, h3, hi⟩ := V₀.at'
  clear V₀
  unfold Con
  intro dp un gd cn cs a ccd cl outer A₀ base h₀ L m s Q E B F X N T hk hdp hun hret
  refine wpAny_call ?_
  k_dflt cell_enter
  k_steps
  all_goals first
    | (refine tend (by k_asm) (by k_asm) ?_; k_unmd; grind [cP])
    | (refine bend (by k_asm) (by k_asm) rfl (fun z hz => (if_neg hz).trans (if_neg hz)) ?_; k_unmd; rfl)
    | (refine end_int hret (by k_asm) (by k_asm) ?_; k_unmd; rfl)
    | (refine end_bool hret (by k_asm) (by k_asm) ?_; k_unmd; rfl)
theorem con_one_forward {p : Int} {i : Nat} {u : Tok} (V : ViewAt w news v b xs) (hp : p = b + (i : Nat)) : Con w mean mg mb 78 6 news [.ref v, .int p u] (PInt news (b + (oneFwd xs i : Nat))) := by
  k_with_none
  k_with "call ref" => (k_here; k_dflt (refine' use_int (con_begin ?zqa0) ?zqk1 ?zqk2 ?zqk3 ?zqk4 ?zqk5 ?zqkK ?zqkd ?zqku ?_; (case zqa0 => assumption); (case zqk1 => k_asm); (case zqk2 => k_asm); (case zqk3 => k_asm); (case zqk4 => k_asm); (case zqk5 => k_asm); (case zqkK => first | exact rfl | assumption); (case zqkd => first | exact room_le hdp (by decide) | ktr_room); (case zqku => first | exact units_le hun (by decide) | ktr_units); k_whole; intro t' h' tk' F' N'; (try k_sweep)))
  k_with "call ref" => (k_here; k_dflt (refine' use_int (con_end ?zqa0) ?zqk1 ?zqk2 ?zqk3 ?zqk4 ?zqk5 ?zqkK ?zqkd ?zqku ?_; (case zqa0 => assumption); (case zqk1 => k_asm); (case zqk2 => k_asm); (case zqk3 => k_asm); (case zqk4 => k_asm); (case zqk5 => k_asm); (case zqkK => first | exact rfl | assumption); (case zqkd => first | exact room_le hdp (by decide) | ktr_room); (case zqku => first | exact units_le hun (by decide) | ktr_units); k_whole; intro t' h' tk' F' N'; (try k_sweep)))
  k_with "call ref" => (k_here; k_dflt (refine' use_int (con_code ?zqa0 ?zqa1) ?zqk1 ?zqk2 ?zqk3 ?zqk4 ?zqk5 ?zqkK ?zqkd ?zqku ?_; (case zqa0 => assumption); (case zqa1 => (first | exact rfl | exact place_zero | exact place_pred (by omega) | exact place_succ)); (case zqk1 => k_asm); (case zqk2 => k_asm); (case zqk3 => k_asm); (case zqk4 => k_asm); (case zqk5 => k_asm); (case zqkK => first | exact rfl | assumption); (case zqkd => first | exact room_le hdp (by decide) | ktr_room); (case zqku => first | exact units_le hun (by decide) | ktr_units); k_whole; intro t' h' tk' F' N'; (try k_sweep)))
  k_with "call ref" => (k_here; k_dflt (refine' use_int (con_line_start ?zqa0 ?zqa1) ?zqk1 ?zqk2 ?zqk3 ?zqk4 ?zqk5 ?zqkK ?zqkd ?zqku ?_; (case zqa0 => assumption); (case zqa1 => (first | exact rfl | exact place_zero | exact place_pred (by omega) | exact place_succ)); (case zqk1 => k_asm); (case zqk2 => k_asm); (case zqk3 => k_asm); (case zqk4 => k_asm); (case zqk5 => k_asm); (case zqkK => first | exact rfl | assumption); (case zqkd => first | exact room_le hdp (by decide) | ktr_room); (case zqku => first | exact units_le hun (by decide) | ktr_units); k_whole; intro t' h' tk' F' N'; (try k_sweep)))
  k_with "call ref" => (k_here; k_dflt (refine' use_int (con_line_end ?zqa0 ?zqa1) ?zqk1 ?zqk2 ?zqk3 ?zqk4 ?zqk5 ?zqkK ?zqkd ?zqku ?_; (case zqa0 => assumption); (case zqa1 => (first | exact rfl | exact place_zero | exact place_pred (by omega) | exact place_succ)); (case zqk1 => k_asm); (case zqk2 => k_asm); (case zqk3 => k_asm); (case zqk4 => k_asm); (case zqk5 => k_asm); (case zqkK => first | exact rfl | assumption); (case zqkd => first | exact room_le hdp (by decide) | ktr_room); (case zqku => first | exact units_le hun (by decide) | ktr_units); k_whole; intro t' h' tk' F' N'; (try k_sweep)))
  k_with "call ref" => (k_here; k_dflt (refine' use_int (con_next_start ?zqa0 ?zqa1) ?zqk1 ?zqk2 ?zqk3 ?zqk4 ?zqk5 ?zqkK ?zqkd ?zqku ?_; (case zqa0 => assumption); (case zqa1 => (first | exact rfl | exact place_zero | exact place_pred (by omega) | exact place_succ)); (case zqk1 => k_asm); (case zqk2 => k_asm); (case zqk3 => k_asm); (case zqk4 => k_asm); (case zqk5 => k_asm); (case zqkK => first | exact rfl | assumption); (case zqkd => first | exact room_le hdp (by decide) | ktr_room); (case zqku => first | exact units_le hun (by decide) | ktr_units); k_whole; intro t' h' tk' F' N'; (try k_sweep)))
  k_with "call ref" => (k_here; k_dflt (refine' use_bool (con_is_line_end ?zqa0 ?zqa1) ?zqk1 ?zqk2 ?zqk3 ?zqk4 ?zqk5 ?zqkK ?zqkd ?zqku ?_; (case zqa0 => assumption); (case zqa1 => (first | exact rfl | exact place_zero | exact place_pred (by omega) | exact place_succ)); (case zqk1 => k_asm); (case zqk2 => k_asm); (case zqk3 => k_asm); (case zqk4 => k_asm); (case zqk5 => k_asm); (case zqkK => first | exact rfl | assumption); (case zqkd => first | exact room_le hdp (by decide) | ktr_room); (case zqku => first | exact units_le hun (by decide) | ktr_units); k_whole; intro h' tk' F' N'; (try k_sweep)))
  k_with "compareOp In int ref" => (k_here; k_dflt (refine' in_parting ?zqF ?zqX ?zql ?_; (case zqF => k_asm); (case zqX => k_asm); (case zql => k_is); k_whole))
  k_with "exec While BoolOp cons nil" => (k_here; k_dflt (refine' while_view ?zqV (Str.ofString "at") cB gS mN cB_falls ?zqF ?zqN ?zqhx ?zqht ?zqhb ?zqdone ?zqhE; (case zqV => assumption); (case zqF => k_asm); (case zqN => k_asm); (case zqhx => exact rfl); (case zqhE => passes_own); (case' zqht => (intro i' t' h' tk' F' N'; try k_sweep)); (case' zqhb => (intro i' t' h' tk' hc' F' N'; try k_sweep)); (case' zqdone => (intro t' h' tk' F' N'; try k_sweep))))
  k_with "call ref" => (k_here; k_dflt (refine' use_bool (con_parts ?zqa0 ?zqa1) ?zqk1 ?zqk2 ?zqk3 ?zqk4 ?zqk5 ?zqkK ?zqkd ?zqku ?_; (case zqa0 => assumption); (case zqa1 => (first | exact rfl | exact place_zero | exact place_pred (by omega) | exact place_succ)); (case zqk1 => k_asm); (case zqk2 => k_asm); (case zqk3 => k_asm); (case zqk4 => k_asm); (case zqk5 => k_asm); (case zqkK => first | exact rfl | assumption); (case zqkd => first | exact room_le hdp (by decide) | ktr_room); (case zqku => first | exact units_le hun (by decide) | ktr_units); k_whole; intro h' tk' F' N'; (try k_sweep)))
  k_with "call ref" => (k_here; k_dflt (refine' use_bool (con_begins ?zqa0 ?zqa1) ?zqk1 ?zqk2 ?zqk3 ?zqk4 ?zqk5 ?zqkK ?zqkd ?zqku ?_; (case zqa0 => assumption); (case zqa1 => (first | exact rfl | exact place_zero | exact place_pred (by omega) | exact place_succ)); (case zqk1 => k_asm); (case zqk2 => k_asm); (case zqk3 => k_asm); (case zqk4 => k_asm); (case zqk5 => k_asm); (case zqkK => first | exact rfl | assumption); (case zqkd => first | exact room_le hdp (by decide) | ktr_room); (case zqku => first | exact units_le hun (by decide) | ktr_units); k_whole; intro h' tk' F' N'; (try k_sweep)))
  k_with "call ref" => (k_here; k_dflt (refine' use_int (con_line_behind ?zqa0 ?zqa1) ?zqk1 ?zqk2 ?zqk3 ?zqk4 ?zqk5 ?zqkK ?zqkd ?zqku ?_; (case zqa0 => assumption); (case zqa1 => (first | exact rfl | exact place_zero | exact place_pred (by omega) | exact place_succ)); (case zqk1 => k_asm); (case zqk2 => k_asm); (case zqk3 => k_asm); (case zqk4 => k_asm); (case zqk5 => k_asm); (case zqkK => first | exact rfl | assumption); (case zqkd => first | exact room_le hdp (by decide) | ktr_room); (case zqku => first | exact units_le hun (by decide) | ktr_units); k_whole; intro t' h' tk' F' N'; (try k_sweep)))
  k_with "exec While BoolOp cons nil" => (k_here; k_dflt (refine' while_view ?zqV (Str.ofString "at") cP lbehind mN cP_falls ?zqF ?zqN ?zqhx ?zqht ?zqhb ?zqdone ?zqhE; (case zqV => assumption); (case zqF => k_asm); (case zqN => k_asm); (case zqhx => exact rfl); (case zqhE => passes_own); (case' zqht => (intro i' t' h' tk' F' N'; try k_sweep)); (case' zqhb => (intro i' t' h' tk' hc' F' N'; try k_sweep)); (case' zqdone => (intro t' h' tk' F' N'; try k_sweep))))
  k_with "call ref" => (k_here; k_dflt (refine' use_int (con_past_parting ?zqa0 ?zqa1) ?zqk1 ?zqk2 ?zqk3 ?zqk4 ?zqk5 ?zqkK ?zqkd ?zqku ?_; (case zqa0 => assumption); (case zqa1 => (first | exact rfl | exact place_zero | exact place_pred (by omega) | exact place_succ)); (case zqk1 => k_asm); (case zqk2 => k_asm); (case zqk3 => k_asm); (case zqk4 => k_asm); (case zqk5 => k_asm); (case zqkK => first | exact rfl | assumption); (case zqkd => first | exact room_le hdp (by decide) | ktr_room); (case zqku => first | exact units_le hun (by decide) | ktr_units); k_whole; intro t' h' tk' F' N'; (try k_sweep)))
  k_with "exec While BoolOp cons nil" => (k_here; k_dflt (refine' while_view ?zqV (Str.ofString "at") cF lbehind mN cF_falls ?zqF ?zqN ?zqhx ?zqht ?zqhb ?zqdone ?zqhE; (case zqV => assumption); (case zqF => k_asm); (case zqN => k_asm); (case zqhx => exact rfl); (case zqhE => passes_own); (case' zqht => (intro i' t' h' tk' F' N'; try k_sweep)); (case' zqhb => (intro i' t' h' tk' hc' F' N'; try k_sweep)); (case' zqdone => (intro t' h' tk' F' N'; try k_sweep))))
  subst hp
  have V₀ := V
  have hpos := V₀.pos
  obtain ⟨d, c, t1, t2, t3, n, vs, h1, h2, h3, hi⟩ := V₀.at'
  clear V₀
  unfold Con
  intro dp un gd cn cs a ccd cl outer A₀ base h₀ L m s Q E B F X N T hk hdp hun hret
  refine wpAny_call ?_
  k_dflt cell_enter
  k_steps
  all_goals first
    | (refine tend (by k_asm) (by k_asm) ?_; k_unmd; grind [cF])
    | (refine bend (by k_asm) (by k_asm) rfl (fun z hz => (if_neg hz).trans (if_neg hz)) ?_; k_unmd; rfl)
    | (refine end_int hret (by k_asm) (by k_asm) ?_; k_unmd; rfl)
    | (refine end_bool hret (by k_asm) (by k_asm) ?_; k_unmd; rfl)
end
/-! part V5 -/
section
variable {w : World} {mean : ExcName → Option Value} {mg mb : Str → Option Value} {news : Led} {v : Addr} {b : Int} {xs : List Int}
theorem cL_pos {xs : List Int} {i : Nat} (h : cL xs i = true) : 0 < i := by simp only [cL, Bool.and_eq_true, decide_eq_true_eq] at h; exact h.1
theorem cK_pos {xs : List Int} {i : Nat} (h : cK xs i = true) : 0 < i := by simp only [cK, Bool.and_eq_true, decide_eq_true_eq] at h; exact h.1
theorem fill5 : (hd.heap_39, PySem.Challenge.rw_np0017_01) = (hd.heap_39, PySem.Challenge.rw_np0017_01) := by
  k_fill
  rfl
local macro_rules | `(tactic| k_mem) => `(tactic| assumption)
theorem con_is_behind_empty {p : Int} {i : Nat} {u : Tok} (V : ViewAt w news v b xs) (hp : p = b + (i : Nat)) : Con w mean mg mb 85 5 news [.ref v, .int p u] (PBool news (behindEmpty xs i)) := by
  k_with_none
  k_with "call ref" => (k_here; k_dflt (refine' use_int (con_begin ?zqa0) ?zqk1 ?zqk2 ?zqk3 ?zqk4 ?zqk5 ?zqkK ?zqkd ?zqku ?_; (case zqk4 => k_asm); (case zqa0 => (first | assumption | exact ViewAt.cons (by assumption))); (case zqk1 => k_asm); (case zqk2 => k_asm); (case zqk3 => k_asm); (case zqk5 => k_asm); (case zqkK => first | exact rfl | assumption); (case zqkd => first | exact room_le hdp (by decide) | ktr_room); (case zqku => first | exact units_le hun (by decide) | ktr_units); k_whole; intro t' h' tk' F' N'; (try k_sweep)))
  k_with "call ref" => (k_here; k_dflt (refine' use_int (con_end ?zqa0) ?zqk1 ?zqk2 ?zqk3 ?zqk4 ?zqk5 ?zqkK ?zqkd ?zqku ?_; (case zqk4 => k_asm); (case zqa0 => (first | assumption | exact ViewAt.cons (by assumption))); (case zqk1 => k_asm); (case zqk2 => k_asm); (case zqk3 => k_asm); (case zqk5 => k_asm); (case zqkK => first | exact rfl | assumption); (case zqkd => first | exact room_le hdp (by decide) | ktr_room); (case zqku => first | exact units_le hun (by decide) | ktr_units); k_whole; intro t' h' tk' F' N'; (try k_sweep)))
  k_with "call ref" => (k_here; k_dflt (refine' use_int (con_code ?zqa0 ?zqa1) ?zqk1 ?zqk2 ?zqk3 ?zqk4 ?zqk5 ?zqkK ?zqkd ?zqku ?_; (case zqk4 => k_asm); (case zqa0 => (first | assumption | exact ViewAt.cons (by assumption))); (case zqa1 => (first | exact rfl | exact place_zero | exact place_pred (by omega) | exact place_succ)); (case zqk1 => k_asm); (case zqk2 => k_asm); (case zqk3 => k_asm); (case zqk5 => k_asm); (case zqkK => first | exact rfl | assumption); (case zqkd => first | exact room_le hdp (by decide) | ktr_room); (case zqku => first | exact units_le hun (by decide) | ktr_units); k_whole; intro t' h' tk' F' N'; (try k_sweep)))
  k_with "call ref" => (k_here; k_dflt (refine' use_int (con_line_start ?zqa0 ?zqa1) ?zqk1 ?zqk2 ?zqk3 ?zqk4 ?zqk5 ?zqkK ?zqkd ?zqku ?_; (case zqk4 => k_asm); (case zqa0 => (first | assumption | exact ViewAt.cons (by assumption))); (case zqa1 => (first | exact rfl | exact place_zero | exact place_pred (by omega) | exact place_succ)); (case zqk1 => k_asm); (case zqk2 => k_asm); (case zqk3 => k_asm); (case zqk5 => k_asm); (case zqkK => first | exact rfl | assumption); (case zqkd => first | exact room_le hdp (by decide) | ktr_room); (case zqku => first | exact units_le hun (by decide) | ktr_units); k_whole; intro t' h' tk' F' N'; (try k_sweep)))
  k_with "call ref" => (k_here; k_dflt (refine' use_int (con_line_end ?zqa0 ?zqa1) ?zqk1 ?zqk2 ?zqk3 ?zqk4 ?zqk5 ?zqkK ?zqkd ?zqku ?_; (case zqk4 => k_asm); (case zqa0 => (first | assumption | exact ViewAt.cons (by assumption))); (case zqa1 => (first | exact rfl | exact place_zero | exact place_pred (by omega) | exact place_succ)); (case zqk1 => k_asm); (case zqk2 => k_asm); (case zqk3 => k_asm); (case zqk5 => k_asm); (case zqkK => first | exact rfl | assumption); (case zqkd => first | exact room_le hdp (by decide) | ktr_room); (case zqku => first | exact units_le hun (by decide) | ktr_units); k_whole; intro t' h' tk' F' N'; (try k_sweep)))
  k_with "call ref" => (k_here; k_dflt (refine' use_int (con_next_start ?zqa0 ?zqa1) ?zqk1 ?zqk2 ?zqk3 ?zqk4 ?zqk5 ?zqkK ?zqkd ?zqku ?_; (case zqk4 => k_asm); (case zqa0 => (first | assumption | exact ViewAt.cons (by assumption))); (case zqa1 => (first | exact rfl | exact place_zero | exact place_pred (by omega) | exact place_succ)); (case zqk1 => k_asm); (case zqk2 => k_asm); (case zqk3 => k_asm); (case zqk5 => k_asm); (case zqkK => first | exact rfl | assumption); (case zqkd => first | exact room_le hdp (by decide) | ktr_room); (case zqku => first | exact units_le hun (by decide) | ktr_units); k_whole; intro t' h' tk' F' N'; (try k_sweep)))
  k_with "call ref" => (k_here; k_dflt (refine' use_bool (con_is_line_end ?zqa0 ?zqa1) ?zqk1 ?zqk2 ?zqk3 ?zqk4 ?zqk5 ?zqkK ?zqkd ?zqku ?_; (case zqk4 => k_asm); (case zqa0 => (first | assumption | exact ViewAt.cons (by assumption))); (case zqa1 => (first | exact rfl | exact place_zero | exact place_pred (by omega) | exact place_succ)); (case zqk1 => k_asm); (case zqk2 => k_asm); (case zqk3 => k_asm); (case zqk5 => k_asm); (case zqkK => first | exact rfl | assumption); (case zqkd => first | exact room_le hdp (by decide) | ktr_room); (case zqku => first | exact units_le hun (by decide) | ktr_units); k_whole; intro h' tk' F' N'; (try k_sweep)))
  k_with "call ref" => (k_here; k_dflt (refine' use_bool (con_parts ?zqa0 ?zqa1) ?zqk1 ?zqk2 ?zqk3 ?zqk4 ?zqk5 ?zqkK ?zqkd ?zqku ?_; (case zqk4 => k_asm); (case zqa0 => (first | assumption | exact ViewAt.cons (by assumption))); (case zqa1 => (first | exact rfl | exact place_zero | exact place_pred (by omega) | exact place_succ)); (case zqk1 => k_asm); (case zqk2 => k_asm); (case zqk3 => k_asm); (case zqk5 => k_asm); (case zqkK => first | exact rfl | assumption); (case zqkd => first | exact room_le hdp (by decide) | ktr_room); (case zqku => first | exact units_le hun (by decide) | ktr_units); k_whole; intro h' tk' F' N'; (try k_sweep)))
  k_with "call ref" => (k_here; k_dflt (refine' use_bool (con_begins ?zqa0 ?zqa1) ?zqk1 ?zqk2 ?zqk3 ?zqk4 ?zqk5 ?zqkK ?zqkd ?zqku ?_; (case zqk4 => k_asm); (case zqa0 => (first | assumption | exact ViewAt.cons (by assumption))); (case zqa1 => (first | exact rfl | exact place_zero | exact place_pred (by omega) | exact place_succ)); (case zqk1 => k_asm); (case zqk2 => k_asm); (case zqk3 => k_asm); (case zqk5 => k_asm); (case zqkK => first | exact rfl | assumption); (case zqkd => first | exact room_le hdp (by decide) | ktr_room); (case zqku => first | exact units_le hun (by decide) | ktr_units); k_whole; intro h' tk' F' N'; (try k_sweep)))
  k_with "call ref" => (k_here; k_dflt (refine' use_int (con_line_behind ?zqa0 ?zqa1) ?zqk1 ?zqk2 ?zqk3 ?zqk4 ?zqk5 ?zqkK ?zqkd ?zqku ?_; (case zqk4 => k_asm); (case zqa0 => (first | assumption | exact ViewAt.cons (by assumption))); (case zqa1 => (first | exact rfl | exact place_zero | exact place_pred (by omega) | exact place_succ)); (case zqk1 => k_asm); (case zqk2 => k_asm); (case zqk3 => k_asm); (case zqk5 => k_asm); (case zqkK => first | exact rfl | assumption); (case zqkd => first | exact room_le hdp (by decide) | ktr_room); (case zqku => first | exact units_le hun (by decide) | ktr_units); k_whole; intro t' h' tk' F' N'; (try k_sweep)))
  k_with "call ref" => (k_here; k_dflt (refine' use_int (con_past_parting ?zqa0 ?zqa1) ?zqk1 ?zqk2 ?zqk3 ?zqk4 ?zqk5 ?zqkK ?zqkd ?zqku ?_; (case zqk4 => k_asm); (case zqa0 => (first | assumption | exact ViewAt.cons (by assumption))); (case zqa1 => (first | exact rfl | exact place_zero | exact place_pred (by omega) | exact place_succ)); (case zqk1 => k_asm); (case zqk2 => k_asm); (case zqk3 => k_asm); (case zqk5 => k_asm); (case zqkK => first | exact rfl | assumption); (case zqkd => first | exact room_le hdp (by decide) | ktr_room); (case zqku => first | exact units_le hun (by decide) | ktr_units); k_whole; intro t' h' tk' F' N'; (try k_sweep)))
  k_with "call ref" => (k_here; k_dflt (refine' use_int (con_one_forward ?zqa0 ?zqa1) ?zqk1 ?zqk2 ?zqk3 ?zqk4 ?zqk5 ?zqkK ?zqkd ?zqku ?_; (case zqk4 => k_asm); (case zqa0 => (first | assumption | exact ViewAt.cons (by assumption))); (case zqa1 => (first | exact rfl | exact place_zero | exact place_pred (by omega) | exact place_succ)); (case zqk1 => k_asm); (case zqk2 => k_asm); (case zqk3 => k_asm); (case zqk5 => k_asm); (case zqkK => first | exact rfl | assumption); (case zqkd => first | exact room_le hdp (by decide) | ktr_room); (case zqku => first | exact units_le hun (by decide) | ktr_units); k_whole; intro t' h' tk' F' N'; (try k_sweep)))
  subst hp
  have V₀ := V
  have hpos := V₀.pos
  obtain ⟨d, c, t1, t2, t3, n, vs, h1, h2, h3, hi⟩ := V₀.at'
  clear V₀
  unfold Con
  intro dp un gd cn cs a ccd cl outer A₀ base h₀ L m s Q E B F X N T hk hdp hun hret
  refine wpAny_call ?_
  k_dflt cell_enter
  k_steps
  all_goals first
    | (refine tend (by k_asm) (by k_asm) ?_; k_unmd; skip)
    | (refine bend (by k_asm) (by k_asm) rfl (fun z hz => (if_neg hz).trans (if_neg hz)) ?_; k_unmd; skip)
    | (refine end_int hret (by k_asm) (by k_asm) ?_; k_unmd; grind [behindEmpty])
    | (refine end_bool hret (by k_asm) (by k_asm) ?_; k_unmd; grind [behindEmpty])
theorem ViewAt.cons {e : Addr × Obj} (V : ViewAt w news v b xs) : ViewAt w (e :: news) v b xs :=
  ⟨by obtain ⟨d, c, t1, t2, t3, n, vs, h1, h2, h3, hi⟩ := V.at'; exact ⟨d, c, t1, t2, t3, n, vs, .tail _ h1, .tail _ h2, .tail _ h3, hi⟩, V.fit, V.pos⟩
theorem con_first_line {p : Int} {i : Nat} {u : Tok} (V : ViewAt w news v b xs) (hp : p = b + (i : Nat)) : Con w mean mg mb 92 6 news [.ref v, .int p u] (fun r nw => ∃ t u k, r = .ref t ∧ nw = (t, ({ cls := .type "tuple", data := .seq #[.int (b + (firstLine xs i : Nat)) u, .bool (begins xs (firstLine xs i))] k } : Obj)) :: news) := by
  k_with_none
  k_with "call ref" => (k_here; k_dflt (refine' use_int (con_begin ?zqa0) ?zqk1 ?zqk2 ?zqk3 ?zqk4 ?zqk5 ?zqkK ?zqkd ?zqku ?_; (case zqk4 => k_asm); (case zqa0 => (first | assumption | exact ViewAt.cons (by assumption))); (case zqk1 => k_asm); (case zqk2 => k_asm); (case zqk3 => k_asm); (case zqk5 => k_asm); (case zqkK => first | exact rfl | assumption); (case zqkd => first | exact room_le hdp (by decide) | ktr_room); (case zqku => first | exact units_le hun (by decide) | ktr_units); k_whole; intro t' h' tk' F' N'; (try k_sweep)))
  k_with "call ref" => (k_here; k_dflt (refine' use_int (con_end ?zqa0) ?zqk1 ?zqk2 ?zqk3 ?zqk4 ?zqk5 ?zqkK ?zqkd ?zqku ?_; (case zqk4 => k_asm); (case zqa0 => (first | assumption | exact ViewAt.cons (by assumption))); (case zqk1 => k_asm); (case zqk2 => k_asm); (case zqk3 => k_asm); (case zqk5 => k_asm); (case zqkK => first | exact rfl | assumption); (case zqkd => first | exact room_le hdp (by decide) | ktr_room); (case zqku => first | exact units_le hun (by decide) | ktr_units); k_whole; intro t' h' tk' F' N'; (try k_sweep)))
  k_with "call ref" => (k_here; k_dflt (refine' use_int (con_code ?zqa0 ?zqa1) ?zqk1 ?zqk2 ?zqk3 ?zqk4 ?zqk5 ?zqkK ?zqkd ?zqku ?_; (case zqk4 => k_asm); (case zqa0 => (first | assumption | exact ViewAt.cons (by assumption))); (case zqa1 => (first | exact rfl | exact place_zero | exact place_pred (by omega) | exact place_succ)); (case zqk1 => k_asm); (case zqk2 => k_asm); (case zqk3 => k_asm); (case zqk5 => k_asm); (case zqkK => first | exact rfl | assumption); (case zqkd => first | exact room_le hdp (by decide) | ktr_room); (case zqku => first | exact units_le hun (by decide) | ktr_units); k_whole; intro t' h' tk' F' N'; (try k_sweep)))
  k_with "call ref" => (k_here; k_dflt (refine' use_int (con_line_start ?zqa0 ?zqa1) ?zqk1 ?zqk2 ?zqk3 ?zqk4 ?zqk5 ?zqkK ?zqkd ?zqku ?_; (case zqk4 => k_asm); (case zqa0 => (first | assumption | exact ViewAt.cons (by assumption))); (case zqa1 => (first | exact rfl | exact place_zero | exact place_pred (by omega) | exact place_succ)); (case zqk1 => k_asm); (case zqk2 => k_asm); (case zqk3 => k_asm); (case zqk5 => k_asm); (case zqkK => first | exact rfl | assumption); (case zqkd => first | exact room_le hdp (by decide) | ktr_room); (case zqku => first | exact units_le hun (by decide) | ktr_units); k_whole; intro t' h' tk' F' N'; (try k_sweep)))
  k_with "call ref" => (k_here; k_dflt (refine' use_int (con_line_end ?zqa0 ?zqa1) ?zqk1 ?zqk2 ?zqk3 ?zqk4 ?zqk5 ?zqkK ?zqkd ?zqku ?_; (case zqk4 => k_asm); (case zqa0 => (first | assumption | exact ViewAt.cons (by assumption))); (case zqa1 => (first | exact rfl | exact place_zero | exact place_pred (by omega) | exact place_succ)); (case zqk1 => k_asm); (case zqk2 => k_asm); (case zqk3 => k_asm); (case zqk5 => k_asm); (case zqkK => first | exact rfl | assumption); (case zqkd => first | exact room_le hdp (by decide) | ktr_room); (case zqku => first | exact units_le hun (by decide) | ktr_units); k_whole; intro t' h' tk' F' N'; (try k_sweep)))
  k_with "call ref" => (k_here; k_dflt (refine' use_int (con_next_start ?zqa0 ?zqa1) ?zqk1 ?zqk2 ?zqk3 ?zqk4 ?zqk5 ?zqkK ?zqkd ?zqku ?_; (case zqk4 => k_asm); (case zqa0 => (first | assumption | exact ViewAt.cons (by assumption))); (case zqa1 => (first | exact rfl | exact place_zero | exact place_pred (by omega) | exact place_succ)); (case zqk1 => k_asm); (case zqk2 => k_asm); (case zqk3 => k_asm); (case zqk5 => k_asm); (case zqkK => first | exact rfl | assumption); (case zqkd => first | exact room_le hdp (by decide) | ktr_room); (case zqku => first | exact units_le hun (by decide) | ktr_units); k_whole; intro t' h' tk' F' N'; (try k_sweep)))
  k_with "call ref" => (k_here; k_dflt (refine' use_bool (con_is_line_end ?zqa0 ?zqa1) ?zqk1 ?zqk2 ?zqk3 ?zqk4 ?zqk5 ?zqkK ?zqkd ?zqku ?_; (case zqk4 => k_asm); (case zqa0 => (first | assumption | exact ViewAt.cons (by assumption))); (case zqa1 => (first | exact rfl | exact place_zero | exact place_pred (by omega) | exact place_succ)); (case zqk1 => k_asm); (case zqk2 => k_asm); (case zqk3 => k_asm); (case zqk5 => k_asm); (case zqkK => first | exact rfl | assumption); (case zqkd => first | exact room_le hdp (by decide) | ktr_room); (case zqku => first | exact units_le hun (by decide) | ktr_units); k_whole; intro h' tk' F' N'; (try k_sweep)))
  k_with "call ref" => (k_here; k_dflt (refine' use_bool (con_parts ?zqa0 ?zqa1) ?zqk1 ?zqk2 ?zqk3 ?zqk4 ?zqk5 ?zqkK ?zqkd ?zqku ?_; (case zqk4 => k_asm); (case zqa0 => (first | assumption | exact ViewAt.cons (by assumption))); (case zqa1 => (first | exact rfl | exact place_zero | exact place_pred (by omega) | exact place_succ)); (case zqk1 => k_asm); (case zqk2 => k_asm); (case zqk3 => k_asm); (case zqk5 => k_asm); (case zqkK => first | exact rfl | assumption); (case zqkd => first | exact room_le hdp (by decide) | ktr_room); (case zqku => first | exact units_le hun (by decide) | ktr_units); k_whole; intro h' tk' F' N'; (try k_sweep)))
  k_with "call ref" => (k_here; k_dflt (refine' use_bool (con_begins ?zqa0 ?zqa1) ?zqk1 ?zqk2 ?zqk3 ?zqk4 ?zqk5 ?zqkK ?zqkd ?zqku ?_; (case zqk4 => k_asm); (case zqa0 => (first | assumption | exact ViewAt.cons (by assumption))); (case zqa1 => (first | exact rfl | exact place_zero | exact place_pred (by omega) | exact place_succ)); (case zqk1 => k_asm); (case zqk2 => k_asm); (case zqk3 => k_asm); (case zqk5 => k_asm); (case zqkK => first | exact rfl | assumption); (case zqkd => first | exact room_le hdp (by decide) | ktr_room); (case zqku => first | exact units_le hun (by decide) | ktr_units); k_whole; intro h' tk' F' N'; (try k_sweep)))
  k_with "call ref" => (k_here; k_dflt (refine' use_int (con_line_behind ?zqa0 ?zqa1) ?zqk1 ?zqk2 ?zqk3 ?zqk4 ?zqk5 ?zqkK ?zqkd ?zqku ?_; (case zqk4 => k_asm); (case zqa0 => (first | assumption | exact ViewAt.cons (by assumption))); (case zqa1 => (first | exact rfl | exact place_zero | exact place_pred (by omega) | exact place_succ)); (case zqk1 => k_asm); (case zqk2 => k_asm); (case zqk3 => k_asm); (case zqk5 => k_asm); (case zqkK => first | exact rfl | assumption); (case zqkd => first | exact room_le hdp (by decide) | ktr_room); (case zqku => first | exact units_le hun (by decide) | ktr_units); k_whole; intro t' h' tk' F' N'; (try k_sweep)))
  k_with "call ref" => (k_here; k_dflt (refine' use_int (con_past_parting ?zqa0 ?zqa1) ?zqk1 ?zqk2 ?zqk3 ?zqk4 ?zqk5 ?zqkK ?zqkd ?zqku ?_; (case zqk4 => k_asm); (case zqa0 => (first | assumption | exact ViewAt.cons (by assumption))); (case zqa1 => (first | exact rfl | exact place_zero | exact place_pred (by omega) | exact place_succ)); (case zqk1 => k_asm); (case zqk2 => k_asm); (case zqk3 => k_asm); (case zqk5 => k_asm); (case zqkK => first | exact rfl | assumption); (case zqkd => first | exact room_le hdp (by decide) | ktr_room); (case zqku => first | exact units_le hun (by decide) | ktr_units); k_whole; intro t' h' tk' F' N'; (try k_sweep)))
  k_with "call ref" => (k_here; k_dflt (refine' use_int (con_one_forward ?zqa0 ?zqa1) ?zqk1 ?zqk2 ?zqk3 ?zqk4 ?zqk5 ?zqkK ?zqkd ?zqku ?_; (case zqk4 => k_asm); (case zqa0 => (first | assumption | exact ViewAt.cons (by assumption))); (case zqa1 => (first | exact rfl | exact place_zero | exact place_pred (by omega) | exact place_succ)); (case zqk1 => k_asm); (case zqk2 => k_asm); (case zqk3 => k_asm); (case zqk5 => k_asm); (case zqkK => first | exact rfl | assumption); (case zqkd => first | exact room_le hdp (by decide) | ktr_room); (case zqku => first | exact units_le hun (by decide) | ktr_units); k_whole; intro t' h' tk' F' N'; (try k_sweep)))
  k_with "call ref" => (k_here; k_dflt (refine' use_bool (con_is_behind_empty ?zqa0 ?zqa1) ?zqk1 ?zqk2 ?zqk3 ?zqk4 ?zqk5 ?zqkK ?zqkd ?zqku ?_; (case zqk4 => k_asm); (case zqa0 => (first | assumption | exact ViewAt.cons (by assumption))); (case zqa1 => (first | exact rfl | exact place_zero | exact place_pred (by omega) | exact place_succ)); (case zqk1 => k_asm); (case zqk2 => k_asm); (case zqk3 => k_asm); (case zqk5 => k_asm); (case zqkK => first | exact rfl | assumption); (case zqkd => first | exact room_le hdp (by decide) | ktr_room); (case zqku => first | exact units_le hun (by decide) | ktr_units); k_whole; intro h' tk' F' N'; (try k_sweep)))
  k_with "exec While BoolOp cons nil" => (k_here; k_dflt (refine' while_view ?zqV (Str.ofString "at") cL gL mI cL_falls ?zqF ?zqN ?zqhx ?zqht ?zqhb ?zqdone ?zqhE; (case zqV => assumption); (case zqF => k_asm); (case zqN => k_asm); (case zqhx => exact rfl); (case zqhE => passes_own); (case' zqht => (intro i' t' h' tk' F' N'; try k_sweep)); (case' zqhb => (intro i' t' h' tk' hc' F' N'; (try have hp' := cL_pos hc'); (try have hp' := cK_pos hc'); try k_sweep)); (case' zqdone => (intro t' h' tk' F' N'; try k_sweep))))
  subst hp
  have V₀ := V
  have hpos := V₀.pos
  obtain ⟨d, c, t1, t2, t3, n, vs, h1, h2, h3, hi⟩ := V₀.at'
  clear V₀
  unfold Con
  intro dp un gd cn cs a ccd cl outer A₀ base h₀ L m s Q E B F X N T hk hdp hun hret
  refine wpAny_call ?_
  k_dflt cell_enter
  k_steps
  all_goals first
    | (refine tend (by k_asm) (by k_asm) ?_; k_unmd; grind [cL])
    | (refine bend (by k_asm) (by k_asm) rfl (fun z hz => (if_neg hz).trans (if_neg hz)) ?_; k_unmd; rfl)
    | (refine' hret _ _ _ _ ?zp ?zf ?zn; (case zn => k_asm); (case zf => k_asm); (case zp => exact ⟨_, _, _, rfl, rfl⟩))
end
/-! part V6 -/
section
variable {w : World} {mean : ExcName → Option Value} {mg mb : Str → Option Value} {news : Led} {v : Addr} {b : Int} {xs : List Int}
section
variable {b : Int} {xs : List Int} {i : Nat}
theorem bw1 (h : b + (i : Nat) = b) : (if b + (i : Nat) - 1 > b then b + (i : Nat) - 1 else b) = b + (oneBwd xs i : Nat) := by
  have hi : i = 0 := by omega
  have e : oneBwd xs i = i - 1 := if_pos (.inl hi)
  rw [e, if_neg (by omega)]; omega
theorem bw2 (h1 : b + (i : Nat) ≠ b) (h : behindEmpty xs i = true) : (if b + (i : Nat) - 1 > b then b + (i : Nat) - 1 else b) = b + (oneBwd xs i : Nat) := by
  have e : oneBwd xs i = i - 1 := if_pos (.inr h)
  rw [e]
  split <;> omega
theorem bw_pre (h1 : b + (i : Nat) ≠ b) (h2 : behindEmpty xs i = false) : ¬ (i = 0 ∨ behindEmpty xs i = true) := by
  rintro (h | h)
  · omega
  · rw [h2] at h; cases h
theorem bw3 (h1 : b + (i : Nat) ≠ b) (h2 : behindEmpty xs i = false) (h3 : b + (backPart xs i : Nat) = b) : b + (backPart xs i : Nat) = b + (oneBwd xs i : Nat) := by
  have e : backPart xs i = 0 := by omega
  rw [oneBwd, if_neg (bw_pre h1 h2), if_pos e, e]
theorem bw4 (h1 : b + (i : Nat) ≠ b) (h2 : behindEmpty xs i = false) (h3 : b + (backPart xs i : Nat) ≠ b) (h4 : begins xs (firstLine xs (backPart xs i)) = false) : b + (firstLine xs (backPart xs i) : Nat) = b + (oneBwd xs i : Nat) := by
  rw [oneBwd, if_neg (bw_pre h1 h2), if_neg (by omega), if_pos h4]
theorem bw_post (h1 : b + (i : Nat) ≠ b) (h2 : behindEmpty xs i = false) (h3 : b + (backPart xs i : Nat) ≠ b) (h4 : begins xs (firstLine xs (backPart xs i)) = true) : oneBwd xs i = emptyAbove xs (past xs (firstLine xs (backPart xs i))) := by
  rw [oneBwd, if_neg (bw_pre h1 h2), if_neg (by omega), if_neg (by rw [h4]; simp)]
theorem bw5 (h1 : b + (i : Nat) ≠ b) (h2 : behindEmpty xs i = false) (h3 : b + (backPart xs i : Nat) ≠ b) (h4 : begins xs (firstLine xs (backPart xs i)) = true)
    (h5 : b < b + (past xs (firstLine xs (backPart xs i)) : Nat)) (h6 : b + (lstart xs (past xs (firstLine xs (backPart xs i)) - 1) : Nat) = b + (past xs (firstLine xs (backPart xs i)) : Nat) - 1) :
    b + (past xs (firstLine xs (backPart xs i)) : Nat) - 1 = b + (oneBwd xs i : Nat) := by
  rw [bw_post h1 h2 h3 h4, emptyAbove, if_pos (by omega)]; omega
theorem bw6 (h1 : b + (i : Nat) ≠ b) (h2 : behindEmpty xs i = false) (h3 : b + (backPart xs i : Nat) ≠ b) (h4 : begins xs (firstLine xs (backPart xs i)) = true)
    (h6 : b + (lstart xs (past xs (firstLine xs (backPart xs i)) - 1) : Nat) ≠ b + (past xs (firstLine xs (backPart xs i)) : Nat) - 1) :
    b + (past xs (firstLine xs (backPart xs i)) : Nat) = b + (oneBwd xs i : Nat) := by
  rw [bw_post h1 h2 h3 h4, emptyAbove, if_neg (by omega)]
theorem bw7 (h1 : b + (i : Nat) ≠ b) (h2 : behindEmpty xs i = false) (h3 : b + (backPart xs i : Nat) ≠ b) (h4 : begins xs (firstLine xs (backPart xs i)) = true)
    (h5 : ¬ b < b + (past xs (firstLine xs (backPart xs i)) : Nat)) : b + (past xs (firstLine xs (backPart xs i)) : Nat) = b + (oneBwd xs i : Nat) := by
  rw [bw_post h1 h2 h3 h4, emptyAbove, if_neg (by omega)]
end
theorem fill6 : (hd.heap_39, PySem.Challenge.rw_np0017_01) = (hd.heap_39, PySem.Challenge.rw_np0017_01) := by
  k_fill
  rfl
local macro_rules | `(tactic| k_mem) => `(tactic| assumption)
theorem con_one_backward {p : Int} {i : Nat} {u : Tok} (V : ViewAt w news v b xs) (hp : p = b + (i : Nat)) : Con w mean mg mb 99 7 news [.ref v, .int p u] (PInt news (b + (oneBwd xs i : Nat))) := by
  k_with_none
  k_with "call ref" => (k_here; k_dflt (refine' use_int (con_begin ?zqa0) ?zqk1 ?zqk2 ?zqk3 ?zqk4 ?zqk5 ?zqkK ?zqkd ?zqku ?_; (case zqk4 => k_asm); (case zqa0 => (first | assumption | exact ViewAt.cons (by assumption))); (case zqk1 => k_asm); (case zqk2 => k_asm); (case zqk3 => k_asm); (case zqk5 => k_asm); (case zqkK => first | exact rfl | assumption); (case zqkd => first | exact room_le hdp (by decide) | ktr_room); (case zqku => first | exact units_le hun (by decide) | ktr_units); k_whole; intro t' h' tk' F' N'; (try k_sweep)))
  k_with "call ref" => (k_here; k_dflt (refine' use_int (con_end ?zqa0) ?zqk1 ?zqk2 ?zqk3 ?zqk4 ?zqk5 ?zqkK ?zqkd ?zqku ?_; (case zqk4 => k_asm); (case zqa0 => (first | assumption | exact ViewAt.cons (by assumption))); (case zqk1 => k_asm); (case zqk2 => k_asm); (case zqk3 => k_asm); (case zqk5 => k_asm); (case zqkK => first | exact rfl | assumption); (case zqkd => first | exact room_le hdp (by decide) | ktr_room); (case zqku => first | exact units_le hun (by decide) | ktr_units); k_whole; intro t' h' tk' F' N'; (try k_sweep)))
  k_with "call ref" => (k_here; k_dflt (refine' use_int (con_code ?zqa0 ?zqa1) ?zqk1 ?zqk2 ?zqk3 ?zqk4 ?zqk5 ?zqkK ?zqkd ?zqku ?_; (case zqk4 => k_asm); (case zqa0 => (first | assumption | exact ViewAt.cons (by assumption))); (case zqa1 => (first | exact rfl | exact place_zero | exact place_pred (by omega) | exact place_succ)); (case zqk1 => k_asm); (case zqk2 => k_asm); (case zqk3 => k_asm); (case zqk5 => k_asm); (case zqkK => first | exact rfl | assumption); (case zqkd => first | exact room_le hdp (by decide) | ktr_room); (case zqku => first | exact units_le hun (by decide) | ktr_units); k_whole; intro t' h' tk' F' N'; (try k_sweep)))
  k_with "call ref" => (k_here; k_dflt (refine' use_int (con_line_start ?zqa0 ?zqa1) ?zqk1 ?zqk2 ?zqk3 ?zqk4 ?zqk5 ?zqkK ?zqkd ?zqku ?_; (case zqk4 => k_asm); (case zqa0 => (first | assumption | exact ViewAt.cons (by assumption))); (case zqa1 => (first | exact rfl | exact place_zero | exact place_pred (by omega) | exact place_succ)); (case zqk1 => k_asm); (case zqk2 => k_asm); (case zqk3 => k_asm); (case zqk5 => k_asm); (case zqkK => first | exact rfl | assumption); (case zqkd => first | exact room_le hdp (by decide) | ktr_room); (case zqku => first | exact units_le hun (by decide) | ktr_units); k_whole; intro t' h' tk' F' N'; (try k_sweep)))
  k_with "call ref" => (k_here; k_dflt (refine' use_int (con_line_end ?zqa0 ?zqa1) ?zqk1 ?zqk2 ?zqk3 ?zqk4 ?zqk5 ?zqkK ?zqkd ?zqku ?_; (case zqk4 => k_asm); (case zqa0 => (first | assumption | exact ViewAt.cons (by assumption))); (case zqa1 => (first | exact rfl | exact place_zero | exact place_pred (by omega) | exact place_succ)); (case zqk1 => k_asm); (case zqk2 => k_asm); (case zqk3 => k_asm); (case zqk5 => k_asm); (case zqkK => first | exact rfl | assumption); (case zqkd => first | exact room_le hdp (by decide) | ktr_room); (case zqku => first | exact units_le hun (by decide) | ktr_units); k_whole; intro t' h' tk' F' N'; (try k_sweep)))
  k_with "call ref" => (k_here; k_dflt (refine' use_int (con_next_start ?zqa0 ?zqa1) ?zqk1 ?zqk2 ?zqk3 ?zqk4 ?zqk5 ?zqkK ?zqkd ?zqku ?_; (case zqk4 => k_asm); (case zqa0 => (first | assumption | exact ViewAt.cons (by assumption))); (case zqa1 => (first | exact rfl | exact place_zero | exact place_pred (by omega) | exact place_succ)); (case zqk1 => k_asm); (case zqk2 => k_asm); (case zqk3 => k_asm); (case zqk5 => k_asm); (case zqkK => first | exact rfl | assumption); (case zqkd => first | exact room_le hdp (by decide) | ktr_room); (case zqku => first | exact units_le hun (by decide) | ktr_units); k_whole; intro t' h' tk' F' N'; (try k_sweep)))
  k_with "call ref" => (k_here; k_dflt (refine' use_bool (con_is_line_end ?zqa0 ?zqa1) ?zqk1 ?zqk2 ?zqk3 ?zqk4 ?zqk5 ?zqkK ?zqkd ?zqku ?_; (case zqk4 => k_asm); (case zqa0 => (first | assumption | exact ViewAt.cons (by assumption))); (case zqa1 => (first | exact rfl | exact place_zero | exact place_pred (by omega) | exact place_succ)); (case zqk1 => k_asm); (case zqk2 => k_asm); (case zqk3 => k_asm); (case zqk5 => k_asm); (case zqkK => first | exact rfl | assumption); (case zqkd => first | exact room_le hdp (by decide) | ktr_room); (case zqku => first | exact units_le hun (by decide) | ktr_units); k_whole; intro h' tk' F' N'; (try k_sweep)))
  k_with "call ref" => (k_here; k_dflt (refine' use_bool (con_parts ?zqa0 ?zqa1) ?zqk1 ?zqk2 ?zqk3 ?zqk4 ?zqk5 ?zqkK ?zqkd ?zqku ?_; (case zqk4 => k_asm); (case zqa0 => (first | assumption | exact ViewAt.cons (by assumption))); (case zqa1 => (first | exact rfl | exact place_zero | exact place_pred (by omega) | exact place_succ)); (case zqk1 => k_asm); (case zqk2 => k_asm); (case zqk3 => k_asm); (case zqk5 => k_asm); (case zqkK => first | exact rfl | assumption); (case zqkd => first | exact room_le hdp (by decide) | ktr_room); (case zqku => first | exact units_le hun (by decide) | ktr_units); k_whole; intro h' tk' F' N'; (try k_sweep)))
  k_with "call ref" => (k_here; k_dflt (refine' use_bool (con_begins ?zqa0 ?zqa1) ?zqk1 ?zqk2 ?zqk3 ?zqk4 ?zqk5 ?zqkK ?zqkd ?zqku ?_; (case zqk4 => k_asm); (case zqa0 => (first | assumption | exact ViewAt.cons (by assumption))); (case zqa1 => (first | exact rfl | exact place_zero | exact place_pred (by omega) | exact place_succ)); (case zqk1 => k_asm); (case zqk2 => k_asm); (case zqk3 => k_asm); (case zqk5 => k_asm); (case zqkK => first | exact rfl | assumption); (case zqkd => first | exact room_le hdp (by decide) | ktr_room); (case zqku => first | exact units_le hun (by decide) | ktr_units); k_whole; intro h' tk' F' N'; (try k_sweep)))
  k_with "call ref" => (k_here; k_dflt (refine' use_int (con_line_behind ?zqa0 ?zqa1) ?zqk1 ?zqk2 ?zqk3 ?zqk4 ?zqk5 ?zqkK ?zqkd ?zqku ?_; (case zqk4 => k_asm); (case zqa0 => (first | assumption | exact ViewAt.cons (by assumption))); (case zqa1 => (first | exact rfl | exact place_zero | exact place_pred (by omega) | exact place_succ)); (case zqk1 => k_asm); (case zqk2 => k_asm); (case zqk3 => k_asm); (case zqk5 => k_asm); (case zqkK => first | exact rfl | assumption); (case zqkd => first | exact room_le hdp (by decide) | ktr_room); (case zqku => first | exact units_le hun (by decide) | ktr_units); k_whole; intro t' h' tk' F' N'; (try k_sweep)))
  k_with "call ref" => (k_here; k_dflt (refine' use_int (con_past_parting ?zqa0 ?zqa1) ?zqk1 ?zqk2 ?zqk3 ?zqk4 ?zqk5 ?zqkK ?zqkd ?zqku ?_; (case zqk4 => k_asm); (case zqa0 => (first | assumption | exact ViewAt.cons (by assumption))); (case zqa1 => (first | exact rfl | exact place_zero | exact place_pred (by omega) | exact place_succ)); (case zqk1 => k_asm); (case zqk2 => k_asm); (case zqk3 => k_asm); (case zqk5 => k_asm); (case zqkK => first | exact rfl | assumption); (case zqkd => first | exact room_le hdp (by decide) | ktr_room); (case zqku => first | exact units_le hun (by decide) | ktr_units); k_whole; intro t' h' tk' F' N'; (try k_sweep)))
  k_with "call ref" => (k_here; k_dflt (refine' use_int (con_one_forward ?zqa0 ?zqa1) ?zqk1 ?zqk2 ?zqk3 ?zqk4 ?zqk5 ?zqkK ?zqkd ?zqku ?_; (case zqk4 => k_asm); (case zqa0 => (first | assumption | exact ViewAt.cons (by assumption))); (case zqa1 => (first | exact rfl | exact place_zero | exact place_pred (by omega) | exact place_succ)); (case zqk1 => k_asm); (case zqk2 => k_asm); (case zqk3 => k_asm); (case zqk5 => k_asm); (case zqkK => first | exact rfl | assumption); (case zqkd => first | exact room_le hdp (by decide) | ktr_room); (case zqku => first | exact units_le hun (by decide) | ktr_units); k_whole; intro t' h' tk' F' N'; (try k_sweep)))
  k_with "call ref" => (k_here; k_dflt (refine' use_bool (con_is_behind_empty ?zqa0 ?zqa1) ?zqk1 ?zqk2 ?zqk3 ?zqk4 ?zqk5 ?zqkK ?zqkd ?zqku ?_; (case zqk4 => k_asm); (case zqa0 => (first | assumption | exact ViewAt.cons (by assumption))); (case zqa1 => (first | exact rfl | exact place_zero | exact place_pred (by omega) | exact place_succ)); (case zqk1 => k_asm); (case zqk2 => k_asm); (case zqk3 => k_asm); (case zqk5 => k_asm); (case zqkK => first | exact rfl | assumption); (case zqkd => first | exact room_le hdp (by decide) | ktr_room); (case zqku => first | exact units_le hun (by decide) | ktr_units); k_whole; intro h' tk' F' N'; (try k_sweep)))
  k_with "call ref" => (k_here; k_dflt (refine' con_use (con_first_line ?zqa0 ?zqa1) ?zqk1 ?zqk2 ?zqk3 ?zqk4 ?zqk5 ?zqkK ?zqkd ?zqku ?_; (case zqk4 => k_asm); (case zqa0 => (first | assumption | exact ViewAt.cons (by assumption))); (case zqa1 => (first | exact rfl | exact place_zero | exact place_pred (by omega) | exact place_succ)); (case zqk1 => k_asm); (case zqk2 => k_asm); (case zqk3 => k_asm); (case zqk5 => k_asm); (case zqkK => first | exact rfl | assumption); (case zqkd => first | exact room_le hdp (by decide) | ktr_room); (case zqku => first | exact units_le hun (by decide) | ktr_units); k_whole; intro r' nw' h' tk' hp' F' N'; obtain ⟨_, _, _, hr9, hn9⟩ := hp'; subst hr9; subst hn9; (try k_sweep)))
  k_with "exec While BoolOp cons nil" => (k_here; k_dflt (refine' while_view ?zqV (Str.ofString "at") cK gL mI cK_falls ?zqF ?zqN ?zqhx ?zqht ?zqhb ?zqdone ?zqhE; (case zqV => assumption); (case zqF => k_asm); (case zqN => k_asm); (case zqhx => exact rfl); (case zqhE => passes_own); (case' zqht => (intro i' t' h' tk' F' N'; try k_sweep)); (case' zqhb => (intro i' t' h' tk' hc' F' N'; (try have hp' := cL_pos hc'); (try have hp' := cK_pos hc'); try k_sweep)); (case' zqdone => (intro t' h' tk' F' N'; try k_sweep))))
  subst hp
  have V₀ := V
  have hpos := V₀.pos
  obtain ⟨d, c, t1, t2, t3, n, vs, h1, h2, h3, hi⟩ := V₀.at'
  clear V₀
  unfold Con
  intro dp un gd cn cs a ccd cl outer A₀ base h₀ L m s Q E B F X N T hk hdp hun hret
  refine wpAny_call ?_
  k_dflt cell_enter
  k_steps
  all_goals first
    | (refine tend (by k_asm) (by k_asm) ?_; k_unmd; grind [cK])
    | (refine bend (by k_asm) (by k_asm) rfl (fun z hz => (if_neg hz).trans (if_neg hz)) ?_; k_unmd; rfl)
    | (refine end_int hret (by k_asm) (by first | k_asm | exact cb_drop (by k_asm) (fun _ hp => .tail _ hp)) ?_; k_unmd; (first | exact bw1 (by assumption) | exact bw2 (by assumption) (by assumption) | exact bw3 (by assumption) (by assumption) (by assumption) | exact bw4 (by assumption) (by assumption) (by assumption) (by assumption) | exact bw5 (by assumption) (by assumption) (by assumption) (by assumption) (by assumption) (by assumption) | exact bw6 (by assumption) (by assumption) (by assumption) (by assumption) (by assumption) | exact bw7 (by assumption) (by assumption) (by assumption) (by assumption) (by assumption)))
    | (refine end_bool hret (by k_asm) (by k_asm) ?_; k_unmd; (first | exact bw1 (by assumption) | exact bw2 (by assumption) (by assumption) | exact bw3 (by assumption) (by assumption) (by assumption) | exact bw4 (by assumption) (by assumption) (by assumption) (by assumption) | exact bw5 (by assumption) (by assumption) (by assumption) (by assumption) (by assumption) (by assumption) | exact bw6 (by assumption) (by assumption) (by assumption) (by assumption) (by assumption) | exact bw7 (by assumption) (by assumption) (by assumption) (by assumption) (by assumption)))
end
/-! part F0 -/
section
def iterN (g : Nat → Nat) : Nat → Nat → Nat
  | 0, i => i
  | n + 1, i => g (iterN g n i)
/-- the end of a for loop's turn that stores val at y -/
def FEnd (s : Shared) (h₀ : Heap) (L : Addr) (m₀ : Str → Option Value) (x y : Str) (val : Int) (news own : Led) (f : Flow) (s₂ : Shared) : Prop :=
  f = .next ∧ ∃ h' tk' m' t', s₂ = { s with heap := h', toks := tk' } ∧ Fr h₀ L h' m' ∧ News h₀ L h' (news ++ own) ∧ m' y = some (.int val t') ∧ ∀ z, z ≠ x → z ≠ y → m' z = m₀ z
section
variable {prog : Program} {w : World} {A : Around} {E : Value → Shared → Prop} {s : Shared} {env : Env} {h₀ : Heap} {body : List Stmt} {Q : Flow → Shared → Prop} {news : Led}
theorem fend {L : Addr} {m₀ m' : Str → Option Value} {x y : Str} {val p : Int} {own nx : Led} {h' : Heap} {tk' : Nat} {t' : Tok} (F : Fr h₀ L h' m') (N : News h₀ L h' nx) (hs : ∀ p ∈ news ++ own, p ∈ nx) (hy : m' y = some (.int p t')) (hz : ∀ z, z ≠ x → z ≠ y → m' z = m₀ z) (e : p = val) :
    FEnd s h₀ L m₀ x y val news own .next { s with heap := h', toks := tk' } := ⟨rfl, h', tk', m', t', rfl, F, fun q hq => N q (hs q hq), by rw [hy, e], hz⟩
theorem for_iter {r : Addr} {b₀ : Int} {t₀ u₀ v₀ : Tok} {m₀ : Str → Option Value} (x y : Str) (hxy : y ≠ x) (enc : Nat → Int) (g : Nat → Nat) {i₀ : Nat} {ty : Tok}
    (hh : A.handled = none) (hr : IsRange s.heap r 0 b₀ 1 t₀ u₀ v₀) (hsmall : Builtin.Range.small 0 b₀ 1 = true) (F : Fr h₀ env.locals s.heap m₀) (N : News h₀ env.locals s.heap news) (hy : m₀ y = some (.int (enc i₀) ty))
    (turn : ∀ (k : Int) t (j : Nat) t' h tk own, Fr h₀ env.locals h (fun z => if z = x then some (.int k t) else if z = y then some (.int (enc j) t') else m₀ z) → News h₀ env.locals h (news ++ own) →
      wpAny (model prog w) A (execs body env) (FEnd s h₀ env.locals m₀ x y (enc (g j)) news own) E { s with heap := h, toks := tk })
    (done : ∀ (u : Option Value) t h tk, Fr h₀ env.locals h (fun z => if z = x then u else if z = y then some (.int (enc (iterN g b₀.toNat i₀)) t) else m₀ z) → News h₀ env.locals h news → Q .next { s with heap := h, toks := tk }) :
    wpAny (model prog w) A (pyIter (.ref r)) (fun it s₂ => LoopAtV prog w A h₀ env x body Q E it s₂) E s := by
  refine kpr_invN (a₀ := 0) (b₀ := b₀) (n := b₀.toNat) (fun i m nx => nx = news ∧ ∃ t, m y = some (.int (enc (iterN g i i₀)) t) ∧ ∀ z, z ≠ x → z ≠ y → m z = m₀ z) hh hr hsmall (by rw [rangeSize_nat, Int.sub_zero]) F N ⟨rfl, ty, hy, fun _ _ _ => rfl⟩ ?_ ?_
  · rintro i k t m₁ nx h tk own _ _ ⟨rfl, t', hm, hz⟩ F₁ N₁
    have em : (fun z => if z = x then some (Value.int k t) else m₁ z) = fun z => if z = x then some (Value.int k t) else if z = y then some (.int (enc (iterN g i i₀)) t') else m₀ z := by
      funext z
      by_cases h1 : z = x
      · rw [if_pos h1, if_pos h1]
      · rw [if_neg h1, if_neg h1]
        by_cases h2 : z = y
        · rw [if_pos h2, h2, hm]
        · rw [if_neg h2, hz z h1 h2]
    rw [em] at F₁
    refine wpAny_mono (turn k t _ t' h tk own F₁ N₁) (fun f s₂ hq => ?_) fun _ _ e => e
    obtain ⟨rfl, h', tk', m', t'', rfl, F₂, N₂, hy', hz'⟩ := hq
    exact ⟨h', tk', m', _, nx, rfl, F₂, N₂, fun p hp => List.mem_append.mpr (.inl hp), fun p hp => List.mem_append.mpr (.inr hp), rfl, rfl, t'', hy', hz'⟩
  · rintro m₁ nx h tk ⟨rfl, t, hm, hz⟩ F₁ N₁
    rw [rangeKs_length] at hm
    refine done (m₁ x) t h tk ?_ N₁
    have em : m₁ = fun z => if z = x then m₁ x else if z = y then some (.int (enc (iterN g b₀.toNat i₀)) t) else m₀ z := by
      funext z
      by_cases h1 : z = x
      · rw [if_pos h1, h1]
      · rw [if_neg h1]
        by_cases h2 : z = y
        · rw [if_pos h2, h2, hm]
        · rw [if_neg h2, hz z h1 h2]
    rw [em] at F₁
    simpa using F₁
end
section
variable {w : World} {news own : Led} {v : Addr} {b : Int} {xs : List Int}
theorem ViewAt.sub {nx : Led} (V : ViewAt w news v b xs) (hs : ∀ p ∈ news, p ∈ nx) : ViewAt w nx v b xs :=
  ⟨by obtain ⟨d, c, t1, t2, t3, n, vs, h1, h2, h3, hi⟩ := V.at'; exact ⟨d, c, t1, t2, t3, n, vs, hs _ h1, hs _ h2, hs _ h3, hi⟩, V.fit, V.pos⟩
theorem ViewAt.app (V : ViewAt w news v b xs) : ViewAt w (news ++ own) v b xs := V.sub fun _ hp => List.mem_append.mpr (.inl hp)
end
end
/-! part C0 -/
section
/-- an evaluation's end: the value is as P says; frame and ledger stand -/
def VEnd (s : Shared) (h₀ : Heap) (L : Addr) (m : Str → Option Value) (news : Led) (P : Value → Prop) (v : Value) (s₂ : Shared) : Prop :=
  P v ∧ ∃ h' tk', s₂ = { s with heap := h', toks := tk' } ∧ Fr h₀ L h' m ∧ News h₀ L h' news
theorem vend {s : Shared} {h₀ h' : Heap} {L : Addr} {m : Str → Option Value} {news : Led} {P : Value → Prop} {v : Value} {tk' : Nat} (F : Fr h₀ L h' m) (N : News h₀ L h' news) (e : P v) : VEnd s h₀ L m news P v { s with heap := h', toks := tk' } := ⟨e, h', tk', rfl, F, N⟩
section
variable {prog : Program} {w : World} {A : Around} {h₀ : Heap} {L : Addr} {m : Str → Option Value} {env : Env} {ct elt : PySem.Expr} {x : Str} {scope : Scope} {cl : List (Str × Addr)} {s : Shared} {S : Led → Prop} {Fin : List Value → Led → Prop} {news : Led}
theorem filt_foldl (p : Int → Bool) : ∀ (ks acc : List Int), ks.foldl (fun l k => if p k = true then l ++ [k] else l) acc = acc ++ ks.filter p
  | [], acc => by simp
  | k :: ks, acc => by
    rw [List.foldl_cons, filt_foldl p ks]
    cases hp : p k <;> simp [hp]
theorem filt_grows (p : Int → Bool) : KPfGrows (fun (l : List Int) (k : Int) => if p k = true then l ++ [k] else l) := by
  intro l k
  dsimp only
  split <;> simp
theorem comp_filter {vs : List Value} {ks : List Int} (p : Int → Bool) (hi : IntsAre vs ks) (hS : S news)
    (test : ∀ k t I oI C oC D m₂ ys h tk (E' : Value → Shared → Prop), LCg.NsObj oC m₂ → m₂ x = some (.int k t) → Fr h₀ L h m → News h₀ L h ((I, oI) :: (C, oC) :: (D, LCg.lst ys) :: news) → LCg.Off3 I C D news →
      wpAny (model prog w) A (isTrue ct (compEnvC scope cl C env) (eval ct (compEnvC scope cl C env))) (TEnd { s with heap := h, toks := tk } h₀ L m ((I, oI) :: (C, oC) :: (D, LCg.lst ys) :: news) (p k)) E' { s with heap := h, toks := tk })
    (item : ∀ k t I oI C oC D m₂ ys h tk (E' : Value → Shared → Prop), LCg.NsObj oC m₂ → m₂ x = some (.int k t) → Fr h₀ L h m → News h₀ L h ((I, oI) :: (C, oC) :: (D, LCg.lst ys) :: news) → LCg.Off3 I C D news →
      wpAny (model prog w) A (eval elt (compEnvC scope cl C env)) (VEnd { s with heap := h, toks := tk } h₀ L m ((I, oI) :: (C, oC) :: (D, LCg.lst ys) :: news) (fun v => ∃ t, v = .int k t)) E' { s with heap := h, toks := tk })
    (fin : ∀ ys, IntsAre ys (ks.filter p) → Fin ys news) :
    LCt.CompRestT prog w A h₀ L m env ct elt x scope cl s S (fun i v => vs.toArray[i]? = some v) Fin vs.toArray.size 0 [] news := by
  refine kci_list (fun l k => if p k = true then l ++ [k] else l) hi ?_ (fun ys h _ => fin ys (by rw [filt_foldl] at h; simpa using h)) (filt_grows p)
  intro k t I oI C oC D m₂ ys l h tk E' _ _ hC hx F N off ne _
  refine wpAny_mono (test k t I oI C oC D m₂ ys h tk E' hC hx F N off) (fun bb s₂ hb => ?_) fun _ _ e => e
  obtain ⟨rfl, h', tk', rfl, F', N'⟩ := hb
  cases hp : p k with
  | true =>
    rw [if_pos rfl]
    have z := N' (C, oC) (.tail _ (.head _))
    refine wpAny_mono (item k t I oI C oC D m₂ ys h' tk' E' hC hx F' N' off) (fun v s₃ hv => ?_) fun _ _ e => e
    obtain ⟨⟨t', rfl⟩, h'', tk'', rfl, F'', N''⟩ := hv
    exact ⟨h'', tk'', news, rfl, F'', N'', off, hS, rfl, k, t', rfl, by simp⟩
  | false =>
    rw [if_neg (by simp)]
    exact ⟨h', tk', news, rfl, F', N', off, hS, rfl, by simp⟩
end
end
/-! part L1 -/
section
def menu : List Str := [Str.ofString "", Str.ofString "a", Str.ofString "b c", Str.ofString " ", Str.ofString "\t", Str.ofString "\x0cd", Str.ofString "\x0c", Str.ofString "e"]
def sCodes (y : Str) : List Int := y.cps.toList.map fun (k : Nat) => (k : Int)
def partS (y : Str) : Bool := (sCodes y).all blank
def beginS (y : Str) : Bool := partS y || decide ((sCodes y).head? = some 12)
theorem menu_at {ys : List Str} (hm : ∀ y ∈ ys, y ∈ menu) (k : Nat) : ys.getD k Str.empty ∈ menu := by
  rw [List.getD_eq_getElem?_getD]
  by_cases hk : k < ys.length
  · rw [List.getElem?_eq_getElem hk]; exact hm _ (List.getElem_mem hk)
  · rw [List.getElem?_eq_none (by omega)]; exact .head _
variable {w : World} {mean : ExcName → Option Value} {mg mb : Str → Option Value} {news : Led}
theorem fillL1 : (hd.heap_39, PySem.Challenge.rw_np0017_01) = (hd.heap_39, PySem.Challenge.rw_np0017_01) := by
  k_fill
  rfl
theorem con_lparting {y : Str} {u : Tok} (hy : y ∈ menu) : Con w mean mg mb 187 1 news [.str y u] (PBool news (partS y)) := by
  k_with_none
  have hy0 := hy
  simp only [menu, List.mem_cons, List.not_mem_nil, or_false] at hy
  unfold Con
  intro dp un gd cn cs a ccd cl outer A₀ base h₀ L m s Q E B F X N T hk hdp hun hret
  rcases hy with rfl | rfl | rfl | rfl | rfl | rfl | rfl | rfl
  all_goals (
    refine wpAny_call ?_
    k_dflt cell_enter
    k_steps
    all_goals first
      | (refine end_bool hret (by k_asm) (by k_asm) ?_; k_unmd; decide +kernel)
      | (rename partS _ = true => hq; exact absurd hq (by decide +kernel))
      | (rename partS _ = false => hq; exact absurd hq (by decide +kernel)))
theorem con_lbegin {y : Str} {u : Tok} (hy : y ∈ menu) : Con w mean mg mb 194 2 news [.str y u] (PBool news (beginS y)) := by
  k_with_none
  k_with "call ref" => (k_here; k_dflt (refine' use_bool (con_lparting ?zqa0) ?zqk1 ?zqk2 ?zqk3 ?zqk4 ?zqk5 ?zqkK ?zqkd ?zqku ?_; (case zqk4 => k_asm); (case zqa0 => (first | assumption | exact menu_at (by assumption) _)); (case zqk1 => k_asm); (case zqk2 => k_asm); (case zqk3 => k_asm); (case zqk5 => k_asm); (case zqkK => first | exact rfl | assumption); (case zqkd => first | exact room_le hdp (by decide) | ktr_room); (case zqku => first | exact units_le hun (by decide) | ktr_units); k_whole; intro h' tk' F' N'; (try k_sweep)))
  have hy0 := hy
  simp only [menu, List.mem_cons, List.not_mem_nil, or_false] at hy
  unfold Con
  intro dp un gd cn cs a ccd cl outer A₀ base h₀ L m s Q E B F X N T hk hdp hun hret
  rcases hy with rfl | rfl | rfl | rfl | rfl | rfl | rfl | rfl
  all_goals (
    refine wpAny_call ?_
    k_dflt cell_enter
    k_steps
    all_goals first
      | (refine end_bool hret (by k_asm) (by k_asm) ?_; k_unmd; decide +kernel)
      | (rename partS _ = true => hq; exact absurd hq (by decide +kernel))
      | (rename partS _ = false => hq; exact absurd hq (by decide +kernel)))
end
/-! part C1 -/
section
abbrev nums (ss : List Nat) : List Int := ss.map fun (k : Nat) => (k : Int)
structure LinesAt (news : Led) (l : Addr) (ys : List Str) : Prop where
  at' : ∃ (vs : List Value) (n : Nat), (l, PySem.W.listOf vs.toArray n) ∈ news ∧ StrsAre vs ys
  fit : ys.length < 2 ^ 20
  menu : ∀ y ∈ ys, y ∈ menu
structure NumsAt (news : Led) (l : Addr) (ss : List Nat) : Prop where
  at' : ∃ (vs : List Value) (n : Nat), (l, PySem.W.listOf vs.toArray n) ∈ news ∧ IntsAre vs (nums ss)
  fit : ss.length < 2 ^ 20
def rowOf (ss : List Nat) (i : Nat) : Nat := (ss.filter fun s => decide (s ≤ i)).length - 1
theorem nat_succ {r : Nat} : (r : Int) + 1 = ((r + 1 : Nat) : Int) := by omega
theorem nat_pred {r : Nat} (h : 0 < r) : (r : Int) - 1 = ((r - 1 : Nat) : Int) := by omega
theorem row_eq {n r : Nat} (h : n = r + 1) : (n : Int) - 1 = (r : Int) := by omega
theorem rowOf_len {ss : List Nat} {i : Nat} (h0 : ss.head? = some 0) : (nums (ss.filter fun s => decide (s ≤ i))).length = rowOf ss i + 1 := by
  cases ss with
  | nil => cases h0
  | cons a r =>
    have ha : a = 0 := by simpa using h0
    subst ha
    simp [rowOf, List.filter_cons]
theorem rowOf_lt {ss : List Nat} {i : Nat} (h0 : ss.head? = some 0) : rowOf ss i < ss.length := by
  have h := rowOf_len (i := i) h0
  rw [List.length_map] at h
  have := List.length_filter_le (fun s => decide (s ≤ i)) ss
  omega
theorem nums_filter (ss : List Nat) (i : Nat) : (nums ss).filter (fun z => decide (z ≤ (i : Int))) = nums (ss.filter fun s => decide (s ≤ i)) := by
  induction ss with
  | nil => rfl
  | cons a r ih =>
    simp only [nums, List.map_cons, List.filter_cons] at ih ⊢
    by_cases h : a ≤ i
    · have h' : (a : Int) ≤ (i : Int) := by omega
      simp only [h, h', decide_true, if_true, List.map_cons, ih]
    · have h' : ¬ (a : Int) ≤ (i : Int) := by omega
      simp only [h, h', decide_false, Bool.false_eq_true, if_false, ih]
section
variable {prog : Program} {w : World} {A : Around} {E : Value → Shared → Prop} {s : Shared} {h₀ : Heap} {L c : Addr} {news : Led} {vs : List Value} {ys : List Str} {ss : List Nat} {n : Nat}
theorem strs_len : ∀ {vs : List Value} {ys : List Str}, StrsAre vs ys → vs.length = ys.length
  | _, _, .nil => rfl
  | _, _, .cons _ _ h => by rw [List.length_cons, List.length_cons, strs_len h]
theorem strs_get : ∀ {vs : List Value} {ys : List Str}, StrsAre vs ys → ∀ k, k < ys.length → ∃ t, vs[k]? = some (.str (ys.getD k Str.empty) t)
  | _, _, .nil, _, h => absurd h (Nat.not_lt_zero _)
  | _, _, .cons y t h, 0, _ => ⟨t, rfl⟩
  | _, _, .cons y t h, k + 1, hk => by
    obtain ⟨t', e⟩ := strs_get h k (by simpa using hk)
    exact ⟨t', by simpa using e⟩
theorem my_slen {Q : Value → Shared → Prop} (N : News h₀ L s.heap news) (hm : (c, PySem.W.listOf vs.toArray n) ∈ news) (hi : StrsAre vs ys) (hfit : ys.length < 2 ^ 62)
    (h : Q (.int ys.length (s.toks + 1)) { s with toks := s.toks + 1 + 1 }) : wpAny (model prog w) A (call (.builtin "len") [.ref c]) Q E s := by
  have e : (List.toArray vs).size = ys.length := by rw [List.size_toArray]; exact strs_len hi
  exact call_len_list (my_list N hm) (by rw [e]; omega) (by rw [e]; exact h)
theorem my_sitem {value slice : PySem.Expr} {k : Int} {r : Nat} {u : Tok} {Q : Value → Shared → Prop} (N : News h₀ L s.heap news) (hm : (c, PySem.W.listOf vs.toArray n) ∈ news) (hi : StrsAre vs ys)
    (hk : k = (r : Int)) (h1 : r < ys.length) (hfit : ys.length < 2 ^ 62) (h : ∀ t, Q (.str (ys.getD r Str.empty) t) s)
    (hs : subscripted slice false (.ref c) (.int k u) = operate [.ref c, .int k u] (getItem (.ref c) (.int k u)) := by with_unfolding_all rfl) :
    wpAny (model prog w) A (subscriptTail value slice (.ref c) (.int k u)) Q E s := by
  have hl := my_list N hm
  have e : k.toNat = r := by omega
  obtain ⟨t, ht⟩ := strs_get hi r h1
  exact tail_any hl.typeIs slot_list_getitem.lookup (wpAny_getItem_list hl (by omega) (by omega) (by rw [e]; simpa using ht) (h t)) hs
theorem my_nitem {value slice : PySem.Expr} {k : Int} {r : Nat} {u : Tok} {Q : Value → Shared → Prop} (N : News h₀ L s.heap news) (hm : (c, PySem.W.listOf vs.toArray n) ∈ news) (hi : IntsAre vs (nums ss))
    (hk : k = (r : Int)) (h1 : r < ss.length) (hfit : ss.length < 2 ^ 62) (h : ∀ t, Q (.int ((ss.getD r 0 : Nat) : Int) t) s)
    (hs : subscripted slice false (.ref c) (.int k u) = operate [.ref c, .int k u] (getItem (.ref c) (.int k u)) := by with_unfolding_all rfl) :
    wpAny (model prog w) A (subscriptTail value slice (.ref c) (.int k u)) Q E s := by
  refine my_item N hm hi (by omega) (by simp; omega) (by simp; omega) (fun t => ?_) hs
  have e : k.toNat = r := by omega
  have e2 : (nums ss).getD k.toNat 0 = ((ss.getD r 0 : Nat) : Int) := by
    rw [e, List.getD_eq_getElem?_getD, List.getD_eq_getElem?_getD, List.getElem?_map, List.getElem?_eq_getElem h1]; rfl
  rw [e2]; exact h t
end
section
variable {prog : Program} {w : World} {A : Around} {h₀ : Heap} {L : Addr} {m : Str → Option Value} {env : Env} {ct elt : PySem.Expr} {x : Str} {scope : Scope} {cl : List (Str × Addr)} {s : Shared} {S : Led → Prop} {Fin : List Value → Led → Prop} {news : Led}
theorem comp_le {vs : List Value} {ss : List Nat} {z : Int} {i : Nat} (hi : IntsAre vs (nums ss)) (h0 : ss.head? = some 0) (hS : S news)
    (test : ∀ k t I oI C oC D m₂ ys h tk (E' : Value → Shared → Prop), LCg.NsObj oC m₂ → m₂ x = some (.int k t) → Fr h₀ L h m → News h₀ L h ((I, oI) :: (C, oC) :: (D, LCg.lst ys) :: news) → LCg.Off3 I C D news →
      wpAny (model prog w) A (isTrue ct (compEnvC scope cl C env) (eval ct (compEnvC scope cl C env))) (TEnd { s with heap := h, toks := tk } h₀ L m ((I, oI) :: (C, oC) :: (D, LCg.lst ys) :: news) (decide (k ≤ z))) E' { s with heap := h, toks := tk })
    (item : ∀ k t I oI C oC D m₂ ys h tk (E' : Value → Shared → Prop), LCg.NsObj oC m₂ → m₂ x = some (.int k t) → Fr h₀ L h m → News h₀ L h ((I, oI) :: (C, oC) :: (D, LCg.lst ys) :: news) → LCg.Off3 I C D news →
      wpAny (model prog w) A (eval elt (compEnvC scope cl C env)) (VEnd { s with heap := h, toks := tk } h₀ L m ((I, oI) :: (C, oC) :: (D, LCg.lst ys) :: news) (fun v => ∃ t, v = .int k t)) E' { s with heap := h, toks := tk })
    (hz : z = (i : Int))
    (fin : ∀ ys, IntsAre ys (nums (ss.filter fun s => decide (s ≤ i))) → (nums (ss.filter fun s => decide (s ≤ i))).length = rowOf ss i + 1 → rowOf ss i < ss.length → Fin ys news) :
    LCt.CompRestT prog w A h₀ L m env ct elt x scope cl s S (fun i v => vs.toArray[i]? = some v) Fin vs.toArray.size 0 [] news := by
  subst hz
  exact comp_filter (fun z => decide (z ≤ (i : Int))) hi hS test item fun ys h => by rw [nums_filter] at h; exact fin ys h (rowOf_len h0) (rowOf_lt h0)
end
/-- a turn's end: it stores the number j at the one name -/
def NEnd (s : Shared) (h₀ : Heap) (L : Addr) (m₀ : Str → Option Value) (x : Str) (j : Nat) (news : Led) (f : Flow) (s₂ : Shared) : Prop :=
  f = .next ∧ ∃ h' tk' m' t', s₂ = { s with heap := h', toks := tk' } ∧ Fr h₀ L h' m' ∧ News h₀ L h' news ∧ m' x = some (.int (j : Int) t') ∧ ∀ z, z ≠ x → m' z = m₀ z
theorem nend {s : Shared} {h₀ h' : Heap} {L : Addr} {m' m₀ : Str → Option Value} {news : Led} {tk' : Nat} {x : Str} {p : Int} {j : Nat} {t' : Tok} (F : Fr h₀ L h' m') (N : News h₀ L h' news) (hx : m' x = some (.int p t')) (hz : ∀ z, z ≠ x → m' z = m₀ z) (e : p = (j : Int)) :
    NEnd s h₀ L m₀ x j news .next { s with heap := h', toks := tk' } := ⟨rfl, h', tk', m', t', rfl, F, N, by rw [hx, e], hz⟩
section
variable {prog : Program} {w : World} {A : Around} {E : Value → Shared → Prop} {Q : Flow → Shared → Prop} {s : Shared} {env : Env} {h₀ : Heap} {L : Addr} {news : Led}
theorem while_nat {test : PySem.Expr} {body : List Stmt} {pos : Pos} {m₀ : Str → Option Value} (x : Str) {c : Nat → Bool} {g μ : Nat → Nat} (P : Nat → Prop) {p : Int} {i₀ : Nat} {t₀ : Tok}
    (hμ : ∀ i, P i → c i = true → μ (g i) < μ i ∧ P (g i)) (F : Fr h₀ L s.heap m₀) (N : News h₀ L s.heap news) (hx : m₀ x = some (.int p t₀)) (hp : p = (i₀ : Int)) (hP : P i₀)
    (htest : ∀ (i : Nat) t h tk, P i → Fr h₀ L h (fun y => if y = x then some (.int (i : Int) t) else m₀ y) → News h₀ L h news →
      wpAny (model prog w) A (isTrue test env (eval test env)) (TEnd s h₀ L (fun y => if y = x then some (.int (i : Int) t) else m₀ y) news (c i)) E { s with heap := h, toks := tk })
    (hbody : ∀ (i : Nat) t h tk, P i → c i = true → Fr h₀ L h (fun y => if y = x then some (.int (i : Int) t) else m₀ y) → News h₀ L h news →
      wpAny (model prog w) A (execs body env) (NEnd s h₀ L m₀ x (g i) news) E { s with heap := h, toks := tk })
    (done : ∀ t h tk, P (loop c g μ i₀) → c (loop c g μ i₀) = false → Fr h₀ L h (fun y => if y = x then some (.int ((loop c g μ i₀ : Nat) : Int) t) else m₀ y) → News h₀ L h news → Q .next { s with heap := h, toks := tk })
    (hE : PassesOwn (model prog w) A env E := by passes_own) : wpAny (model prog w) A (exec (.While test body [] pos) env) Q E s := by
  subst hp
  have hc0 := loop_end hμ hP
  have z : ∀ i : Nat, (0 : Int) + (i : Nat) = (i : Int) := fun i => Int.zero_add _
  refine while_at (b := 0) x P hμ F N (by rw [z]; exact hx) hP ?_ ?_ ?_ hE
  · intro i t h tk hp F' N'
    simp only [z] at F' ⊢
    exact htest i t h tk hp F' N'
  · intro i t h tk hp hc F' N'
    simp only [z] at F'
    refine wpAny_mono (hbody i t h tk hp hc F' N') (fun f s₂ hq => ?_) fun _ _ e => e
    obtain ⟨rfl, h', tk', m', t', rfl, F₃, N₃, hx', hz⟩ := hq
    exact ⟨rfl, h', tk', m', t', rfl, F₃, N₃, by rw [z]; exact hx', hz⟩
  · intro t h tk hp F' N'
    simp only [z] at F'
    exact done t h tk hp hc0 F' N'
end
end
/-! part V7 -/
section
variable {w : World} {mean : ExcName → Option Value} {mg mb : Str → Option Value} {news : Led} {v : Addr} {b : Int} {xs : List Int}
section
variable {prog : Program} {w : World} {A : Around} {E : Value → Shared → Prop} {s : Shared} {env : Env} {h₀ : Heap} {body : List Stmt} {Q : Flow → Shared → Prop} {news : Led}
theorem for_view {v : Addr} {b : Int} {xs : List Int} (_V : ViewAt w news v b xs) {r : Addr} {b₀ : Int} {t₀ u₀ v₀ : Tok} {m₀ : Str → Option Value} (x y : Str) (hxy : y ≠ x) (g : List Int → Nat → Nat) {i₀ : Nat} {ty : Tok}
    (hh : A.handled = none) (hr : IsRange s.heap r 0 b₀ 1 t₀ u₀ v₀) (hsmall : Builtin.Range.small 0 b₀ 1 = true) (F : Fr h₀ env.locals s.heap m₀) (N : News h₀ env.locals s.heap news) (hy : m₀ y = some (.int (b + (i₀ : Nat)) ty))
    (turn : ∀ (k : Int) t (j : Nat) t' h tk own, Fr h₀ env.locals h (fun z => if z = x then some (.int k t) else if z = y then some (.int (b + (j : Nat)) t') else m₀ z) → News h₀ env.locals h (news ++ own) →
      wpAny (model prog w) A (execs body env) (FEnd s h₀ env.locals m₀ x y (b + (g xs j : Nat)) news own) E { s with heap := h, toks := tk })
    (done : ∀ (u : Option Value) t h tk, Fr h₀ env.locals h (fun z => if z = x then u else if z = y then some (.int (b + (iterN (g xs) b₀.toNat i₀ : Nat)) t) else m₀ z) → News h₀ env.locals h news → Q .next { s with heap := h, toks := tk }) :
    wpAny (model prog w) A (pyIter (.ref r)) (fun it s₂ => LoopAtV prog w A h₀ env x body Q E it s₂) E s :=
  for_iter x y hxy (fun j => b + (j : Nat)) (g xs) hh hr hsmall F N hy turn done
end
theorem fill7 : (hd.heap_39, PySem.Challenge.rw_np0017_01) = (hd.heap_39, PySem.Challenge.rw_np0017_01) := by
  k_fill
  rfl
local macro_rules | `(tactic| k_mem) => `(tactic| assumption)
theorem con_target_fwd {p : Int} {i : Nat} {u : Tok} {mm : Int} {k : Nat} {u2 : Tok} (V : ViewAt w news v b xs) (hp : p = b + (i : Nat)) (hm : mm = (k : Int)) (hk1 : 1 ≤ k) (hk2 : k < 1000) : Con w mean mg mb 106 8 news [.ref v, .int p u, .int mm u2] (PInt news (b + (iterN (oneFwd xs) k i : Nat))) := by
  k_with_none
  k_with "call ref" => (k_here; k_dflt (refine' use_int (con_begin ?zqa0) ?zqk1 ?zqk2 ?zqk3 ?zqk4 ?zqk5 ?zqkK ?zqkd ?zqku ?_; (case zqk4 => k_asm); (case zqa0 => (first | assumption | exact ViewAt.cons (by assumption) | exact ViewAt.app (by assumption))); (case zqk1 => k_asm); (case zqk2 => k_asm); (case zqk3 => k_asm); (case zqk5 => k_asm); (case zqkK => first | exact rfl | assumption); (case zqkd => first | exact room_le hdp (by decide) | ktr_room); (case zqku => first | exact units_le hun (by decide) | ktr_units); k_whole; intro t' h' tk' F' N'; (try k_sweep)))
  k_with "call ref" => (k_here; k_dflt (refine' use_int (con_end ?zqa0) ?zqk1 ?zqk2 ?zqk3 ?zqk4 ?zqk5 ?zqkK ?zqkd ?zqku ?_; (case zqk4 => k_asm); (case zqa0 => (first | assumption | exact ViewAt.cons (by assumption) | exact ViewAt.app (by assumption))); (case zqk1 => k_asm); (case zqk2 => k_asm); (case zqk3 => k_asm); (case zqk5 => k_asm); (case zqkK => first | exact rfl | assumption); (case zqkd => first | exact room_le hdp (by decide) | ktr_room); (case zqku => first | exact units_le hun (by decide) | ktr_units); k_whole; intro t' h' tk' F' N'; (try k_sweep)))
  k_with "call ref" => (k_here; k_dflt (refine' use_int (con_code ?zqa0 ?zqa1) ?zqk1 ?zqk2 ?zqk3 ?zqk4 ?zqk5 ?zqkK ?zqkd ?zqku ?_; (case zqk4 => k_asm); (case zqa0 => (first | assumption | exact ViewAt.cons (by assumption) | exact ViewAt.app (by assumption))); (case zqa1 => (first | exact rfl | exact place_zero | exact place_pred (by omega) | exact place_succ)); (case zqk1 => k_asm); (case zqk2 => k_asm); (case zqk3 => k_asm); (case zqk5 => k_asm); (case zqkK => first | exact rfl | assumption); (case zqkd => first | exact room_le hdp (by decide) | ktr_room); (case zqku => first | exact units_le hun (by decide) | ktr_units); k_whole; intro t' h' tk' F' N'; (try k_sweep)))
  k_with "call ref" => (k_here; k_dflt (refine' use_int (con_line_start ?zqa0 ?zqa1) ?zqk1 ?zqk2 ?zqk3 ?zqk4 ?zqk5 ?zqkK ?zqkd ?zqku ?_; (case zqk4 => k_asm); (case zqa0 => (first | assumption | exact ViewAt.cons (by assumption) | exact ViewAt.app (by assumption))); (case zqa1 => (first | exact rfl | exact place_zero | exact place_pred (by omega) | exact place_succ)); (case zqk1 => k_asm); (case zqk2 => k_asm); (case zqk3 => k_asm); (case zqk5 => k_asm); (case zqkK => first | exact rfl | assumption); (case zqkd => first | exact room_le hdp (by decide) | ktr_room); (case zqku => first | exact units_le hun (by decide) | ktr_units); k_whole; intro t' h' tk' F' N'; (try k_sweep)))
  k_with "call ref" => (k_here; k_dflt (refine' use_int (con_line_end ?zqa0 ?zqa1) ?zqk1 ?zqk2 ?zqk3 ?zqk4 ?zqk5 ?zqkK ?zqkd ?zqku ?_; (case zqk4 => k_asm); (case zqa0 => (first | assumption | exact ViewAt.cons (by assumption) | exact ViewAt.app (by assumption))); (case zqa1 => (first | exact rfl | exact place_zero | exact place_pred (by omega) | exact place_succ)); (case zqk1 => k_asm); (case zqk2 => k_asm); (case zqk3 => k_asm); (case zqk5 => k_asm); (case zqkK => first | exact rfl | assumption); (case zqkd => first | exact room_le hdp (by decide) | ktr_room); (case zqku => first | exact units_le hun (by decide) | ktr_units); k_whole; intro t' h' tk' F' N'; (try k_sweep)))
  k_with "call ref" => (k_here; k_dflt (refine' use_int (con_next_start ?zqa0 ?zqa1) ?zqk1 ?zqk2 ?zqk3 ?zqk4 ?zqk5 ?zqkK ?zqkd ?zqku ?_; (case zqk4 => k_asm); (case zqa0 => (first | assumption | exact ViewAt.cons (by assumption) | exact ViewAt.app (by assumption))); (case zqa1 => (first | exact rfl | exact place_zero | exact place_pred (by omega) | exact place_succ)); (case zqk1 => k_asm); (case zqk2 => k_asm); (case zqk3 => k_asm); (case zqk5 => k_asm); (case zqkK => first | exact rfl | assumption); (case zqkd => first | exact room_le hdp (by decide) | ktr_room); (case zqku => first | exact units_le hun (by decide) | ktr_units); k_whole; intro t' h' tk' F' N'; (try k_sweep)))
  k_with "call ref" => (k_here; k_dflt (refine' use_bool (con_is_line_end ?zqa0 ?zqa1) ?zqk1 ?zqk2 ?zqk3 ?zqk4 ?zqk5 ?zqkK ?zqkd ?zqku ?_; (case zqk4 => k_asm); (case zqa0 => (first | assumption | exact ViewAt.cons (by assumption) | exact ViewAt.app (by assumption))); (case zqa1 => (first | exact rfl | exact place_zero | exact place_pred (by omega) | exact place_succ)); (case zqk1 => k_asm); (case zqk2 => k_asm); (case zqk3 => k_asm); (case zqk5 => k_asm); (case zqkK => first | exact rfl | assumption); (case zqkd => first | exact room_le hdp (by decide) | ktr_room); (case zqku => first | exact units_le hun (by decide) | ktr_units); k_whole; intro h' tk' F' N'; (try k_sweep)))
  k_with "call ref" => (k_here; k_dflt (refine' use_bool (con_parts ?zqa0 ?zqa1) ?zqk1 ?zqk2 ?zqk3 ?zqk4 ?zqk5 ?zqkK ?zqkd ?zqku ?_; (case zqk4 => k_asm); (case zqa0 => (first | assumption | exact ViewAt.cons (by assumption) | exact ViewAt.app (by assumption))); (case zqa1 => (first | exact rfl | exact place_zero | exact place_pred (by omega) | exact place_succ)); (case zqk1 => k_asm); (case zqk2 => k_asm); (case zqk3 => k_asm); (case zqk5 => k_asm); (case zqkK => first | exact rfl | assumption); (case zqkd => first | exact room_le hdp (by decide) | ktr_room); (case zqku => first | exact units_le hun (by decide) | ktr_units); k_whole; intro h' tk' F' N'; (try k_sweep)))
  k_with "call ref" => (k_here; k_dflt (refine' use_bool (con_begins ?zqa0 ?zqa1) ?zqk1 ?zqk2 ?zqk3 ?zqk4 ?zqk5 ?zqkK ?zqkd ?zqku ?_; (case zqk4 => k_asm); (case zqa0 => (first | assumption | exact ViewAt.cons (by assumption) | exact ViewAt.app (by assumption))); (case zqa1 => (first | exact rfl | exact place_zero | exact place_pred (by omega) | exact place_succ)); (case zqk1 => k_asm); (case zqk2 => k_asm); (case zqk3 => k_asm); (case zqk5 => k_asm); (case zqkK => first | exact rfl | assumption); (case zqkd => first | exact room_le hdp (by decide) | ktr_room); (case zqku => first | exact units_le hun (by decide) | ktr_units); k_whole; intro h' tk' F' N'; (try k_sweep)))
  k_with "call ref" => (k_here; k_dflt (refine' use_int (con_line_behind ?zqa0 ?zqa1) ?zqk1 ?zqk2 ?zqk3 ?zqk4 ?zqk5 ?zqkK ?zqkd ?zqku ?_; (case zqk4 => k_asm); (case zqa0 => (first | assumption | exact ViewAt.cons (by assumption) | exact ViewAt.app (by assumption))); (case zqa1 => (first | exact rfl | exact place_zero | exact place_pred (by omega) | exact place_succ)); (case zqk1 => k_asm); (case zqk2 => k_asm); (case zqk3 => k_asm); (case zqk5 => k_asm); (case zqkK => first | exact rfl | assumption); (case zqkd => first | exact room_le hdp (by decide) | ktr_room); (case zqku => first | exact units_le hun (by decide) | ktr_units); k_whole; intro t' h' tk' F' N'; (try k_sweep)))
  k_with "call ref" => (k_here; k_dflt (refine' use_int (con_past_parting ?zqa0 ?zqa1) ?zqk1 ?zqk2 ?zqk3 ?zqk4 ?zqk5 ?zqkK ?zqkd ?zqku ?_; (case zqk4 => k_asm); (case zqa0 => (first | assumption | exact ViewAt.cons (by assumption) | exact ViewAt.app (by assumption))); (case zqa1 => (first | exact rfl | exact place_zero | exact place_pred (by omega) | exact place_succ)); (case zqk1 => k_asm); (case zqk2 => k_asm); (case zqk3 => k_asm); (case zqk5 => k_asm); (case zqkK => first | exact rfl | assumption); (case zqkd => first | exact room_le hdp (by decide) | ktr_room); (case zqku => first | exact units_le hun (by decide) | ktr_units); k_whole; intro t' h' tk' F' N'; (try k_sweep)))
  k_with "call ref" => (k_here; k_dflt (refine' use_int (con_one_forward ?zqa0 ?zqa1) ?zqk1 ?zqk2 ?zqk3 ?zqk4 ?zqk5 ?zqkK ?zqkd ?zqku ?_; (case zqk4 => k_asm); (case zqa0 => (first | assumption | exact ViewAt.cons (by assumption) | exact ViewAt.app (by assumption))); (case zqa1 => (first | exact rfl | exact place_zero | exact place_pred (by omega) | exact place_succ)); (case zqk1 => k_asm); (case zqk2 => k_asm); (case zqk3 => k_asm); (case zqk5 => k_asm); (case zqkK => first | exact rfl | assumption); (case zqkd => first | exact room_le hdp (by decide) | ktr_room); (case zqku => first | exact units_le hun (by decide) | ktr_units); k_whole; intro t' h' tk' F' N'; (try k_sweep)))
  k_with "call ref" => (k_here; k_dflt (refine' use_bool (con_is_behind_empty ?zqa0 ?zqa1) ?zqk1 ?zqk2 ?zqk3 ?zqk4 ?zqk5 ?zqkK ?zqkd ?zqku ?_; (case zqk4 => k_asm); (case zqa0 => (first | assumption | exact ViewAt.cons (by assumption) | exact ViewAt.app (by assumption))); (case zqa1 => (first | exact rfl | exact place_zero | exact place_pred (by omega) | exact place_succ)); (case zqk1 => k_asm); (case zqk2 => k_asm); (case zqk3 => k_asm); (case zqk5 => k_asm); (case zqkK => first | exact rfl | assumption); (case zqkd => first | exact room_le hdp (by decide) | ktr_room); (case zqku => first | exact units_le hun (by decide) | ktr_units); k_whole; intro h' tk' F' N'; (try k_sweep)))
  k_with "call ref" => (k_here; k_dflt (refine' con_use (con_first_line ?zqa0 ?zqa1) ?zqk1 ?zqk2 ?zqk3 ?zqk4 ?zqk5 ?zqkK ?zqkd ?zqku ?_; (case zqk4 => k_asm); (case zqa0 => (first | assumption | exact ViewAt.cons (by assumption) | exact ViewAt.app (by assumption))); (case zqa1 => (first | exact rfl | exact place_zero | exact place_pred (by omega) | exact place_succ)); (case zqk1 => k_asm); (case zqk2 => k_asm); (case zqk3 => k_asm); (case zqk5 => k_asm); (case zqkK => first | exact rfl | assumption); (case zqkd => first | exact room_le hdp (by decide) | ktr_room); (case zqku => first | exact units_le hun (by decide) | ktr_units); k_whole; intro r' nw' h' tk' hp' F' N'; obtain ⟨_, _, _, hr9, hn9⟩ := hp'; subst hr9; subst hn9; (try k_sweep)))
  k_with "call ref" => (k_here; k_dflt (refine' use_int (con_one_backward ?zqa0 ?zqa1) ?zqk1 ?zqk2 ?zqk3 ?zqk4 ?zqk5 ?zqkK ?zqkd ?zqku ?_; (case zqk4 => k_asm); (case zqa0 => (first | assumption | exact ViewAt.cons (by assumption) | exact ViewAt.app (by assumption))); (case zqa1 => (first | exact rfl | exact place_zero | exact place_pred (by omega) | exact place_succ)); (case zqk1 => k_asm); (case zqk2 => k_asm); (case zqk3 => k_asm); (case zqk5 => k_asm); (case zqkK => first | exact rfl | assumption); (case zqkd => first | exact room_le hdp (by decide) | ktr_room); (case zqku => first | exact units_le hun (by decide) | ktr_units); k_whole; intro t' h' tk' F' N'; (try k_sweep)))
  k_with "pyIter ref" => (k_here; (with_reducible show wpAny _ _ (pyIter (Value.ref _)) (fun it s₂ => LoopAtV _ _ _ _ _ _ _ _ _ it s₂) _ _); (rename IsRange _ _ _ _ _ _ _ _ => rgX); k_dflt (refine' for_view ?zqV (Str.ofString "turn") (Str.ofString "place") (by decide) oneFwd ?zqhh rgX ?zqhsm ?zqF ?zqN ?zqhy ?zqturn ?zqdone; (case zqV => assumption); (case zqhh => exact rfl); (case zqhsm => exact small_one (by omega) (by omega) (by omega) (by omega)); (case zqF => k_asm); (case zqN => k_asm); (case zqhy => exact rfl); (case' zqturn => (intro k' t' j' t2' h' tk' own' F' N'; try k_sweep)); (case' zqdone => (intro u' t' h' tk' F' N'; try k_sweep))))
  subst hp
  have V₀ := V
  have hpos := V₀.pos
  obtain ⟨d, c, t1, t2, t3, n, vs, h1, h2, h3, hi⟩ := V₀.at'
  clear V₀
  unfold Con
  intro dp un gd cn cs a ccd cl outer A₀ base h₀ L m s Q E B F X N T hk hdp hun hret
  refine wpAny_call ?_
  k_dflt cell_enter
  k_steps
  all_goals first
    | (refine fend (by k_asm) (by k_asm) (fun _ hp => by first | exact hp | exact .tail _ hp) rfl (fun z h1 h2 => by simp only [h1, h2, if_false]) ?_; rfl)
    | (refine end_int hret (by k_asm) (by first | k_asm | exact cb_drop (by k_asm) (fun _ hp => .tail _ hp)) ?_; k_unmd; (congr 3; split <;> omega))
theorem con_target_bwd {p : Int} {i : Nat} {u : Tok} {mm : Int} {k : Nat} {u2 : Tok} (V : ViewAt w news v b xs) (hp : p = b + (i : Nat)) (hm : mm = -(k : Int)) (hk1 : 1 ≤ k) (hk2 : k < 1000) : Con w mean mg mb 106 8 news [.ref v, .int p u, .int mm u2] (PInt news (b + (iterN (oneBwd xs) k i : Nat))) := by
  k_with_none
  k_with "call ref" => (k_here; k_dflt (refine' use_int (con_begin ?zqa0) ?zqk1 ?zqk2 ?zqk3 ?zqk4 ?zqk5 ?zqkK ?zqkd ?zqku ?_; (case zqk4 => k_asm); (case zqa0 => (first | assumption | exact ViewAt.cons (by assumption) | exact ViewAt.app (by assumption))); (case zqk1 => k_asm); (case zqk2 => k_asm); (case zqk3 => k_asm); (case zqk5 => k_asm); (case zqkK => first | exact rfl | assumption); (case zqkd => first | exact room_le hdp (by decide) | ktr_room); (case zqku => first | exact units_le hun (by decide) | ktr_units); k_whole; intro t' h' tk' F' N'; (try k_sweep)))
  k_with "call ref" => (k_here; k_dflt (refine' use_int (con_end ?zqa0) ?zqk1 ?zqk2 ?zqk3 ?zqk4 ?zqk5 ?zqkK ?zqkd ?zqku ?_; (case zqk4 => k_asm); (case zqa0 => (first | assumption | exact ViewAt.cons (by assumption) | exact ViewAt.app (by assumption))); (case zqk1 => k_asm); (case zqk2 => k_asm); (case zqk3 => k_asm); (case zqk5 => k_asm); (case zqkK => first | exact rfl | assumption); (case zqkd => first | exact room_le hdp (by decide) | ktr_room); (case zqku => first | exact units_le hun (by decide) | ktr_units); k_whole; intro t' h' tk' F' N'; (try k_sweep)))
  k_with "call ref" => (k_here; k_dflt (refine' use_int (con_code ?zqa0 ?zqa1) ?zqk1 ?zqk2 ?zqk3 ?zqk4 ?zqk5 ?zqkK ?zqkd ?zqku ?_; (case zqk4 => k_asm); (case zqa0 => (first | assumption | exact ViewAt.cons (by assumption) | exact ViewAt.app (by assumption))); (case zqa1 => (first | exact rfl | exact place_zero | exact place_pred (by omega) | exact place_succ)); (case zqk1 => k_asm); (case zqk2 => k_asm); (case zqk3 => k_asm); (case zqk5 => k_asm); (case zqkK => first | exact rfl | assumption); (case zqkd => first | exact room_le hdp (by decide) | ktr_room); (case zqku => first | exact units_le hun (by decide) | ktr_units); k_whole; intro t' h' tk' F' N'; (try k_sweep)))
  k_with "call ref" => (k_here; k_dflt (refine' use_int (con_line_start ?zqa0 ?zqa1) ?zqk1 ?zqk2 ?zqk3 ?zqk4 ?zqk5 ?zqkK ?zqkd ?zqku ?_; (case zqk4 => k_asm); (case zqa0 => (first | assumption | exact ViewAt.cons (by assumption) | exact ViewAt.app (by assumption))); (case zqa1 => (first | exact rfl | exact place_zero | exact place_pred (by omega) | exact place_succ)); (case zqk1 => k_asm); (case zqk2 => k_asm); (case zqk3 => k_asm); (case zqk5 => k_asm); (case zqkK => first | exact rfl | assumption); (case zqkd => first | exact room_le hdp (by decide) | ktr_room); (case zqku => first | exact units_le hun (by decide) | ktr_units); k_whole; intro t' h' tk' F' N'; (try k_sweep)))
  k_with "call ref" => (k_here; k_dflt (refine' use_int (con_line_end ?zqa0 ?zqa1) ?zqk1 ?zqk2 ?zqk3 ?zqk4 ?zqk5 ?zqkK ?zqkd ?zqku ?_; (case zqk4 => k_asm); (case zqa0 => (first | assumption | exact ViewAt.cons (by assumption) | exact ViewAt.app (by assumption))); (case zqa1 => (first | exact rfl | exact place_zero | exact place_pred (by omega) | exact place_succ)); (case zqk1 => k_asm); (case zqk2 => k_asm); (case zqk3 => k_asm); (case zqk5 => k_asm); (case zqkK => first | exact rfl | assumption); (case zqkd => first | exact room_le hdp (by decide) | ktr_room); (case zqku => first | exact units_le hun (by decide) | ktr_units); k_whole; intro t' h' tk' F' N'; (try k_sweep)))
  k_with "call ref" => (k_here; k_dflt (refine' use_int (con_next_start ?zqa0 ?zqa1) ?zqk1 ?zqk2 ?zqk3 ?zqk4 ?zqk5 ?zqkK ?zqkd ?zqku ?_; (case zqk4 => k_asm); (case zqa0 => (first | assumption | exact ViewAt.cons (by assumption) | exact ViewAt.app (by assumption))); (case zqa1 => (first | exact rfl | exact place_zero | exact place_pred (by omega) | exact place_succ)); (case zqk1 => k_asm); (case zqk2 => k_asm); (case zqk3 => k_asm); (case zqk5 => k_asm); (case zqkK => first | exact rfl | assumption); (case zqkd => first | exact room_le hdp (by decide) | ktr_room); (case zqku => first | exact units_le hun (by decide) | ktr_units); k_whole; intro t' h' tk' F' N'; (try k_sweep)))
  k_with "call ref" => (k_here; k_dflt (refine' use_bool (con_is_line_end ?zqa0 ?zqa1) ?zqk1 ?zqk2 ?zqk3 ?zqk4 ?zqk5 ?zqkK ?zqkd ?zqku ?_; (case zqk4 => k_asm); (case zqa0 => (first | assumption | exact ViewAt.cons (by assumption) | exact ViewAt.app (by assumption))); (case zqa1 => (first | exact rfl | exact place_zero | exact place_pred (by omega) | exact place_succ)); (case zqk1 => k_asm); (case zqk2 => k_asm); (case zqk3 => k_asm); (case zqk5 => k_asm); (case zqkK => first | exact rfl | assumption); (case zqkd => first | exact room_le hdp (by decide) | ktr_room); (case zqku => first | exact units_le hun (by decide) | ktr_units); k_whole; intro h' tk' F' N'; (try k_sweep)))
  k_with "call ref" => (k_here; k_dflt (refine' use_bool (con_parts ?zqa0 ?zqa1) ?zqk1 ?zqk2 ?zqk3 ?zqk4 ?zqk5 ?zqkK ?zqkd ?zqku ?_; (case zqk4 => k_asm); (case zqa0 => (first | assumption | exact ViewAt.cons (by assumption) | exact ViewAt.app (by assumption))); (case zqa1 => (first | exact rfl | exact place_zero | exact place_pred (by omega) | exact place_succ)); (case zqk1 => k_asm); (case zqk2 => k_asm); (case zqk3 => k_asm); (case zqk5 => k_asm); (case zqkK => first | exact rfl | assumption); (case zqkd => first | exact room_le hdp (by decide) | ktr_room); (case zqku => first | exact units_le hun (by decide) | ktr_units); k_whole; intro h' tk' F' N'; (try k_sweep)))
  k_with "call ref" => (k_here; k_dflt (refine' use_bool (con_begins ?zqa0 ?zqa1) ?zqk1 ?zqk2 ?zqk3 ?zqk4 ?zqk5 ?zqkK ?zqkd ?zqku ?_; (case zqk4 => k_asm); (case zqa0 => (first | assumption | exact ViewAt.cons (by assumption) | exact ViewAt.app (by assumption))); (case zqa1 => (first | exact rfl | exact place_zero | exact place_pred (by omega) | exact place_succ)); (case zqk1 => k_asm); (case zqk2 => k_asm); (case zqk3 => k_asm); (case zqk5 => k_asm); (case zqkK => first | exact rfl | assumption); (case zqkd => first | exact room_le hdp (by decide) | ktr_room); (case zqku => first | exact units_le hun (by decide) | ktr_units); k_whole; intro h' tk' F' N'; (try k_sweep)))
  k_with "call ref" => (k_here; k_dflt (refine' use_int (con_line_behind ?zqa0 ?zqa1) ?zqk1 ?zqk2 ?zqk3 ?zqk4 ?zqk5 ?zqkK ?zqkd ?zqku ?_; (case zqk4 => k_asm); (case zqa0 => (first | assumption | exact ViewAt.cons (by assumption) | exact ViewAt.app (by assumption))); (case zqa1 => (first | exact rfl | exact place_zero | exact place_pred (by omega) | exact place_succ)); (case zqk1 => k_asm); (case zqk2 => k_asm); (case zqk3 => k_asm); (case zqk5 => k_asm); (case zqkK => first | exact rfl | assumption); (case zqkd => first | exact room_le hdp (by decide) | ktr_room); (case zqku => first | exact units_le hun (by decide) | ktr_units); k_whole; intro t' h' tk' F' N'; (try k_sweep)))
  k_with "call ref" => (k_here; k_dflt (refine' use_int (con_past_parting ?zqa0 ?zqa1) ?zqk1 ?zqk2 ?zqk3 ?zqk4 ?zqk5 ?zqkK ?zqkd ?zqku ?_; (case zqk4 => k_asm); (case zqa0 => (first | assumption | exact ViewAt.cons (by assumption) | exact ViewAt.app (by assumption))); (case zqa1 => (first | exact rfl | exact place_zero | exact place_pred (by omega) | exact place_succ)); (case zqk1 => k_asm); (case zqk2 => k_asm); (case zqk3 => k_asm); (case zqk5 => k_asm); (case zqkK => first | exact rfl | assumption); (case zqkd => first | exact room_le hdp (by decide) | ktr_room); (case zqku => first | exact units_le hun (by decide) | ktr_units); k_whole; intro t' h' tk' F' N'; (try k_sweep)))
  k_with "call ref" => (k_here; k_dflt (refine' use_int (con_one_forward ?zqa0 ?zqa1) ?zqk1 ?zqk2 ?zqk3 ?zqk4 ?zqk5 ?zqkK ?zqkd ?zqku ?_; (case zqk4 => k_asm); (case zqa0 => (first | assumption | exact ViewAt.cons (by assumption) | exact ViewAt.app (by assumption))); (case zqa1 => (first | exact rfl | exact place_zero | exact place_pred (by omega) | exact place_succ)); (case zqk1 => k_asm); (case zqk2 => k_asm); (case zqk3 => k_asm); (case zqk5 => k_asm); (case zqkK => first | exact rfl | assumption); (case zqkd => first | exact room_le hdp (by decide) | ktr_room); (case zqku => first | exact units_le hun (by decide) | ktr_units); k_whole; intro t' h' tk' F' N'; (try k_sweep)))
  k_with "call ref" => (k_here; k_dflt (refine' use_bool (con_is_behind_empty ?zqa0 ?zqa1) ?zqk1 ?zqk2 ?zqk3 ?zqk4 ?zqk5 ?zqkK ?zqkd ?zqku ?_; (case zqk4 => k_asm); (case zqa0 => (first | assumption | exact ViewAt.cons (by assumption) | exact ViewAt.app (by assumption))); (case zqa1 => (first | exact rfl | exact place_zero | exact place_pred (by omega) | exact place_succ)); (case zqk1 => k_asm); (case zqk2 => k_asm); (case zqk3 => k_asm); (case zqk5 => k_asm); (case zqkK => first | exact rfl | assumption); (case zqkd => first | exact room_le hdp (by decide) | ktr_room); (case zqku => first | exact units_le hun (by decide) | ktr_units); k_whole; intro h' tk' F' N'; (try k_sweep)))
  k_with "call ref" => (k_here; k_dflt (refine' con_use (con_first_line ?zqa0 ?zqa1) ?zqk1 ?zqk2 ?zqk3 ?zqk4 ?zqk5 ?zqkK ?zqkd ?zqku ?_; (case zqk4 => k_asm); (case zqa0 => (first | assumption | exact ViewAt.cons (by assumption) | exact ViewAt.app (by assumption))); (case zqa1 => (first | exact rfl | exact place_zero | exact place_pred (by omega) | exact place_succ)); (case zqk1 => k_asm); (case zqk2 => k_asm); (case zqk3 => k_asm); (case zqk5 => k_asm); (case zqkK => first | exact rfl | assumption); (case zqkd => first | exact room_le hdp (by decide) | ktr_room); (case zqku => first | exact units_le hun (by decide) | ktr_units); k_whole; intro r' nw' h' tk' hp' F' N'; obtain ⟨_, _, _, hr9, hn9⟩ := hp'; subst hr9; subst hn9; (try k_sweep)))
  k_with "call ref" => (k_here; k_dflt (refine' use_int (con_one_backward ?zqa0 ?zqa1) ?zqk1 ?zqk2 ?zqk3 ?zqk4 ?zqk5 ?zqkK ?zqkd ?zqku ?_; (case zqk4 => k_asm); (case zqa0 => (first | assumption | exact ViewAt.cons (by assumption) | exact ViewAt.app (by assumption))); (case zqa1 => (first | exact rfl | exact place_zero | exact place_pred (by omega) | exact place_succ)); (case zqk1 => k_asm); (case zqk2 => k_asm); (case zqk3 => k_asm); (case zqk5 => k_asm); (case zqkK => first | exact rfl | assumption); (case zqkd => first | exact room_le hdp (by decide) | ktr_room); (case zqku => first | exact units_le hun (by decide) | ktr_units); k_whole; intro t' h' tk' F' N'; (try k_sweep)))
  k_with "pyIter ref" => (k_here; (with_reducible show wpAny _ _ (pyIter (Value.ref _)) (fun it s₂ => LoopAtV _ _ _ _ _ _ _ _ _ it s₂) _ _); (rename IsRange _ _ _ _ _ _ _ _ => rgX); k_dflt (refine' for_view ?zqV (Str.ofString "turn") (Str.ofString "place") (by decide) oneFwd ?zqhh rgX ?zqhsm ?zqF ?zqN ?zqhy ?zqturn ?zqdone; (case zqV => assumption); (case zqhh => exact rfl); (case zqhsm => exact small_one (by omega) (by omega) (by omega) (by omega)); (case zqF => k_asm); (case zqN => k_asm); (case zqhy => exact rfl); (case' zqturn => (intro k' t' j' t2' h' tk' own' F' N'; try k_sweep)); (case' zqdone => (intro u' t' h' tk' F' N'; try k_sweep))))
  k_with "pyIter ref" => (k_here; (with_reducible show wpAny _ _ (pyIter (Value.ref _)) (fun it s₂ => LoopAtV _ _ _ _ _ _ _ _ _ it s₂) _ _); (rename IsRange _ _ _ _ _ _ _ _ => rgX); k_dflt (refine' for_view ?zqV (Str.ofString "turn") (Str.ofString "place") (by decide) oneBwd ?zqhh rgX ?zqhsm ?zqF ?zqN ?zqhy ?zqturn ?zqdone; (case zqV => assumption); (case zqhh => exact rfl); (case zqhsm => exact small_one (by omega) (by omega) (by omega) (by omega)); (case zqF => k_asm); (case zqN => k_asm); (case zqhy => exact rfl); (case' zqturn => (intro k' t' j' t2' h' tk' own' F' N'; try k_sweep)); (case' zqdone => (intro u' t' h' tk' F' N'; try k_sweep))))
  subst hp
  have V₀ := V
  have hpos := V₀.pos
  obtain ⟨d, c, t1, t2, t3, n, vs, h1, h2, h3, hi⟩ := V₀.at'
  clear V₀
  unfold Con
  intro dp un gd cn cs a ccd cl outer A₀ base h₀ L m s Q E B F X N T hk hdp hun hret
  refine wpAny_call ?_
  k_dflt cell_enter
  k_steps
  all_goals first
    | (refine fend (by k_asm) (by k_asm) (fun _ hp => by first | exact hp | exact .tail _ hp) rfl (fun z h1 h2 => by simp only [h1, h2, if_false]) ?_; rfl)
    | (refine end_int hret (by k_asm) (by first | k_asm | exact cb_drop (by k_asm) (fun _ hp => .tail _ hp)) ?_; k_unmd; (congr 3; split <;> omega))
end
/-! part V8 -/
section
variable {w : World} {mean : ExcName → Option Value} {mg mb : Str → Option Value} {news : Led} {v : Addr} {b : Int} {xs : List Int}
theorem fill8 : (hd.heap_39, PySem.Challenge.rw_np0017_01) = (hd.heap_39, PySem.Challenge.rw_np0017_01) := by
  k_fill
  rfl
local macro_rules | `(tactic| k_mem) => `(tactic| assumption)
theorem con_paragraph_bounds {p : Int} {i : Nat} {u : Tok} (V : ViewAt w news v b xs) (hp : p = b + (i : Nat)) : Con w mean mg mb 113 8 news [.ref v, .int p u] (fun r nw => ∃ t u u2 k, r = .ref t ∧ nw = (t, ({ cls := .type "tuple", data := .seq #[.int (b + (oneBwd xs (oneFwd xs i) : Nat)) u, .int (b + (oneFwd xs i : Nat)) u2] k } : Obj)) :: news) := by
  k_with_none
  k_with "call ref" => (k_here; k_dflt (refine' use_int (con_begin ?zqa0) ?zqk1 ?zqk2 ?zqk3 ?zqk4 ?zqk5 ?zqkK ?zqkd ?zqku ?_; (case zqk4 => k_asm); (case zqa0 => (first | assumption | exact ViewAt.cons (by assumption))); (case zqk1 => k_asm); (case zqk2 => k_asm); (case zqk3 => k_asm); (case zqk5 => k_asm); (case zqkK => first | exact rfl | assumption); (case zqkd => first | exact room_le hdp (by decide) | ktr_room); (case zqku => first | exact units_le hun (by decide) | ktr_units); k_whole; intro t' h' tk' F' N'; (try k_sweep)))
  k_with "call ref" => (k_here; k_dflt (refine' use_int (con_end ?zqa0) ?zqk1 ?zqk2 ?zqk3 ?zqk4 ?zqk5 ?zqkK ?zqkd ?zqku ?_; (case zqk4 => k_asm); (case zqa0 => (first | assumption | exact ViewAt.cons (by assumption))); (case zqk1 => k_asm); (case zqk2 => k_asm); (case zqk3 => k_asm); (case zqk5 => k_asm); (case zqkK => first | exact rfl | assumption); (case zqkd => first | exact room_le hdp (by decide) | ktr_room); (case zqku => first | exact units_le hun (by decide) | ktr_units); k_whole; intro t' h' tk' F' N'; (try k_sweep)))
  k_with "call ref" => (k_here; k_dflt (refine' use_int (con_code ?zqa0 ?zqa1) ?zqk1 ?zqk2 ?zqk3 ?zqk4 ?zqk5 ?zqkK ?zqkd ?zqku ?_; (case zqk4 => k_asm); (case zqa0 => (first | assumption | exact ViewAt.cons (by assumption))); (case zqa1 => (first | exact rfl | exact place_zero | exact place_pred (by omega) | exact place_succ)); (case zqk1 => k_asm); (case zqk2 => k_asm); (case zqk3 => k_asm); (case zqk5 => k_asm); (case zqkK => first | exact rfl | assumption); (case zqkd => first | exact room_le hdp (by decide) | ktr_room); (case zqku => first | exact units_le hun (by decide) | ktr_units); k_whole; intro t' h' tk' F' N'; (try k_sweep)))
  k_with "call ref" => (k_here; k_dflt (refine' use_int (con_line_start ?zqa0 ?zqa1) ?zqk1 ?zqk2 ?zqk3 ?zqk4 ?zqk5 ?zqkK ?zqkd ?zqku ?_; (case zqk4 => k_asm); (case zqa0 => (first | assumption | exact ViewAt.cons (by assumption))); (case zqa1 => (first | exact rfl | exact place_zero | exact place_pred (by omega) | exact place_succ)); (case zqk1 => k_asm); (case zqk2 => k_asm); (case zqk3 => k_asm); (case zqk5 => k_asm); (case zqkK => first | exact rfl | assumption); (case zqkd => first | exact room_le hdp (by decide) | ktr_room); (case zqku => first | exact units_le hun (by decide) | ktr_units); k_whole; intro t' h' tk' F' N'; (try k_sweep)))
  k_with "call ref" => (k_here; k_dflt (refine' use_int (con_line_end ?zqa0 ?zqa1) ?zqk1 ?zqk2 ?zqk3 ?zqk4 ?zqk5 ?zqkK ?zqkd ?zqku ?_; (case zqk4 => k_asm); (case zqa0 => (first | assumption | exact ViewAt.cons (by assumption))); (case zqa1 => (first | exact rfl | exact place_zero | exact place_pred (by omega) | exact place_succ)); (case zqk1 => k_asm); (case zqk2 => k_asm); (case zqk3 => k_asm); (case zqk5 => k_asm); (case zqkK => first | exact rfl | assumption); (case zqkd => first | exact room_le hdp (by decide) | ktr_room); (case zqku => first | exact units_le hun (by decide) | ktr_units); k_whole; intro t' h' tk' F' N'; (try k_sweep)))
  k_with "call ref" => (k_here; k_dflt (refine' use_int (con_next_start ?zqa0 ?zqa1) ?zqk1 ?zqk2 ?zqk3 ?zqk4 ?zqk5 ?zqkK ?zqkd ?zqku ?_; (case zqk4 => k_asm); (case zqa0 => (first | assumption | exact ViewAt.cons (by assumption))); (case zqa1 => (first | exact rfl | exact place_zero | exact place_pred (by omega) | exact place_succ)); (case zqk1 => k_asm); (case zqk2 => k_asm); (case zqk3 => k_asm); (case zqk5 => k_asm); (case zqkK => first | exact rfl | assumption); (case zqkd => first | exact room_le hdp (by decide) | ktr_room); (case zqku => first | exact units_le hun (by decide) | ktr_units); k_whole; intro t' h' tk' F' N'; (try k_sweep)))
  k_with "call ref" => (k_here; k_dflt (refine' use_bool (con_is_line_end ?zqa0 ?zqa1) ?zqk1 ?zqk2 ?zqk3 ?zqk4 ?zqk5 ?zqkK ?zqkd ?zqku ?_; (case zqk4 => k_asm); (case zqa0 => (first | assumption | exact ViewAt.cons (by assumption))); (case zqa1 => (first | exact rfl | exact place_zero | exact place_pred (by omega) | exact place_succ)); (case zqk1 => k_asm); (case zqk2 => k_asm); (case zqk3 => k_asm); (case zqk5 => k_asm); (case zqkK => first | exact rfl | assumption); (case zqkd => first | exact room_le hdp (by decide) | ktr_room); (case zqku => first | exact units_le hun (by decide) | ktr_units); k_whole; intro h' tk' F' N'; (try k_sweep)))
  k_with "call ref" => (k_here; k_dflt (refine' use_bool (con_parts ?zqa0 ?zqa1) ?zqk1 ?zqk2 ?zqk3 ?zqk4 ?zqk5 ?zqkK ?zqkd ?zqku ?_; (case zqk4 => k_asm); (case zqa0 => (first | assumption | exact ViewAt.cons (by assumption))); (case zqa1 => (first | exact rfl | exact place_zero | exact place_pred (by omega) | exact place_succ)); (case zqk1 => k_asm); (case zqk2 => k_asm); (case zqk3 => k_asm); (case zqk5 => k_asm); (case zqkK => first | exact rfl | assumption); (case zqkd => first | exact room_le hdp (by decide) | ktr_room); (case zqku => first | exact units_le hun (by decide) | ktr_units); k_whole; intro h' tk' F' N'; (try k_sweep)))
  k_with "call ref" => (k_here; k_dflt (refine' use_bool (con_begins ?zqa0 ?zqa1) ?zqk1 ?zqk2 ?zqk3 ?zqk4 ?zqk5 ?zqkK ?zqkd ?zqku ?_; (case zqk4 => k_asm); (case zqa0 => (first | assumption | exact ViewAt.cons (by assumption))); (case zqa1 => (first | exact rfl | exact place_zero | exact place_pred (by omega) | exact place_succ)); (case zqk1 => k_asm); (case zqk2 => k_asm); (case zqk3 => k_asm); (case zqk5 => k_asm); (case zqkK => first | exact rfl | assumption); (case zqkd => first | exact room_le hdp (by decide) | ktr_room); (case zqku => first | exact units_le hun (by decide) | ktr_units); k_whole; intro h' tk' F' N'; (try k_sweep)))
  k_with "call ref" => (k_here; k_dflt (refine' use_int (con_line_behind ?zqa0 ?zqa1) ?zqk1 ?zqk2 ?zqk3 ?zqk4 ?zqk5 ?zqkK ?zqkd ?zqku ?_; (case zqk4 => k_asm); (case zqa0 => (first | assumption | exact ViewAt.cons (by assumption))); (case zqa1 => (first | exact rfl | exact place_zero | exact place_pred (by omega) | exact place_succ)); (case zqk1 => k_asm); (case zqk2 => k_asm); (case zqk3 => k_asm); (case zqk5 => k_asm); (case zqkK => first | exact rfl | assumption); (case zqkd => first | exact room_le hdp (by decide) | ktr_room); (case zqku => first | exact units_le hun (by decide) | ktr_units); k_whole; intro t' h' tk' F' N'; (try k_sweep)))
  k_with "call ref" => (k_here; k_dflt (refine' use_int (con_past_parting ?zqa0 ?zqa1) ?zqk1 ?zqk2 ?zqk3 ?zqk4 ?zqk5 ?zqkK ?zqkd ?zqku ?_; (case zqk4 => k_asm); (case zqa0 => (first | assumption | exact ViewAt.cons (by assumption))); (case zqa1 => (first | exact rfl | exact place_zero | exact place_pred (by omega) | exact place_succ)); (case zqk1 => k_asm); (case zqk2 => k_asm); (case zqk3 => k_asm); (case zqk5 => k_asm); (case zqkK => first | exact rfl | assumption); (case zqkd => first | exact room_le hdp (by decide) | ktr_room); (case zqku => first | exact units_le hun (by decide) | ktr_units); k_whole; intro t' h' tk' F' N'; (try k_sweep)))
  k_with "call ref" => (k_here; k_dflt (refine' use_int (con_one_forward ?zqa0 ?zqa1) ?zqk1 ?zqk2 ?zqk3 ?zqk4 ?zqk5 ?zqkK ?zqkd ?zqku ?_; (case zqk4 => k_asm); (case zqa0 => (first | assumption | exact ViewAt.cons (by assumption))); (case zqa1 => (first | exact rfl | exact place_zero | exact place_pred (by omega) | exact place_succ)); (case zqk1 => k_asm); (case zqk2 => k_asm); (case zqk3 => k_asm); (case zqk5 => k_asm); (case zqkK => first | exact rfl | assumption); (case zqkd => first | exact room_le hdp (by decide) | ktr_room); (case zqku => first | exact units_le hun (by decide) | ktr_units); k_whole; intro t' h' tk' F' N'; (try k_sweep)))
  k_with "call ref" => (k_here; k_dflt (refine' use_bool (con_is_behind_empty ?zqa0 ?zqa1) ?zqk1 ?zqk2 ?zqk3 ?zqk4 ?zqk5 ?zqkK ?zqkd ?zqku ?_; (case zqk4 => k_asm); (case zqa0 => (first | assumption | exact ViewAt.cons (by assumption))); (case zqa1 => (first | exact rfl | exact place_zero | exact place_pred (by omega) | exact place_succ)); (case zqk1 => k_asm); (case zqk2 => k_asm); (case zqk3 => k_asm); (case zqk5 => k_asm); (case zqkK => first | exact rfl | assumption); (case zqkd => first | exact room_le hdp (by decide) | ktr_room); (case zqku => first | exact units_le hun (by decide) | ktr_units); k_whole; intro h' tk' F' N'; (try k_sweep)))
  k_with "call ref" => (k_here; k_dflt (refine' con_use (con_first_line ?zqa0 ?zqa1) ?zqk1 ?zqk2 ?zqk3 ?zqk4 ?zqk5 ?zqkK ?zqkd ?zqku ?_; (case zqk4 => k_asm); (case zqa0 => (first | assumption | exact ViewAt.cons (by assumption))); (case zqa1 => (first | exact rfl | exact place_zero | exact place_pred (by omega) | exact place_succ)); (case zqk1 => k_asm); (case zqk2 => k_asm); (case zqk3 => k_asm); (case zqk5 => k_asm); (case zqkK => first | exact rfl | assumption); (case zqkd => first | exact room_le hdp (by decide) | ktr_room); (case zqku => first | exact units_le hun (by decide) | ktr_units); k_whole; intro r' nw' h' tk' hp' F' N'; obtain ⟨_, _, _, hr9, hn9⟩ := hp'; subst hr9; subst hn9; (try k_sweep)))
  k_with "call ref" => (k_here; k_dflt (refine' use_int (con_one_backward ?zqa0 ?zqa1) ?zqk1 ?zqk2 ?zqk3 ?zqk4 ?zqk5 ?zqkK ?zqkd ?zqku ?_; (case zqk4 => k_asm); (case zqa0 => (first | assumption | exact ViewAt.cons (by assumption))); (case zqa1 => (first | exact rfl | exact place_zero | exact place_pred (by omega) | exact place_succ)); (case zqk1 => k_asm); (case zqk2 => k_asm); (case zqk3 => k_asm); (case zqk5 => k_asm); (case zqkK => first | exact rfl | assumption); (case zqkd => first | exact room_le hdp (by decide) | ktr_room); (case zqku => first | exact units_le hun (by decide) | ktr_units); k_whole; intro t' h' tk' F' N'; (try k_sweep)))
  subst hp
  have V₀ := V
  have hpos := V₀.pos
  obtain ⟨d, c, t1, t2, t3, n, vs, h1, h2, h3, hi⟩ := V₀.at'
  clear V₀
  unfold Con
  intro dp un gd cn cs a ccd cl outer A₀ base h₀ L m s Q E B F X N T hk hdp hun hret
  refine wpAny_call ?_
  k_dflt cell_enter
  k_steps
  all_goals first
    | (refine' hret _ _ _ _ ?zp ?zf ?zn; (case zn => k_asm); (case zf => k_asm); (case zp => exact ⟨_, _, _, _, rfl, rfl⟩))
end
/-! part L2 -/
section
theorem my_sz {vs : List Value} {ss : List Nat} (hi : IntsAre vs (nums ss)) (hf : ss.length < 2 ^ 20) : vs.toArray.size ≤ sizeLine := by
  have h := hi.length
  simp only [List.size_toArray, PySem.sizeLine_eq]
  rw [List.length_map] at h
  omega
theorem nums_at {ss : List Nat} {r : Nat} : (nums ss).getD (r : Int).toNat 0 = ((ss.getD r 0 : Nat) : Int) := by
  rw [Int.toNat_natCast, List.getD_eq_getElem?_getD, List.getD_eq_getElem?_getD, List.getElem?_map]
  cases ss[r]? <;> rfl
def gs (_ys : List Str) (r : Nat) : Nat := r + 1
def gd (_ys : List Str) (r : Nat) : Nat := r - 1
def mL (ys : List Str) (r : Nat) : Nat := ys.length - r
def mR (_ys : List Str) (r : Nat) : Nat := r
def cQ (ys : List Str) (r : Nat) : Bool := decide (r < ys.length) && partS (ys.getD r Str.empty)
def cR (ys : List Str) (r : Nat) : Bool := decide (r < ys.length) && !beginS (ys.getD r Str.empty)
def cT (ys : List Str) (r : Nat) : Bool := decide (0 < r) && partS (ys.getD r Str.empty)
def cU (ys : List Str) (r : Nat) : Bool := decide (0 < r) && !beginS (ys.getD r Str.empty)
def pT (_ys : List Str) (_r : Nat) : Prop := True
def pI (ys : List Str) (r : Nat) : Prop := r < ys.length
def LFalls (c : List Str → Nat → Bool) (g μ : List Str → Nat → Nat) (P : List Str → Nat → Prop) : Prop := ∀ ys i, P ys i → c ys i = true → μ ys (g ys i) < μ ys i ∧ P ys (g ys i)
theorem cQ_falls : LFalls cQ gs mL pT := by intro ys i _ h; simp only [cQ, Bool.and_eq_true, decide_eq_true_eq] at h; exact ⟨by simp only [mL, gs]; omega, trivial⟩
theorem cR_falls : LFalls cR gs mL pT := by intro ys i _ h; simp only [cR, Bool.and_eq_true, decide_eq_true_eq] at h; exact ⟨by simp only [mL, gs]; omega, trivial⟩
theorem cT_falls : LFalls cT gd mR pI := by intro ys i hp h; simp only [cT, Bool.and_eq_true, decide_eq_true_eq] at h; simp only [pI, mR, gd] at hp ⊢; omega
theorem cU_falls : LFalls cU gd mR pI := by intro ys i hp h; simp only [cU, Bool.and_eq_true, decide_eq_true_eq] at h; simp only [pI, mR, gd] at hp ⊢; omega
abbrev lrun (c : List Str → Nat → Bool) (g μ : List Str → Nat → Nat) (ys : List Str) (i : Nat) : Nat := loop (c ys) (g ys) (μ ys) i
def lskip (ys : List Str) (r : Nat) : Nat := lrun cQ gs mL ys r
def lstop (ys : List Str) (r : Nat) : Nat := lrun cR gs mL ys r
def lrow (ys : List Str) (ss : List Nat) (i : Nat) : Nat := lstop ys (lskip ys (rowOf ss i) + 1)
def lfwd (ys : List Str) (ss : List Nat) (size i : Nat) : Nat := if lrow ys ss i < ys.length then ss.getD (lrow ys ss i) 0 else size
section
variable {prog : Program} {w : World} {A : Around} {E : Value → Shared → Prop} {Q : Flow → Shared → Prop} {s : Shared} {env : Env} {h₀ : Heap} {L : Addr} {news : Led}
theorem while_lines {test : PySem.Expr} {body : List Stmt} {pos : Pos} {m₀ : Str → Option Value} {nw : Led} {la : Addr} {ys : List Str} (_Y : LinesAt nw la ys) (x : Str) (c : List Str → Nat → Bool) (g μ : List Str → Nat → Nat) (P : List Str → Nat → Prop) (hμ : LFalls c g μ P) {p : Int} {i₀ : Nat} {t₀ : Tok}
    (F : Fr h₀ L s.heap m₀) (N : News h₀ L s.heap news) (hx : m₀ x = some (.int p t₀)) (hp : p = (i₀ : Int)) (hP : P ys i₀)
    (htest : ∀ (i : Nat) t h tk, P ys i → Fr h₀ L h (fun y => if y = x then some (.int (i : Int) t) else m₀ y) → News h₀ L h news →
      wpAny (model prog w) A (isTrue test env (eval test env)) (TEnd s h₀ L (fun y => if y = x then some (.int (i : Int) t) else m₀ y) news (c ys i)) E { s with heap := h, toks := tk })
    (hbody : ∀ (i : Nat) t h tk, P ys i → c ys i = true → Fr h₀ L h (fun y => if y = x then some (.int (i : Int) t) else m₀ y) → News h₀ L h news →
      wpAny (model prog w) A (execs body env) (NEnd s h₀ L m₀ x (g ys i) news) E { s with heap := h, toks := tk })
    (done : ∀ t h tk, P ys (lrun c g μ ys i₀) → c ys (lrun c g μ ys i₀) = false → Fr h₀ L h (fun y => if y = x then some (.int ((lrun c g μ ys i₀ : Nat) : Int) t) else m₀ y) → News h₀ L h news → Q .next { s with heap := h, toks := tk })
    (hE : PassesOwn (model prog w) A env E := by passes_own) : wpAny (model prog w) A (exec (.While test body [] pos) env) Q E s :=
  while_nat x (P ys) (hμ ys) F N hx hp hP htest hbody done hE
end
variable {w : World} {mean : ExcName → Option Value} {mg mb : Str → Option Value} {news : Led}
theorem fillL2 : (hd.heap_39, PySem.Challenge.rw_np0017_01) = (hd.heap_39, PySem.Challenge.rw_np0017_01) := by
  k_fill
  rfl
local macro_rules | `(tactic| k_mem) => `(tactic| assumption)
theorem con_lforward {l st : Addr} {ys : List Str} {ss : List Nat} {size i : Nat} {u1 u2 : Tok} (Y : LinesAt news l ys) (S : NumsAt news st ss) (hl : ss.length = ys.length) (h0 : ss.head? = some 0) :
    Con w mean mg mb 199 3 news [.ref l, .ref st, .int (size : Int) u1, .int (i : Int) u2] (PInt news (lfwd ys ss size i : Nat)) := by
  k_with_none
  k_with "call builtin:len" => (k_here; (with_reducible show wpAny _ _ (call (Value.builtin "len") [Value.ref _]) _ _ _); k_dflt (refine my_slen (by k_asm) (by k_mem) (by assumption) (by omega) ?_))
  k_with "call builtin:len" => (k_here; (with_reducible show wpAny _ _ (call (Value.builtin "len") [Value.ref _]) _ _ _); k_dflt (refine my_len (by k_asm) (by k_mem) (by assumption) (by omega) ?_))
  k_with "subscriptTail" => (k_here; (with_reducible show wpAny _ _ (subscriptTail _ _ (Value.ref _) (Value.int _ _)) _ _ _); k_dflt (refine' my_sitem ?zqkN ?zqkm ?zqki ?zqkk ?zqkl ?zqkf ?_; (case zqkN => k_asm); (case zqkm => k_mem); (case zqki => assumption); (case zqkk => (first | with_reducible exact rfl | with_reducible exact nat_succ | exact nat_succ | exact row_eq (by assumption) | exact nat_pred (by omega) | exact rfl | omega)); (case zqkl => omega); (case zqkf => omega); intro _))
  k_with "subscriptTail" => (k_here; (with_reducible show wpAny _ _ (subscriptTail _ _ (Value.ref _) (Value.int _ _)) _ _ _); k_dflt (refine' my_nitem ?zqkN ?zqkm ?zqki ?zqkk ?zqkl ?zqkf ?_; (case zqkN => k_asm); (case zqkm => k_mem); (case zqki => assumption); (case zqkk => (first | with_reducible exact rfl | with_reducible exact nat_succ | exact nat_succ | exact row_eq (by assumption) | exact nat_pred (by omega) | exact rfl | omega)); (case zqkl => omega); (case zqkf => omega); intro _))
  k_with "eval ListComp" => (k_here; k_dflt (refine LCt.ListComp_T (F₀ := by k_asm) (by with_unfolding_all rfl) (by decide) (by rfl) (by decide) (by rfl) ?_))
  k_with "CompSrcT" => (k_here; k_dflt (refine' LCt.CompSrcT.ledger (by rfl) (by k_asm) (by k_asm) (by k_mem) ?zqhsz ?_; (case zqhsz => exact my_sz (by assumption) (by assumption)); intro g2'; (refine' comp_le ?zqhi ?zqh0 ?zqhS ?zqht ?zqhe ?zqhz ?_; (case zqhi => assumption); (case zqh0 => assumption); (case zqhS => exact Or.inr ⟨_, by k_mem, rfl, _, rfl⟩); (case zqht => (intro k' t' I' oI' C' oC' D' m' ys' h' tk' E' hC' hx' F' N' off'; k_steps; exact tend (by k_asm) (by k_asm) rfl)); (case zqhe => (intro k' t' I' oI' C' oC' D' m' ys' h' tk' E' hC' hx' F' N' off'; k_steps; exact vend (by k_asm) (by k_asm) ⟨_, rfl⟩)); (case zqhz => (first | with_reducible exact rfl | with_reducible exact nat_succ | exact nat_succ | exact row_eq (by assumption) | exact nat_pred (by omega) | exact rfl | omega)); (intro ys' hys' hrl' hrt'))))
  k_with "call ref" => (k_here; k_dflt (refine' use_bool (con_lparting ?zqa0) ?zqk1 ?zqk2 ?zqk3 ?zqk4 ?zqk5 ?zqkK ?zqkd ?zqku ?_; (case zqk4 => k_asm); (case zqa0 => (first | assumption | exact menu_at (by assumption) _)); (case zqk1 => k_asm); (case zqk2 => k_asm); (case zqk3 => k_asm); (case zqk5 => k_asm); (case zqkK => first | exact rfl | assumption); (case zqkd => first | exact room_le hdp (by decide) | ktr_room); (case zqku => first | exact units_le hun (by decide) | ktr_units); k_whole; intro h' tk' F' N'; (try k_sweep)))
  k_with "call ref" => (k_here; k_dflt (refine' use_bool (con_lbegin ?zqa0) ?zqk1 ?zqk2 ?zqk3 ?zqk4 ?zqk5 ?zqkK ?zqkd ?zqku ?_; (case zqk4 => k_asm); (case zqa0 => (first | assumption | exact menu_at (by assumption) _)); (case zqk1 => k_asm); (case zqk2 => k_asm); (case zqk3 => k_asm); (case zqk5 => k_asm); (case zqkK => first | exact rfl | assumption); (case zqkd => first | exact room_le hdp (by decide) | ktr_room); (case zqku => first | exact units_le hun (by decide) | ktr_units); k_whole; intro h' tk' F' N'; (try k_sweep)))
  k_with "exec While BoolOp cons nil" => (k_here; (with_reducible show wpAny _ _ (exec (Stmt.While (PySem.Expr.BoolOp _ [_, PySem.Expr.Call _ _ _ _] _) _ _ _) _) _ _ _); k_dflt (refine' while_lines ?zqY (Str.ofString "_law_row") cQ gs mL pT cQ_falls ?zqF ?zqN ?zqhx ?zqhp ?zqhP ?_ ?_ ?_ ?zqhE; (case zqY => assumption); (case zqF => k_asm); (case zqN => k_asm); (case zqhx => exact rfl); (case zqhE => passes_own); (case zqhp => (first | with_reducible exact rfl | with_reducible exact nat_succ | exact nat_succ | exact row_eq (by assumption) | exact nat_pred (by omega) | exact rfl | omega)); (case zqhP => exact trivial); (all_goals (intros; (try k_sweep)))))
  k_with "exec While BoolOp cons nil" => (k_here; (with_reducible show wpAny _ _ (exec (Stmt.While (PySem.Expr.BoolOp _ [_, PySem.Expr.UnaryOp _ _ _] _) _ _ _) _) _ _ _); k_dflt (refine' while_lines ?zqY (Str.ofString "_law_row") cR gs mL pT cR_falls ?zqF ?zqN ?zqhx ?zqhp ?zqhP ?_ ?_ ?_ ?zqhE; (case zqY => assumption); (case zqF => k_asm); (case zqN => k_asm); (case zqhx => exact rfl); (case zqhE => passes_own); (case zqhp => (first | with_reducible exact rfl | with_reducible exact nat_succ | exact nat_succ | exact row_eq (by assumption) | exact nat_pred (by omega) | exact rfl | omega)); (case zqhP => exact trivial); (all_goals (intros; (try k_sweep)))))
  have hfy := Y.fit
  have hfs := S.fit
  have hmn := Y.menu
  obtain ⟨vs, n, h1, hS⟩ := Y.at'
  obtain ⟨vs2, n2, h2, hI⟩ := S.at'
  unfold Con
  intro dp un gd cn cs a ccd cl outer A₀ base h₀ L m s Q E B F X N T hk hdp hun hret
  refine wpAny_call ?_
  k_dflt (refine' code_defC ?k1 ?k2 ?k3 ?k4 ?k5 ?kA ?kF ?kK ?k6 ?k7 ?k8 ?k9 ?kB ?kD ?_ ?c2 ?c3 ?c4; (case kA => exact rfl); (case kF => exact rfl); (case kK => assumption); (case k1 => k_asm); (case k2 => k_asm); (case k3 => k_asm); (case k4 => k_asm); (case k5 => k_asm); (case k6 => k_is); (case k7 => k_is); (case k8 => ktr_room); (case k9 => exact BindsTo.of_eq rfl); (case kB => exact rfl); (case kD => decide +kernel); (case c2 => exact rfl); (case c3 => exact rfl); (case c4 => exact rfl); k_whole; intro g' L' h' tk' cells' FG' F' N' Y' B' X' T' l1; (try k_lt l1); k_cells Y'; (try simp only [List.cons_append, List.nil_append] at N'); (try dsimp only); (try k_lift B'); (try k_fold))
  k_steps
  all_goals first
    | (refine tend (by k_asm) (by k_asm) ?_; k_unmd; grind [cQ, cR])
    | (refine nend (by k_asm) (by k_asm) rfl (fun z hz => (if_neg hz).trans (if_neg hz)) ?_; first | rfl | exact nat_succ | exact nat_pred (by grind [cT, cU, cQ, cR]))
    | (refine end_int hret (by k_asm) (by first | k_asm | exact cb_drop (by k_asm) (fun _ hp => by first | exact .tail _ hp | exact .tail _ (.tail _ hp))) ?_; k_unmd; ((try rw [nums_at]); unfold lfwd lrow lstop lskip; first | (rw [if_pos (by omega)]; done) | (rw [if_neg (by omega)]; done)))
end
/-! part L3 -/
section
def lbT (ys : List Str) (r : Nat) : Nat := lrun cT gd mR ys r
def lbU (ys : List Str) (r : Nat) : Nat := lrun cU gd mR ys r
def cV (ys : List Str) (r : Nat) : Bool := partS (ys.getD r Str.empty)
def lup (ys : List Str) (r0 r : Nat) : Nat := loop (cV ys) (fun r => r + 1) (fun r => r0 - r) r
def lempty (ys : List Str) (ss : List Nat) (r : Nat) : Nat := if 0 < r ∧ ys.getD (r - 1) Str.empty = Str.ofString "" then ss.getD (r - 1) 0 else ss.getD r 0
def lbwd (ys : List Str) (ss : List Nat) (i : Nat) : Nat :=
  if i = 0 then 0
  else if ss.getD (rowOf ss i) 0 = i ∧ partS (ys.getD (rowOf ss i) Str.empty) = false ∧ ys.getD (rowOf ss i - 1) Str.empty = Str.ofString "" then i - 1
  else if lbT ys (rowOf ss (i - 1)) = 0 then 0
  else if beginS (ys.getD (lbU ys (lbT ys (rowOf ss (i - 1)))) Str.empty) = false then 0
  else lempty ys ss (lup ys (lbT ys (rowOf ss (i - 1))) (lbU ys (lbT ys (rowOf ss (i - 1)))))
theorem lbU_le (ys : List Str) {r : Nat} (h : r < ys.length) : lrun cU gd mR ys r ≤ r := by
  have := loop_inv (c := cU ys) (g := gd ys) (μ := mR ys) (P := fun j => j ≤ r) (fun i hp hc => by
    simp only [cU, Bool.and_eq_true, decide_eq_true_eq] at hc; simp only [mR, gd]; omega) (Nat.le_refl r)
  exact this
theorem lbT_le (ys : List Str) (r : Nat) : lrun cT gd mR ys r ≤ r := by
  have := loop_inv (c := cT ys) (g := gd ys) (μ := mR ys) (P := fun j => j ≤ r) (fun i hp hc => by
    simp only [cT, Bool.and_eq_true, decide_eq_true_eq] at hc; simp only [mR, gd]; omega) (Nat.le_refl r)
  exact this
theorem cT_stop {ys : List Str} {r : Nat} (h : cT ys r = false) (h0 : r ≠ 0) : partS (ys.getD r Str.empty) = false := by
  have h1 : decide (0 < r) = true := decide_eq_true (Nat.pos_of_ne_zero h0)
  simpa only [cT, h1, Bool.true_and] using h
theorem pI_lt {ys : List Str} {r : Nat} (h : pI ys r) : r < ys.length := h
theorem row_pos {ss : List Nat} {i : Nat} (h0 : ss.head? = some 0) (e : ss.getD (rowOf ss i) 0 = i) (hi : i ≠ 0) : 0 < rowOf ss i := by
  rcases Nat.eq_zero_or_pos (rowOf ss i) with h | h
  · rw [h] at e
    cases ss with
    | nil => cases h0
    | cons a r => exact absurd (by simpa using e.symm.trans (by simpa using h0)) hi
  · exact h
theorem row_eq2 {n r : Nat} (h : n = r + 1) (h2 : 0 < r) : (n : Int) - 1 - 1 = ((r - 1 : Nat) : Int) := by omega
def cI (ys : List Str) (ss : List Nat) (i : Nat) : Bool := decide (ss.getD (rowOf ss i) 0 = i) && (!partS (ys.getD (rowOf ss i) Str.empty) && decide (ys.getD (rowOf ss i - 1) Str.empty = Str.ofString ""))
section
variable {prog : Program} {w : World} {A : Around} {E : Value → Shared → Prop} {Q : Flow → Shared → Prop} {s : Shared} {env : Env} {h₀ : Heap} {L : Addr} {nx : Led} {m : Str → Option Value}
theorem if_join {test : PySem.Expr} {body : List Stmt} {pos : Pos} {v : Bool} (htest : wpAny (model prog w) A (isTrue test env (eval test env)) (TEnd s h₀ L m nx v) E s)
    (hthen : ∀ h tk, v = true → Fr h₀ L h m → News h₀ L h nx → wpAny (model prog w) A (execs body env) Q E { s with heap := h, toks := tk })
    (helse : ∀ h tk, v = false → Fr h₀ L h m → News h₀ L h nx → Q .next { s with heap := h, toks := tk }) : wpAny (model prog w) A (exec (.If test body [] pos) env) Q E s := by
  refine wpAny_If (wpAny_mono htest (fun bb s₂ h₂ => ?_) fun _ _ e => e)
  obtain ⟨rfl, h', tk', rfl, F, N⟩ := h₂
  cases bb with
  | true => simpa using hthen h' tk' rfl F N
  | false => simpa using wpAny_execs_nil (helse h' tk' rfl F N)
theorem if_cI {test : PySem.Expr} {body : List Stmt} {pos : Pos} {nw : Led} {la : Addr} {ys : List Str} {ss : List Nat} {i n : Nat} (_Y : LinesAt nw la ys) (_hr : n = rowOf ss i + 1) (_F : Fr h₀ L s.heap m) (_N : News h₀ L s.heap nx)
    (htest : wpAny (model prog w) A (isTrue test env (eval test env)) (TEnd s h₀ L m nx (cI ys ss i)) E s)
    (hthen : ∀ h tk, cI ys ss i = true → Fr h₀ L h m → News h₀ L h nx → wpAny (model prog w) A (execs body env) Q E { s with heap := h, toks := tk })
    (helse : ∀ h tk, cI ys ss i = false → Fr h₀ L h m → News h₀ L h nx → Q .next { s with heap := h, toks := tk }) : wpAny (model prog w) A (exec (.If test body [] pos) env) Q E s := if_join htest hthen helse
end
theorem up_mu {ys : List Str} {r0 : Nat} (hs : partS (ys.getD r0 Str.empty) = false) : ∀ i, i ≤ r0 → cV ys i = true → r0 - (i + 1) < r0 - i ∧ i + 1 ≤ r0 := by
  intro i hi hc
  have : i ≠ r0 := fun e => by subst e; rw [cV, hs] at hc; cases hc
  omega
section
variable {prog : Program} {w : World} {A : Around} {E : Value → Shared → Prop} {Q : Flow → Shared → Prop} {s : Shared} {env : Env} {h₀ : Heap} {L : Addr} {news : Led}
theorem while_up {test : PySem.Expr} {body : List Stmt} {pos : Pos} {m₀ : Str → Option Value} {ys : List Str} {r0 : Nat} (hs : cT ys r0 = false) (hr : r0 ≠ 0) (hlt : pI ys r0) (x : Str) {p : Int} {i₀ : Nat} {t₀ : Tok}
    (F : Fr h₀ L s.heap m₀) (N : News h₀ L s.heap news) (hx : m₀ x = some (.int p t₀)) (hp : p = (i₀ : Int)) (hP : i₀ ≤ r0)
    (htest : ∀ (i : Nat) t h tk, i < ys.length → Fr h₀ L h (fun y => if y = x then some (.int (i : Int) t) else m₀ y) → News h₀ L h news →
      wpAny (model prog w) A (isTrue test env (eval test env)) (TEnd s h₀ L (fun y => if y = x then some (.int (i : Int) t) else m₀ y) news (cV ys i)) E { s with heap := h, toks := tk })
    (hbody : ∀ (i : Nat) t h tk, i < ys.length → Fr h₀ L h (fun y => if y = x then some (.int (i : Int) t) else m₀ y) → News h₀ L h news →
      wpAny (model prog w) A (execs body env) (NEnd s h₀ L m₀ x (i + 1) news) E { s with heap := h, toks := tk })
    (done : ∀ t h tk, lup ys r0 i₀ < ys.length → Fr h₀ L h (fun y => if y = x then some (.int ((lup ys r0 i₀ : Nat) : Int) t) else m₀ y) → News h₀ L h news → Q .next { s with heap := h, toks := tk })
    (hE : PassesOwn (model prog w) A env E := by passes_own) : wpAny (model prog w) A (exec (.While test body [] pos) env) Q E s :=
  while_nat (c := cV ys) (g := fun r => r + 1) (μ := fun r => r0 - r) x (fun r => r ≤ r0) (up_mu (cT_stop hs hr)) F N hx hp hP (fun i t h tk hi F' N' => htest i t h tk (Nat.lt_of_le_of_lt hi hlt) F' N') (fun i t h tk hi _ F' N' => hbody i t h tk (Nat.lt_of_le_of_lt hi hlt) F' N')
    (fun t h tk hi _ F' N' => done t h tk (Nat.lt_of_le_of_lt hi hlt) F' N') hE
end
section
variable {ys : List Str} {ss : List Nat} {i : Nat}
theorem lb1 (h : (i : Int) = 0) : (0 : Int) = (lbwd ys ss i : Nat) := by
  rw [lbwd, if_pos (by omega)]; rfl
theorem cI_iff : cI ys ss i = true ↔ (ss.getD (rowOf ss i) 0 = i ∧ partS (ys.getD (rowOf ss i) Str.empty) = false ∧ ys.getD (rowOf ss i - 1) Str.empty = Str.ofString "") := by
  simp only [cI, Bool.and_eq_true, decide_eq_true_eq, Bool.not_eq_true']
theorem lb2 (h : (i : Int) ≠ 0) (h2 : cI ys ss i = true) : (i : Int) - 1 = (lbwd ys ss i : Nat) := by
  rw [lbwd, if_neg (by omega), if_pos (cI_iff.mp h2)]; omega
theorem lb_pre (h : (i : Int) ≠ 0) (h2 : cI ys ss i = false) : lbwd ys ss i = (if lbT ys (rowOf ss (i - 1)) = 0 then 0
  else if beginS (ys.getD (lbU ys (lbT ys (rowOf ss (i - 1)))) Str.empty) = false then 0
  else lempty ys ss (lup ys (lbT ys (rowOf ss (i - 1))) (lbU ys (lbT ys (rowOf ss (i - 1)))))) := by
  rw [lbwd, if_neg (by omega), if_neg (fun e => by rw [cI_iff.mpr e] at h2; cases h2)]
theorem lb3 (h : (i : Int) ≠ 0) (h2 : cI ys ss i = false) (h3 : ((lrun cT gd mR ys (rowOf ss (i - 1)) : Nat) : Int) = 0) : (0 : Int) = (lbwd ys ss i : Nat) := by
  rw [lb_pre h h2, if_pos (by unfold lbT; omega)]; rfl
theorem lb4 (h : (i : Int) ≠ 0) (h2 : cI ys ss i = false) (h3 : ((lrun cT gd mR ys (rowOf ss (i - 1)) : Nat) : Int) ≠ 0)
    (h4 : beginS (ys.getD (lrun cU gd mR ys (lrun cT gd mR ys (rowOf ss (i - 1)))) Str.empty) = false) : (0 : Int) = (lbwd ys ss i : Nat) := by
  have h4' : beginS (ys.getD (lbU ys (lbT ys (rowOf ss (i - 1)))) Str.empty) = false := h4
  rw [lb_pre h h2, if_neg (by unfold lbT; omega), if_pos h4']; rfl
theorem lb_post (h : (i : Int) ≠ 0) (h2 : cI ys ss i = false) (h3 : ((lrun cT gd mR ys (rowOf ss (i - 1)) : Nat) : Int) ≠ 0)
    (h4 : beginS (ys.getD (lrun cU gd mR ys (lrun cT gd mR ys (rowOf ss (i - 1)))) Str.empty) = true) :
    lbwd ys ss i = lempty ys ss (lup ys (lrun cT gd mR ys (rowOf ss (i - 1))) (lrun cU gd mR ys (lrun cT gd mR ys (rowOf ss (i - 1))))) := by
  rw [lb_pre h h2, if_neg (by unfold lbT; omega), if_neg (by unfold lbU lbT; rw [h4]; simp)]; rfl
theorem lb5 (h : (i : Int) ≠ 0) (h2 : cI ys ss i = false) (h3 : ((lrun cT gd mR ys (rowOf ss (i - 1)) : Nat) : Int) ≠ 0)
    (h4 : beginS (ys.getD (lrun cU gd mR ys (lrun cT gd mR ys (rowOf ss (i - 1)))) Str.empty) = true)
    (h5 : (0 : Int) < (lup ys (lrun cT gd mR ys (rowOf ss (i - 1))) (lrun cU gd mR ys (lrun cT gd mR ys (rowOf ss (i - 1)))) : Nat))
    (h6 : (ys.getD (lup ys (lrun cT gd mR ys (rowOf ss (i - 1))) (lrun cU gd mR ys (lrun cT gd mR ys (rowOf ss (i - 1)))) - 1) Str.empty == Str.ofString "") = true) :
    ((ss.getD (lup ys (lrun cT gd mR ys (rowOf ss (i - 1))) (lrun cU gd mR ys (lrun cT gd mR ys (rowOf ss (i - 1)))) - 1) 0 : Nat) : Int) = (lbwd ys ss i : Nat) := by
  rw [lb_post h h2 h3 h4, lempty, if_pos ⟨by omega, eq_of_beq h6⟩]
theorem lb6 (h : (i : Int) ≠ 0) (h2 : cI ys ss i = false) (h3 : ((lrun cT gd mR ys (rowOf ss (i - 1)) : Nat) : Int) ≠ 0)
    (h4 : beginS (ys.getD (lrun cU gd mR ys (lrun cT gd mR ys (rowOf ss (i - 1)))) Str.empty) = true)
    (h5 : (0 : Int) < (lup ys (lrun cT gd mR ys (rowOf ss (i - 1))) (lrun cU gd mR ys (lrun cT gd mR ys (rowOf ss (i - 1)))) : Nat))
    (h6 : (ys.getD (lup ys (lrun cT gd mR ys (rowOf ss (i - 1))) (lrun cU gd mR ys (lrun cT gd mR ys (rowOf ss (i - 1)))) - 1) Str.empty == Str.ofString "") = false) :
    ((ss.getD (lup ys (lrun cT gd mR ys (rowOf ss (i - 1))) (lrun cU gd mR ys (lrun cT gd mR ys (rowOf ss (i - 1))))) 0 : Nat) : Int) = (lbwd ys ss i : Nat) := by
  rw [lb_post h h2 h3 h4, lempty, if_neg (fun e => by rw [e.2, beq_self_eq_true] at h6; cases h6)]
theorem lb7 (h : (i : Int) ≠ 0) (h2 : cI ys ss i = false) (h3 : ((lrun cT gd mR ys (rowOf ss (i - 1)) : Nat) : Int) ≠ 0)
    (h4 : beginS (ys.getD (lrun cU gd mR ys (lrun cT gd mR ys (rowOf ss (i - 1)))) Str.empty) = true)
    (h5 : ¬ (0 : Int) < (lup ys (lrun cT gd mR ys (rowOf ss (i - 1))) (lrun cU gd mR ys (lrun cT gd mR ys (rowOf ss (i - 1)))) : Nat)) :
    ((ss.getD (lup ys (lrun cT gd mR ys (rowOf ss (i - 1))) (lrun cU gd mR ys (lrun cT gd mR ys (rowOf ss (i - 1))))) 0 : Nat) : Int) = (lbwd ys ss i : Nat) := by
  rw [lb_post h h2 h3 h4, lempty, if_neg (fun e => by omega)]
end
variable {w : World} {mean : ExcName → Option Value} {mg mb : Str → Option Value} {news : Led}
theorem fillL3 : (hd.heap_39, PySem.Challenge.rw_np0017_01) = (hd.heap_39, PySem.Challenge.rw_np0017_01) := by
  k_fill
  rfl
local macro_rules | `(tactic| k_mem) => `(tactic| assumption)
theorem con_lbackward {l st : Addr} {ys : List Str} {ss : List Nat} {i : Nat} {u2 : Tok} (Y : LinesAt news l ys) (S : NumsAt news st ss) (hl : ss.length = ys.length) (h0 : ss.head? = some 0) :
    Con w mean mg mb 204 3 news [.ref l, .ref st, .int (i : Int) u2] (PInt news (lbwd ys ss i : Nat)) := by
  k_with_none
  k_with "call builtin:len" => (k_here; (with_reducible show wpAny _ _ (call (Value.builtin "len") [Value.ref _]) _ _ _); k_dflt (refine my_slen (by k_asm) (by k_mem) (by assumption) (by omega) ?_))
  k_with "call builtin:len" => (k_here; (with_reducible show wpAny _ _ (call (Value.builtin "len") [Value.ref _]) _ _ _); k_dflt (refine my_len (by k_asm) (by k_mem) (by assumption) (by omega) ?_))
  k_with "subscriptTail" => (k_here; (with_reducible show wpAny _ _ (subscriptTail _ _ (Value.ref _) (Value.int _ _)) _ _ _); k_dflt (refine' my_sitem ?zqkN ?zqkm ?zqki ?zqkk ?zqkl ?zqkf ?_; (case zqkN => k_asm); (case zqkm => k_mem); (case zqki => assumption); (case zqkk => (first | with_reducible exact rfl | with_reducible exact nat_succ | exact nat_succ | exact row_eq (by assumption) | exact nat_pred (by omega) | exact rfl | omega | exact row_eq2 (by assumption) (row_pos (by assumption) (by omega) (by omega)))); (case zqkl => omega); (case zqkf => omega); intro _))
  k_with "subscriptTail" => (k_here; (with_reducible show wpAny _ _ (subscriptTail _ _ (Value.ref _) (Value.int _ _)) _ _ _); k_dflt (refine' my_nitem ?zqkN ?zqkm ?zqki ?zqkk ?zqkl ?zqkf ?_; (case zqkN => k_asm); (case zqkm => k_mem); (case zqki => assumption); (case zqkk => (first | with_reducible exact rfl | with_reducible exact nat_succ | exact nat_succ | exact row_eq (by assumption) | exact nat_pred (by omega) | exact rfl | omega | exact row_eq2 (by assumption) (row_pos (by assumption) (by omega) (by omega)))); (case zqkl => omega); (case zqkf => omega); intro _))
  k_with "call builtin:len" => (k_here; (with_reducible show wpAny _ _ (call (Value.builtin "len") [Value.ref _]) _ _ _); k_dflt (refine my_slen (by k_asm) (by k_mem) (by assumption) (by omega) ?_))
  k_with "call builtin:len" => (k_here; (with_reducible show wpAny _ _ (call (Value.builtin "len") [Value.ref _]) _ _ _); k_dflt (refine my_len (by k_asm) (by k_mem) (by assumption) (by omega) ?_))
  k_with "subscriptTail Name Name ref int" => (k_here; (with_reducible show wpAny _ _ (subscriptTail _ _ (Value.ref _) (Value.int _ _)) _ _ _); k_dflt (refine' my_sitem ?zqkN ?zqkm ?zqki ?zqkk ?zqkl ?zqkf ?_; (case zqkN => k_asm); (case zqkm => k_mem); (case zqki => assumption); (case zqkk => (first | with_reducible exact rfl | with_reducible exact nat_succ | exact nat_succ | exact row_eq (by assumption) | exact nat_pred (by omega) | exact rfl | omega | exact row_eq2 (by assumption) (row_pos (by assumption) (by omega) (by omega)))); (case zqkl => omega); (case zqkf => omega); intro _))
  k_with "subscriptTail Name Name ref int" => (k_here; (with_reducible show wpAny _ _ (subscriptTail _ _ (Value.ref _) (Value.int _ _)) _ _ _); k_dflt (refine' my_nitem ?zqkN ?zqkm ?zqki ?zqkk ?zqkl ?zqkf ?_; (case zqkN => k_asm); (case zqkm => k_mem); (case zqki => assumption); (case zqkk => (first | with_reducible exact rfl | with_reducible exact nat_succ | exact nat_succ | exact row_eq (by assumption) | exact nat_pred (by omega) | exact rfl | omega | exact row_eq2 (by assumption) (row_pos (by assumption) (by omega) (by omega)))); (case zqkl => omega); (case zqkf => omega); intro _))
  k_with "call builtin:len" => (k_here; (with_reducible show wpAny _ _ (call (Value.builtin "len") [Value.ref _]) _ _ _); k_dflt (refine my_slen (by k_asm) (by k_mem) (by assumption) (by omega) ?_))
  k_with "call builtin:len" => (k_here; (with_reducible show wpAny _ _ (call (Value.builtin "len") [Value.ref _]) _ _ _); k_dflt (refine my_len (by k_asm) (by k_mem) (by assumption) (by omega) ?_))
  k_with "subscriptTail Name BinOp ref int" => (k_here; (with_reducible show wpAny _ _ (subscriptTail _ _ (Value.ref _) (Value.int _ _)) _ _ _); k_dflt (refine' my_sitem ?zqkN ?zqkm ?zqki ?zqkk ?zqkl ?zqkf ?_; (case zqkN => k_asm); (case zqkm => k_mem); (case zqki => assumption); (case zqkk => (first | with_reducible exact rfl | with_reducible exact nat_succ | exact nat_succ | exact row_eq (by assumption) | exact nat_pred (by omega) | exact rfl | omega | exact row_eq2 (by assumption) (row_pos (by assumption) (by omega) (by omega)))); (case zqkl => omega); (case zqkf => omega); intro _))
  k_with "subscriptTail Name BinOp ref int" => (k_here; (with_reducible show wpAny _ _ (subscriptTail _ _ (Value.ref _) (Value.int _ _)) _ _ _); k_dflt (refine' my_nitem ?zqkN ?zqkm ?zqki ?zqkk ?zqkl ?zqkf ?_; (case zqkN => k_asm); (case zqkm => k_mem); (case zqki => assumption); (case zqkk => (first | with_reducible exact rfl | with_reducible exact nat_succ | exact nat_succ | exact row_eq (by assumption) | exact nat_pred (by omega) | exact rfl | omega | exact row_eq2 (by assumption) (row_pos (by assumption) (by omega) (by omega)))); (case zqkl => omega); (case zqkf => omega); intro _))
  k_with "eval ListComp" => (k_here; k_dflt (refine LCt.ListComp_T (F₀ := by k_asm) (by with_unfolding_all rfl) (by decide) (by rfl) (by decide) (by rfl) ?_))
  k_with "CompSrcT" => (k_here; k_dflt (refine' LCt.CompSrcT.ledger (by rfl) (by k_asm) (by k_asm) (by k_mem) ?zqhsz ?_; (case zqhsz => exact my_sz (by assumption) (by assumption)); intro g2'; (refine' comp_le ?zqhi ?zqh0 ?zqhS ?zqht ?zqhe ?zqhz ?_; (case zqhi => assumption); (case zqh0 => assumption); (case zqhS => exact Or.inr ⟨_, by k_mem, rfl, _, rfl⟩); (case zqht => (intro k' t' I' oI' C' oC' D' m' ys' h' tk' E' hC' hx' F' N' off'; k_steps; exact tend (by k_asm) (by k_asm) rfl)); (case zqhe => (intro k' t' I' oI' C' oC' D' m' ys' h' tk' E' hC' hx' F' N' off'; k_steps; exact vend (by k_asm) (by k_asm) ⟨_, rfl⟩)); (case zqhz => (first | with_reducible exact rfl | with_reducible exact nat_succ | exact nat_succ | exact row_eq (by assumption) | exact nat_pred (by omega) | exact rfl | omega)); (intro ys' hys' hrl' hrt'))))
  k_with "call ref" => (k_here; k_dflt (refine' use_bool (con_lparting ?zqa0) ?zqk1 ?zqk2 ?zqk3 ?zqk4 ?zqk5 ?zqkK ?zqkd ?zqku ?_; (case zqk4 => k_asm); (case zqa0 => (first | assumption | exact menu_at (by assumption) _)); (case zqk1 => k_asm); (case zqk2 => k_asm); (case zqk3 => k_asm); (case zqk5 => k_asm); (case zqkK => first | exact rfl | assumption); (case zqkd => first | exact room_le hdp (by decide) | ktr_room); (case zqku => first | exact units_le hun (by decide) | ktr_units); k_whole; intro h' tk' F' N'; (try k_sweep)))
  k_with "call ref" => (k_here; k_dflt (refine' use_bool (con_lbegin ?zqa0) ?zqk1 ?zqk2 ?zqk3 ?zqk4 ?zqk5 ?zqkK ?zqkd ?zqku ?_; (case zqk4 => k_asm); (case zqa0 => (first | assumption | exact menu_at (by assumption) _)); (case zqk1 => k_asm); (case zqk2 => k_asm); (case zqk3 => k_asm); (case zqk5 => k_asm); (case zqkK => first | exact rfl | assumption); (case zqkd => first | exact room_le hdp (by decide) | ktr_room); (case zqku => first | exact units_le hun (by decide) | ktr_units); k_whole; intro h' tk' F' N'; (try k_sweep)))
  k_with "exec While BoolOp cons nil" => (k_here; (with_reducible show wpAny _ _ (exec (Stmt.While (PySem.Expr.BoolOp _ [_, PySem.Expr.Call _ _ _ _] _) _ _ _) _) _ _ _); k_dflt (refine' while_lines ?zqY (Str.ofString "_law_row") cT Mine.gd mR pI cT_falls ?zqF ?zqN ?zqhx ?zqhp ?zqhP ?_ ?_ ?_ ?zqhE; (case zqY => assumption); (case zqF => k_asm); (case zqN => k_asm); (case zqhx => exact rfl); (case zqhE => passes_own); (case zqhp => (first | with_reducible exact rfl | with_reducible exact nat_succ | exact nat_succ | exact row_eq (by assumption) | exact nat_pred (by omega) | exact rfl | omega)); (case zqhP => (show pI _ _; unfold pI; omega)); (all_goals (intros; (rename pI _ _ => hP9); (have hP2' := pI_lt hP9); (try k_sweep)))))
  k_with "exec While BoolOp cons nil" => (k_here; (with_reducible show wpAny _ _ (exec (Stmt.While (PySem.Expr.BoolOp _ [_, PySem.Expr.UnaryOp _ _ _] _) _ _ _) _) _ _ _); k_dflt (refine' while_lines ?zqY (Str.ofString "_law_row") cU Mine.gd mR pI cU_falls ?zqF ?zqN ?zqhx ?zqhp ?zqhP ?_ ?_ ?_ ?zqhE; (case zqY => assumption); (case zqF => k_asm); (case zqN => k_asm); (case zqhx => exact rfl); (case zqhE => passes_own); (case zqhp => (first | with_reducible exact rfl | with_reducible exact nat_succ | exact nat_succ | exact row_eq (by assumption) | exact nat_pred (by omega) | exact rfl | omega)); (case zqhP => first | assumption | (show pI _ _; unfold pI; omega)); (all_goals (intros; (rename pI _ _ => hP9); (have hP2' := pI_lt hP9); (try k_sweep)))))
  k_with "exec If" => (k_here; (with_reducible show wpAny _ _ (exec (Stmt.If (PySem.Expr.BoolOp _ [_, _, _] _) _ [] _) _) _ _ _); k_dflt (refine' if_cI ?zqY ?zqhrr ?zqF ?zqN ?_ ?_ ?_; (case zqY => assumption); (case zqhrr => assumption); (case zqF => k_asm); (case zqN => k_asm); (all_goals (intros; (try k_sweep)))))
  k_with "exec While Call cons nil" => (k_here; k_dflt (refine' while_up ?zqhs ?zqhr ?zqhlt (Str.ofString "_law_row") ?zqF ?zqN ?zqhx ?zqhp ?zqhP ?_ ?_ ?_ ?zqhE; (case zqhs => assumption); (case zqhr => omega); (case zqhlt => assumption); (case zqF => k_asm); (case zqN => k_asm); (case zqhx => exact rfl); (case zqhE => passes_own); (case zqhp => exact rfl); (case zqhP => exact lbU_le _ (by assumption)); (all_goals (intros; (try k_sweep)))))
  have hfy := Y.fit
  have hfs := S.fit
  have hmn := Y.menu
  obtain ⟨vs, n, h1, hS⟩ := Y.at'
  obtain ⟨vs2, n2, h2, hI⟩ := S.at'
  unfold Con
  intro dp un gd cn cs a ccd cl outer A₀ base h₀ L m s Q E B F X N T hk hdp hun hret
  refine wpAny_call ?_
  k_dflt (refine' code_defC ?k1 ?k2 ?k3 ?k4 ?k5 ?kA ?kF ?kK ?k6 ?k7 ?k8 ?k9 ?kB ?kD ?_ ?c2 ?c3 ?c4; (case kA => exact rfl); (case kF => exact rfl); (case kK => assumption); (case k1 => k_asm); (case k2 => k_asm); (case k3 => k_asm); (case k4 => k_asm); (case k5 => k_asm); (case k6 => k_is); (case k7 => k_is); (case k8 => ktr_room); (case k9 => exact BindsTo.of_eq rfl); (case kB => exact rfl); (case kD => decide +kernel); (case c2 => exact rfl); (case c3 => exact rfl); (case c4 => exact rfl); k_whole; intro g' L' h' tk' cells' FG' F' N' Y' B' X' T' l1; (try k_lt l1); k_cells Y'; (try simp only [List.cons_append, List.nil_append] at N'); (try dsimp only); (try k_lift B'); (try k_fold))
  k_steps
  all_goals first
    | (refine tend (by k_asm) (by k_asm) ?_; k_unmd; grind [cT, cU, cV, cI])
    | (refine nend (by k_asm) (by k_asm) rfl (fun z hz => (if_neg hz).trans (if_neg hz)) ?_; first | rfl | exact nat_succ | exact nat_pred (by grind [cT, cU, cQ, cR]))
    | (refine end_int hret (by k_asm) (by first | k_asm | exact cb_drop (by k_asm) (fun _ hp => by first | exact .tail _ hp | exact .tail _ (.tail _ hp) | exact .tail _ (.tail _ (.tail _ hp)))) ?_; k_unmd; first | exact lb1 (by assumption) | exact lb2 (by assumption) (by assumption) | exact lb3 (by assumption) (by assumption) (by assumption) | exact lb4 (by assumption) (by assumption) (by assumption) (by assumption) | exact lb5 (by assumption) (by assumption) (by assumption) (by assumption) (by assumption) (by assumption) | exact lb6 (by assumption) (by assumption) (by assumption) (by assumption) (by assumption) (by assumption) | exact lb7 (by assumption) (by assumption) (by assumption) (by assumption) (by assumption))
end
/-! part D1 -/
section
def DeckOk (ds : List Int) : Prop := ds ≠ [] ∧ ds.length ≤ 25 ∧ ∀ d ∈ ds, 0 ≤ d ∧ d < 10 ^ 60
abbrev deckAt (D : Addr) (vs : List Value) (n : Nat) : Addr × Obj := (D, PySem.W.listOf vs.toArray n)
def cD (ds : List Int) : Bool := decide (1 < ds.length) && decide (ds.headD 0 = 0)
theorem DeckOk.pos {ds : List Int} (h : DeckOk ds) : 0 < ds.length := List.length_pos_iff.mpr h.1
theorem DeckOk.head {ds : List Int} (h : DeckOk ds) : 0 ≤ ds.headD 0 ∧ ds.headD 0 < 10 ^ 60 := by
  obtain ⟨h1, _, h3⟩ := h
  cases ds with
  | nil => exact absurd rfl h1
  | cons a r => exact h3 a (.head _)
theorem getD_head {ds : List Int} : ds.getD (0 : Int).toNat 0 = ds.headD 0 := by cases ds <;> rfl
theorem DeckOk.tail {ds : List Int} (h : DeckOk ds) (hc : cD ds = true) : DeckOk ds.tail := by
  obtain ⟨h1, h2, h3⟩ := h
  simp only [cD, Bool.and_eq_true, decide_eq_true_eq] at hc
  refine ⟨?_, by rw [List.length_tail]; omega, fun d hd => h3 d (List.mem_of_mem_tail hd)⟩
  cases ds with
  | nil => exact absurd rfl h1
  | cons a r =>
    cases r with
    | nil => exact absurd hc.1 (by simp)
    | cons b r => simp
theorem DeckOk.set {ds : List Int} (h : DeckOk ds) {x : Int} (h0 : 0 ≤ x) (h1 : x < 10 ^ 60) : DeckOk (ds.set 0 x) := by
  obtain ⟨a, b, c⟩ := h
  refine ⟨?_, by rw [List.length_set]; exact b, fun d hd => ?_⟩
  · cases ds with
    | nil => exact absurd rfl a
    | cons y r => simp
  · cases ds with
    | nil => exact absurd rfl a
    | cons y r =>
      rcases List.mem_cons.mp hd with e | hd
      · subst e; exact ⟨h0, h1⟩
      · exact c d (.tail _ hd)
/-- a turn's end: the deck lies otherwise -/
def PEnd (s : Shared) (h₀ : Heap) (L : Addr) (m : Str → Option Value) (D : Addr) (vs : List Value) (rest : Led) (f : Flow) (s₂ : Shared) : Prop :=
  f = .next ∧ ∃ h' tk' n', s₂ = { s with heap := h', toks := tk' } ∧ Fr h₀ L h' m ∧ News h₀ L h' (deckAt D vs n' :: rest)
theorem pend {s : Shared} {h₀ h' : Heap} {L : Addr} {m : Str → Option Value} {D : Addr} {vs : List Value} {rest : Led} {tk' n' : Nat} (F : Fr h₀ L h' m) (N : News h₀ L h' (deckAt D vs n' :: rest)) :
    PEnd s h₀ L m D vs rest .next { s with heap := h', toks := tk' } := ⟨rfl, h', tk', n', rfl, F, N⟩
section
variable {prog : Program} {w : World} {A : Around} {E : Value → Shared → Prop} {Q : Flow → Shared → Prop} {s : Shared} {env : Env} {h₀ : Heap} {L D : Addr} {rest : Led} {vs : List Value} {ds : List Int} {n : Nat}
theorem while_deck {test : PySem.Expr} {body : List Stmt} {pos : Pos} {m₀ : Str → Option Value} (F : Fr h₀ L s.heap m₀) (N : News h₀ L s.heap (deckAt D vs n :: rest)) (hi : IntsAre vs ds) (ok : DeckOk ds)
    (htest : ∀ vs ds n h tk, IntsAre vs ds → DeckOk ds → 0 < ds.length → ds.length ≤ 25 → Fr h₀ L h m₀ → News h₀ L h (deckAt D vs n :: rest) →
      wpAny (model prog w) A (isTrue test env (eval test env)) (TEnd s h₀ L m₀ (deckAt D vs n :: rest) (cD ds)) E { s with heap := h, toks := tk })
    (hbody : ∀ vs ds n h tk, IntsAre vs ds → DeckOk ds → cD ds = true → 0 < ds.length → ds.length ≤ 25 → Fr h₀ L h m₀ → News h₀ L h (deckAt D vs n :: rest) →
      wpAny (model prog w) A (execs body env) (PEnd s h₀ L m₀ D vs.tail rest) E { s with heap := h, toks := tk })
    (done : ∀ vs ds n h tk, IntsAre vs ds → DeckOk ds → 0 < ds.length → ds.length ≤ 25 → 0 ≤ ds.headD 0 → ds.headD 0 < 10 ^ 60 → Fr h₀ L h m₀ → News h₀ L h (deckAt D vs n :: rest) → Q .next { s with heap := h, toks := tk })
    (hE : PassesOwn (model prog w) A env E := by passes_own) : wpAny (model prog w) A (exec (.While test body [] pos) env) Q E s := by
  refine While_inv2 (fun k m nx => m = m₀ ∧ ∃ vs ds n, nx = deckAt D vs n :: rest ∧ IntsAre vs ds ∧ DeckOk ds ∧ k = ds.length) (n₀ := ds.length) F N ⟨rfl, vs, ds, n, rfl, hi, ok, rfl⟩ ?_ hE
  rintro k m₁ nx h₁ tk₁ F₁ N₁ ⟨rfl, vs, ds, n, rfl, hi, ok, rfl⟩
  refine wpAny_mono (htest vs ds n h₁ tk₁ hi ok ok.pos ok.2.1 F₁ N₁) (fun bb s₂ h₂ => ?_) fun _ _ e => e
  obtain ⟨rfl, h', tk', rfl, F₂, N₂⟩ := h₂
  cases hc : cD ds with
  | false =>
    rw [if_neg (by simp)]
    exact done vs ds n h' tk' hi ok ok.pos ok.2.1 ok.head.1 ok.head.2 F₂ N₂
  | true =>
    rw [if_pos rfl]
    refine wpAny_mono (hbody vs ds n h' tk' hi ok hc ok.pos ok.2.1 F₂ N₂) (fun f s₃ h₃ => ?_) fun _ _ e => e
    obtain ⟨rfl, h'', tk'', n', rfl, F₃, N₃⟩ := h₃
    refine ⟨h'', tk'', m₁, _, ds.tail.length, rfl, F₃, N₃, ?_, rfl, vs.tail, ds.tail, n', rfl, ?_, ok.tail hc, rfl⟩
    · rw [List.length_tail]; have := ok.pos; omega
    · cases hi with
      | nil => exact .nil
      | cons k t r => exact r
end
section
variable {prog : Program} {w : World} {A : Around} {E : Value → Shared → Prop} {s : Shared} {h₀ : Heap} {L D : Addr} {m : Str → Option Value} {rest : Led} {vs : List Value} {ds : List Int} {n : Nat}
theorem deck_pop {u : Tok} {Q : Value → Shared → Prop} (F : Fr h₀ L s.heap m) (N : News h₀ L s.heap (deckAt D vs n :: rest)) (off : ∀ p ∈ rest, p.1 ≠ D) (hi : IntsAre vs ds) (h0 : 0 < ds.length) (h25 : ds.length ≤ 25)
    (h : ∀ h' v, Fr h₀ L h' m → News h₀ L h' (deckAt D vs.tail (n + 1) :: rest) → Q v { s with heap := h' }) : wpAny (model prog w) A (call (.builtin "list.pop") [.ref D, .int 0 u]) Q E s := by
  cases hi with
  | nil => exact absurd h0 (Nat.lt_irrefl _)
  | cons k t hr =>
    rename_i vs' ds'
    have hl := hr.length
    rw [List.length_cons] at h25
    refine kl_popAt (k := 0) (p := []) (q := vs') (y := .int k t) F N rfl ?_ rfl (Upd.head off) (by simp only [List.length_cons, PySem.sizeLine_eq]; omega) fun h' F' N' => h h' _ F' N'
    simp [seqIndex?]
theorem deck_set {k x : Int} {t u : Tok} {Q : Unit → Shared → Prop} (F : Fr h₀ L s.heap m) (N : News h₀ L s.heap (deckAt D vs n :: rest)) (off : ∀ p ∈ rest, p.1 ≠ D) (hi : IntsAre vs ds) (hk : k = 0) (h0 : 0 < ds.length)
    (h : ∀ h', Fr h₀ L h' m → News h₀ L h' (deckAt D (vs.set 0 (.int x u)) n :: rest) → IntsAre (vs.set 0 (.int x u)) (ds.set 0 x) → Q () { s with heap := h' }) :
    wpAny (model prog w) A (setItem (.ref D) (.int k t) (.int x u)) Q E s := by
  subst hk
  exact ksa_set F N (Upd.head off) hi (Int.le_refl 0) (by omega) (by decide) fun h' F' N' hi' _ _ => h h' F' N' hi'
theorem deck_item {value slice : PySem.Expr} {k : Int} {u : Tok} {Q : Value → Shared → Prop} (N : News h₀ L s.heap (deckAt D vs n :: rest)) (hi : IntsAre vs ds) (hk : k = 0) (h0 : 0 < ds.length) (h25 : ds.length ≤ 25) (h : ∀ t, Q (.int (ds.headD 0) t) s)
    (hs : subscripted slice false (.ref D) (.int k u) = operate [.ref D, .int k u] (getItem (.ref D) (.int k u)) := by with_unfolding_all rfl) :
    wpAny (model prog w) A (subscriptTail value slice (.ref D) (.int k u)) Q E s := by
  subst hk
  refine my_item N (.head _) hi (Int.le_refl 0) (by omega) (by omega) (fun t => ?_) hs
  rw [getD_head]; exact h t
theorem deck_len {Q : Value → Shared → Prop} (N : News h₀ L s.heap (deckAt D vs n :: rest)) (hi : IntsAre vs ds) (h25 : ds.length ≤ 25)
    (h : Q (.int ds.length (s.toks + 1)) { s with toks := s.toks + 1 + 1 }) : wpAny (model prog w) A (call (.builtin "len") [.ref D]) Q E s := my_len N (.head _) hi (by omega) h
end
def PDraw (D : Addr) (rest : Led) (many : Nat) (r : Value) (nw : Led) : Prop := ∃ (k : Nat) (t : Tok) (vs : List Value) (ds : List Int) (n : Nat), r = .int (k : Int) t ∧ k < many ∧ nw = deckAt D vs n :: rest ∧ IntsAre vs ds ∧ DeckOk ds
theorem pdraw {Q : Value → Shared → Prop} {s : Shared} {h₀ h' : Heap} {L : Addr} {m : Str → Option Value} {tk' : Nat} {D : Addr} {rest : Led} {many : Nat} {x : Int} {t : Tok} {vs : List Value} {ds : List Int} {n : Nat}
    (hret : ∀ v news' h' tk', PDraw D rest many v news' → Fr h₀ L h' m → News h₀ L h' news' → Q v { s with heap := h', toks := tk' })
    (F : Fr h₀ L h' m) (N : News h₀ L h' (deckAt D vs n :: rest)) (hi : IntsAre vs ds) (ok : DeckOk ds) (h0 : 0 ≤ x) (h1 : x < many) : Q (.int x t) { s with heap := h', toks := tk' } :=
  hret _ _ _ _ ⟨x.toNat, t, vs, ds, n, by rw [Int.toNat_of_nonneg h0], by omega, rfl, hi, ok⟩ F N
theorem fmod_in {x : Int} {many : Nat} (h : 0 < many) : 0 ≤ x.fmod (many : Int) ∧ x.fmod (many : Int) < many := ⟨Int.fmod_nonneg_of_pos _ (by omega), Int.fmod_lt_of_pos _ (by omega)⟩
theorem ok_div {ds : List Int} {many : Nat} (ok : DeckOk ds) : DeckOk (ds.set 0 ((ds.headD 0).fdiv (many : Int))) := by
  have h := ok.head
  have e : (ds.headD 0).fdiv (many : Int) = ds.headD 0 / (many : Int) := Int.fdiv_eq_ediv_of_nonneg _ (by omega)
  have h1 : 0 ≤ ds.headD 0 / (many : Int) := Int.ediv_nonneg h.1 (by omega)
  have h2 : ds.headD 0 / (many : Int) ≤ ds.headD 0 := Int.ediv_le_self _ h.1
  rw [e]
  exact ok.set h1 (Int.lt_of_le_of_lt h2 h.2)
theorem ok_mod {ds : List Int} {x : Int} (ok : DeckOk ds) : DeckOk (ds.set 0 (x.fmod 2147483647)) := by
  have h1 : 0 ≤ x.fmod 2147483647 := Int.fmod_nonneg_of_pos _ (by omega)
  have h2 : x.fmod 2147483647 < 2147483647 := Int.fmod_lt_of_pos _ (by omega)
  exact ok.set h1 (Int.lt_trans h2 (by decide +kernel))
variable {w : World} {mean : ExcName → Option Value} {mg mb : Str → Option Value} {rest : Led} {D : Addr}
theorem fillD1 : (hd.heap_39, PySem.Challenge.rw_np0017_01) = (hd.heap_39, PySem.Challenge.rw_np0017_01) := by
  k_fill
  rfl
theorem con_draw {vs : List Value} {ds : List Int} {n many : Nat} {u : Tok} (off : ∀ p ∈ rest, p.1 ≠ D) (hi : IntsAre vs ds) (ok : DeckOk ds) (hm : 0 < many) (hm2 : many < 2 ^ 30) :
    Con w mean mg mb 163 1 (deckAt D vs n :: rest) [.ref D, .int (many : Int) u] (PDraw D rest many) := by
  k_with_none
  k_with "call builtin:len" => (k_here; (with_reducible show wpAny _ _ (call (Value.builtin "len") [Value.ref _]) _ _ _); k_dflt (refine deck_len (by k_asm) (by assumption) (by assumption) ?_))
  k_with "subscriptTail Name Constant ref int" => (k_here; (with_reducible show wpAny _ _ (subscriptTail _ _ (Value.ref _) (Value.int _ _)) _ _ _); k_dflt (refine deck_item (by k_asm) (by assumption) (by rfl) (by assumption) (by assumption) ?_); intro _)
  k_with "call builtin:list.pop" => (k_here; k_dflt (refine deck_pop (by k_asm) (by k_asm) (by assumption) (by assumption) (by assumption) (by assumption) ?_); intro h' v' F' N')
  k_with "setItem ref int" => (k_here; (with_reducible show wpAny _ _ (setItem (Value.ref _) (Value.int _ _) (Value.int _ _)) _ _ _); k_dflt (refine deck_set (by k_asm) (by k_asm) (by assumption) (by assumption) (by rfl) (by assumption) ?_); intro h' F' N' hI')
  k_with "exec While BoolOp cons nil" => (k_here; k_dflt (refine' while_deck ?zqF ?zqN ?zqhi ?zqok ?_ ?_ ?_ ?zqhE; (case zqF => k_asm); (case zqN => k_asm); (case zqhi => assumption); (case zqok => assumption); (case zqhE => passes_own); (all_goals (intros; (try k_sweep)))))
  unfold Con
  intro dp un gd cn cs a ccd cl outer A₀ base h₀ L m s Q E B F X N T hk hdp hun hret
  refine wpAny_call ?_
  k_dflt cell_enter
  k_steps
  all_goals first
    | (refine tend (by k_asm) (by k_asm) ?_; k_unmd; grind [cD])
    | (exact pend (by k_asm) (by k_asm))
    | (exact pdraw hret (by k_asm) (by k_asm) (by k_asm) (ok_div (by assumption)) (fmod_in hm).1 (fmod_in hm).2)
    | (exact pdraw hret (by k_asm) (by k_asm) (by k_asm) (ok_mod (by assumption)) (fmod_in hm).1 (fmod_in hm).2)
end
/-! part D2 -/
section
def PDrawS (D : Addr) (rest : Led) (items : List Str) (r : Value) (nw : Led) : Prop := ∃ (y : Str) (t : Tok) (vs : List Value) (ds : List Int) (n : Nat), r = .str y t ∧ y ∈ items ∧ nw = deckAt D vs n :: rest ∧ IntsAre vs ds ∧ DeckOk ds
theorem pdrawS {Q : Value → Shared → Prop} {s : Shared} {h₀ h' : Heap} {L : Addr} {m : Str → Option Value} {tk' : Nat} {D : Addr} {rest : Led} {items : List Str} {k : Nat} {t : Tok} {vs : List Value} {ds : List Int} {n : Nat}
    (hret : ∀ v news' h' tk', PDrawS D rest items v news' → Fr h₀ L h' m → News h₀ L h' news' → Q v { s with heap := h', toks := tk' })
    (F : Fr h₀ L h' m) (N : News h₀ L h' (deckAt D vs n :: rest)) (hi : IntsAre vs ds) (ok : DeckOk ds) (hk : k < items.length) : Q (.str (items.getD k Str.empty) t) { s with heap := h', toks := tk' } :=
  hret _ _ _ _ ⟨_, t, vs, ds, n, rfl, by rw [List.getD_eq_getElem?_getD, List.getElem?_eq_getElem hk]; exact List.getElem_mem hk, rfl, hi, ok⟩ F N
variable {w : World} {mean : ExcName → Option Value} {mg mb : Str → Option Value} {rest : Led} {D : Addr}
theorem fillD2 : (hd.heap_39, PySem.Challenge.rw_np0017_01) = (hd.heap_39, PySem.Challenge.rw_np0017_01) := by
  k_fill
  rfl
theorem con_one {vs : List Value} {ds : List Int} {n : Nat} {c : Addr} {ws : List Value} {nn : Nat} {items : List Str} (off : ∀ p ∈ rest, p.1 ≠ D) (hi : IntsAre vs ds) (ok : DeckOk ds)
    (hm : (c, PySem.W.listOf ws.toArray nn) ∈ rest) (hw : StrsAre ws items) (h0 : 0 < items.length) (hlt : items.length < 2 ^ 20) :
    Con w mean mg mb 175 2 (deckAt D vs n :: rest) [.ref D, .ref c] (PDrawS D rest items) := by
  k_with_none
  k_with "call builtin:len" => (k_here; (with_reducible show wpAny _ _ (call (Value.builtin "len") [Value.ref _]) _ _ _); k_dflt (refine my_slen (by k_asm) (by first | assumption | exact .tail _ (by assumption)) (by assumption) (by omega) ?_))
  k_with "subscriptTail" => (k_here; (with_reducible show wpAny _ _ (subscriptTail _ _ (Value.ref _) (Value.int _ _)) _ _ _); k_dflt (refine my_sitem (by k_asm) (by first | assumption | exact .tail _ (by assumption)) (by assumption) (by rfl) (by assumption) (by omega) ?_); intro _)
  k_with "call ref" => (k_here; k_dflt (refine' con_use (con_draw ?zqa0 ?zqa1 ?zqa2 ?zqa3 ?zqa4) ?zqk1 ?zqk2 ?zqk3 ?zqk4 ?zqk5 ?zqkK ?zqkd ?zqku ?_; (case zqk4 => k_asm); (case zqa0 => assumption); (case zqa1 => assumption); (case zqa2 => assumption); (case zqa3 => omega); (case zqa4 => omega); (case zqk1 => k_asm); (case zqk2 => k_asm); (case zqk3 => k_asm); (case zqk5 => k_asm); (case zqkK => first | exact rfl | assumption); (case zqkd => first | exact room_le hdp (by decide) | ktr_room); (case zqku => first | exact units_le hun (by decide) | ktr_units); k_whole; intro r' nw' h' tk' hp' F' N'; obtain ⟨_, _, _, _, _, hr9, hk9, hn9, hi9, ho9⟩ := hp'; subst hr9; subst hn9; (try k_sweep)))
  unfold Con
  intro dp un gd cn cs a ccd cl outer A₀ base h₀ L m s Q E B F X N T hk hdp hun hret
  refine wpAny_call ?_
  k_dflt cell_enter
  k_steps
  all_goals first
    | (exact pdrawS hret (by k_asm) (by k_asm) (by k_asm) (by k_asm) (by assumption))
section
variable {dp un : Nat} {gd : Option (List Code)} {cn : Str} {cs : Scope} {a : Addr} {ccd : Value} {cl : List (Str × Addr)} {outer : List Env} {A₀ : Around} {base h₀ : Heap} {L : Addr} {m : Str → Option Value} {s : Shared} {Q E : Value → Shared → Prop}
variable {mean : ExcName → Option Value} {mg mb : Str → Option Value} {w : World} {D : Addr} {news : Led} {vs : List Value} {ds : List Int} {n : Nat} {nx : List Value → Nat → Led}
theorem sort_in {pre post : Led} {p : Addr × Obj} (N : News h₀ L s.heap (pre ++ p :: post)) : News h₀ L s.heap (p :: (pre ++ post)) := fun q hq => N q (by
  rcases List.mem_cons.mp hq with rfl | hq
  · simp
  · rcases List.mem_append.mp hq with h | h <;> simp [h])
theorem sort_out {pre post : Led} {p : Addr × Obj} {h : Heap} (N : News h₀ L h (p :: (pre ++ post))) : News h₀ L h (pre ++ p :: post) := fun q hq => N q (by
  rcases List.mem_append.mp hq with h | h
  · simp [h]
  · rcases List.mem_cons.mp h with rfl | h <;> simp [*])
theorem upd_sub {D : Addr} {o o' : Obj} {l l' : Led} (U : Upd D o o' l l') : ∀ p ∈ l', p = (D, o') ∨ (p ∈ l ∧ p.1 ≠ D) := by
  induction U with
  | head h =>
    intro p hp
    rcases List.mem_cons.mp hp with rfl | hp
    · exact .inl rfl
    · exact .inr ⟨.tail _ hp, h p hp⟩
  | tail h _ ih =>
    intro p hp
    rcases List.mem_cons.mp hp with rfl | hp
    · exact .inr ⟨.head _, h⟩
    · rcases ih p hp with e | ⟨e, e2⟩
      · exact .inl e
      · exact .inr ⟨.tail _ e, e2⟩
theorem upd_news {D : Addr} {o o' : Obj} {pre post nx' : Led} {h : Heap} (U : Upd D o o' (pre ++ (D, o) :: post) nx') (N : News h₀ L h ((D, o') :: (pre ++ post))) : News h₀ L h nx' := fun p hp => by
  rcases upd_sub U p hp with rfl | ⟨hm, hne⟩
  · exact N _ (.head _)
  · refine N p (.tail _ ?_)
    rcases List.mem_append.mp hm with h5 | h5
    · exact List.mem_append.mpr (.inl h5)
    · rcases List.mem_cons.mp h5 with rfl | h6
      · exact absurd rfl hne
      · exact List.mem_append.mpr (.inr h6)
theorem use_draw {many : Nat} {u : Tok} (U : ∀ vs' n', Upd D (PySem.W.listOf vs.toArray n) (PySem.W.listOf vs'.toArray n') news (nx vs' n')) (hi : IntsAre vs ds) (ok : DeckOk ds) (hm : 0 < many) (hm2 : many < 2 ^ 30)
    (B : Below A₀ base outer h₀) (F : Fr h₀ L s.heap m) (X : (hd.heap_39 w.params).In h₀) (N : News h₀ L s.heap news) (T : Top hd.view_39 (looseW hd.view_39 [Str.ofString "PARTING"]) mean mg mb h₀) (hk : cs.kind = .function)
    (hdp : dp + 1 < recursionLimit) (hun : un + 8 * 1 < cLine)
    (ret : ∀ k t vs' ds' n' h' tk', k < many → IntsAre vs' ds' → DeckOk ds' → Fr h₀ L h' m → News h₀ L h' (nx vs' n') → Q (.int (k : Int) t) { s with heap := h', toks := tk' }) :
    wpAny (model PR w) (ktrTop dp un gd cn cs L a ccd cl outer) (call (.ref 163) [.ref D, .int (many : Int) u]) Q E s := by
  obtain ⟨pre, post, e, _, o1, o2⟩ := (U vs n).split
  subst e
  refine con_use (con_draw (rest := pre ++ post) (fun p hp => ?_) hi ok hm hm2) B F X (sort_in N) T hk hdp hun fun v news' h' tk' hp F' N' => ?_
  · rcases List.mem_append.mp hp with h | h
    · exact o1 p h
    · exact o2 p h
  · obtain ⟨k, t, vs', ds', n', rfl, hk', rfl, hi', ok'⟩ := hp
    exact ret k t vs' ds' n' h' tk' hk' hi' ok' F' (upd_news (U vs' n') N')
theorem use_one {c : Addr} {ws : List Value} {nn : Nat} {items : List Str} (U : ∀ vs' n', Upd D (PySem.W.listOf vs.toArray n) (PySem.W.listOf vs'.toArray n') news (nx vs' n')) (hi : IntsAre vs ds) (ok : DeckOk ds)
    (hmc : (c, PySem.W.listOf ws.toArray nn) ∈ news) (hne : c ≠ D) (hw : StrsAre ws items) (h0 : 0 < items.length) (hlt : items.length < 2 ^ 20)
    (B : Below A₀ base outer h₀) (F : Fr h₀ L s.heap m) (X : (hd.heap_39 w.params).In h₀) (N : News h₀ L s.heap news) (T : Top hd.view_39 (looseW hd.view_39 [Str.ofString "PARTING"]) mean mg mb h₀) (hk : cs.kind = .function)
    (hdp : dp + 2 < recursionLimit) (hun : un + 8 * 2 < cLine)
    (ret : ∀ y t vs' ds' n' h' tk', y ∈ items → IntsAre vs' ds' → DeckOk ds' → Fr h₀ L h' m → News h₀ L h' (nx vs' n') → Q (.str y t) { s with heap := h', toks := tk' }) :
    wpAny (model PR w) (ktrTop dp un gd cn cs L a ccd cl outer) (call (.ref 175) [.ref D, .ref c]) Q E s := by
  obtain ⟨pre, post, e, _, o1, o2⟩ := (U vs n).split
  subst e
  refine con_use (con_one (rest := pre ++ post) (c := c) (ws := ws) (nn := nn) (fun p hp => ?_) hi ok ?_ hw h0 hlt) B F X (sort_in N) T hk hdp hun fun v news' h' tk' hp F' N' => ?_
  · rcases List.mem_append.mp hp with h | h
    · exact o1 p h
    · exact o2 p h
  · rcases List.mem_append.mp hmc with h | h
    · exact List.mem_append.mpr (.inl h)
    · rcases List.mem_cons.mp h with e | h
      · exact absurd (congrArg Prod.fst e) hne
      · exact List.mem_append.mpr (.inr h)
  · obtain ⟨y, t, vs', ds', n', rfl, hk', rfl, hi', ok'⟩ := hp
    exact ret y t vs' ds' n' h' tk' hk' hi' ok' F' (upd_news (U vs' n') N')
end
end
/-! part D3 -/
section
def MEnd (s : Shared) (h₀ : Heap) (L : Addr) (m₀ : Str → Option Value) (x y : Str) (B : Int) (news own : Led) (f : Flow) (s₂ : Shared) : Prop :=
  f = .next ∧ ∃ h' tk' m' a t', s₂ = { s with heap := h', toks := tk' } ∧ Fr h₀ L h' m' ∧ News h₀ L h' (news ++ own) ∧ m' y = some (.int a t') ∧ 0 ≤ a ∧ a < B ∧ ∀ z, z ≠ x → z ≠ y → m' z = m₀ z
theorem mend {s : Shared} {h₀ h' : Heap} {L : Addr} {m₀ m' : Str → Option Value} {x y : Str} {B a : Int} {own news : Led} {tk' : Nat} {t' : Tok} (F : Fr h₀ L h' m') (N : News h₀ L h' (news ++ own)) (hy : m' y = some (.int a t')) (hz : ∀ z, z ≠ x → z ≠ y → m' z = m₀ z) (h0 : 0 ≤ a) (h1 : a < B) :
    MEnd s h₀ L m₀ x y B news own .next { s with heap := h', toks := tk' } := ⟨rfl, h', tk', m', a, t', rfl, F, N, hy, h0, h1, hz⟩
section
variable {prog : Program} {w : World} {A : Around} {E : Value → Shared → Prop} {s : Shared} {env : Env} {h₀ : Heap} {body : List Stmt} {Q : Flow → Shared → Prop} {news : Led}
theorem for_bound {l : Addr} {vs : List Value} {ns : List Int} {nn : Nat} {m₀ : Str → Option Value} (x y : Str) (hxy : y ≠ x) (B : Int) {a₀ : Int} {t₀ : Tok}
    (hh : A.handled = none) (hl : (l, PySem.W.listOf vs.toArray nn) ∈ news) (hi : IntsAre vs ns) (F : Fr h₀ env.locals s.heap m₀) (N : News h₀ env.locals s.heap news) (hy : m₀ y = some (.int a₀ t₀)) (h0 : 0 ≤ a₀) (h1 : a₀ < B)
    (turn : ∀ n t a ta h tk own, n ∈ ns → 0 ≤ a → a < B → Fr h₀ env.locals h (fun z => if z = x then some (.int n t) else if z = y then some (.int a ta) else m₀ z) → News h₀ env.locals h (news ++ own) →
      wpAny (model prog w) A (execs body env) (MEnd s h₀ env.locals m₀ x y B news own) E { s with heap := h, toks := tk })
    (done : ∀ (u : Option Value) a t h tk, 0 ≤ a → a < B → Fr h₀ env.locals h (fun z => if z = x then u else if z = y then some (.int a t) else m₀ z) → News h₀ env.locals h news → Q .next { s with heap := h, toks := tk }) :
    wpAny (model prog w) A (pyIter (.ref l)) (fun it s₂ => LoopAtV prog w A h₀ env x body Q E it s₂) E s := by
  have mm : ∀ (m : Str → Option Value) (a : Int) (t : Tok) (u : Option Value), m y = some (.int a t) → (∀ z, z ≠ x → z ≠ y → m z = m₀ z) → (fun z => if z = x then u else m z) = fun z => if z = x then u else if z = y then some (.int a t) else m₀ z := by
    intro m a t u hm hz
    funext z
    by_cases h1 : z = x
    · rw [if_pos h1, if_pos h1]
    · rw [if_neg h1, if_neg h1]
      by_cases h2 : z = y
      · rw [if_pos h2, h2, hm]
      · rw [if_neg h2, hz z h1 h2]
  refine iter_invNL (fun _ m nx => nx = news ∧ ∃ a t, m y = some (.int a t) ∧ 0 ≤ a ∧ a < B ∧ ∀ z, z ≠ x → z ≠ y → m z = m₀ z) hh hl hi F N ⟨rfl, a₀, t₀, hy, h0, h1, fun _ _ _ => rfl⟩ ?_ ?_
  · rintro i n t m₁ nx h tk own hn _ _ _ ⟨rfl, a, ta, hm, ha0, ha1, hz⟩ F₁ N₁
    rw [mm m₁ a ta _ hm hz] at F₁
    refine wpAny_mono (turn n t a ta h tk own (List.mem_of_getElem? hn) ha0 ha1 F₁ N₁) (fun f s₂ hq => ?_) fun _ _ e => e
    obtain ⟨rfl, h', tk', m', a', t', rfl, F₂, N₂, hy', h0', h1', hz'⟩ := hq
    exact ⟨h', tk', m', _, nx, rfl, F₂, N₂, fun p hp => List.mem_append.mpr (.inl hp), fun p hp => List.mem_append.mpr (.inr hp), rfl, hl, rfl, a', t', hy', h0', h1', hz'⟩
  · rintro m₁ nx h tk _ ⟨rfl, a, t, hm, ha0, ha1, hz⟩ F₁ N₁
    refine done (m₁ x) a t h tk ha0 ha1 ?_ N₁
    rw [← mm m₁ a t _ hm hz]
    have e : (fun z => if z = x then m₁ x else m₁ z) = m₁ := by
      funext z
      by_cases h : z = x
      · rw [if_pos h, h]
      · rw [if_neg h]
    rw [e]; exact F₁
end
section
variable {prog : Program} {w : World} {A : Around} {h₀ : Heap} {L : Addr} {m : Str → Option Value} {env : Env} {ct elt : PySem.Expr} {x : Str} {scope : Scope} {cl : List (Str × Addr)} {s : Shared} {S : Led → Prop} {Fin : List Value → Led → Prop} {news : Led}
def mapG (p : Int → Bool) (g : Int → Int) (l : List Int) (k : Int) : List Int := if p k = true then l ++ [g k] else l
theorem mapG_fold (p : Int → Bool) (g : Int → Int) : ∀ (ks acc : List Int), ks.foldl (mapG p g) acc = acc ++ (ks.filter p).map g
  | [], acc => by simp
  | k :: ks, acc => by
    rw [List.foldl_cons, mapG_fold p g ks]
    cases hp : p k <;> simp [mapG, hp]
theorem mapG_grows (p : Int → Bool) (g : Int → Int) : KPfGrows (mapG p g) := by
  intro l k
  unfold mapG
  split <;> simp
theorem comp_map {vs : List Value} {ks : List Int} (p : Int → Bool) (g : Int → Int) (hi : IntsAre vs ks) (hS : S news)
    (test : ∀ k t I oI C oC D m₂ ys h tk (E' : Value → Shared → Prop), LCg.NsObj oC m₂ → m₂ x = some (.int k t) → Fr h₀ L h m → News h₀ L h ((I, oI) :: (C, oC) :: (D, LCg.lst ys) :: news) → LCg.Off3 I C D news →
      wpAny (model prog w) A (isTrue ct (compEnvC scope cl C env) (eval ct (compEnvC scope cl C env))) (TEnd { s with heap := h, toks := tk } h₀ L m ((I, oI) :: (C, oC) :: (D, LCg.lst ys) :: news) (p k)) E' { s with heap := h, toks := tk })
    (item : ∀ k t I oI C oC D m₂ ys h tk (E' : Value → Shared → Prop), LCg.NsObj oC m₂ → m₂ x = some (.int k t) → Fr h₀ L h m → News h₀ L h ((I, oI) :: (C, oC) :: (D, LCg.lst ys) :: news) → LCg.Off3 I C D news →
      wpAny (model prog w) A (eval elt (compEnvC scope cl C env)) (VEnd { s with heap := h, toks := tk } h₀ L m ((I, oI) :: (C, oC) :: (D, LCg.lst ys) :: news) (fun v => ∃ t, v = .int (g k) t)) E' { s with heap := h, toks := tk })
    (fin : ∀ ys, IntsAre ys ((ks.filter p).map g) → ((ks.filter p).map g).length ≤ ks.length → Fin ys news) :
    LCt.CompRestT prog w A h₀ L m env ct elt x scope cl s S (fun i v => vs.toArray[i]? = some v) Fin vs.toArray.size 0 [] news := by
  refine kci_list (mapG p g) hi ?_ (fun ys h _ => fin ys (by rw [mapG_fold] at h; simpa using h) (by rw [List.length_map]; exact List.length_filter_le _ _)) (mapG_grows p g)
  intro k t I oI C oC D m₂ ys l h tk E' _ _ hC hx F N off ne _
  refine wpAny_mono (test k t I oI C oC D m₂ ys h tk E' hC hx F N off) (fun bb s₂ hb => ?_) fun _ _ e => e
  obtain ⟨rfl, h', tk', rfl, F', N'⟩ := hb
  unfold mapG
  cases hp : p k with
  | true =>
    rw [if_pos rfl]
    refine wpAny_mono (item k t I oI C oC D m₂ ys h' tk' E' hC hx F' N' off) (fun v s₃ hv => ?_) fun _ _ e => e
    obtain ⟨⟨t', rfl⟩, h'', tk'', rfl, F'', N''⟩ := hv
    exact ⟨h'', tk'', news, rfl, F'', N'', off, hS, rfl, g k, t', rfl, by simp⟩
  | false =>
    rw [if_neg (by simp)]
    exact ⟨h', tk', news, rfl, F', N', off, hS, rfl, by simp⟩
end
theorem size24 {vs : List Value} {ns : List Int} (hi : IntsAre vs ns) (h : ns.length = min 24 n) : vs.toArray.size ≤ sizeLine := by
  have := hi.length
  simp only [List.size_toArray, PySem.sizeLine_eq]
  omega
def deckP (k : Int) : Bool := decide ((10 : Int) ^ Int.toNat 9 ≤ if k < 0 then -k else k)
def deckG (M k : Int) : Int := (if k < 0 then -k else k).fmod M
def deckS (M : Int) (ks : List Int) : List Int := (ks.filter deckP).map (deckG M)
structure BigIs (M : Int) : Prop where
  eq : M = 10 ^ 60
section
variable {prog : Program} {w : World} {A : Around} {h₀ : Heap} {L : Addr} {m : Str → Option Value} {env : Env} {ct elt : PySem.Expr} {x : Str} {scope : Scope} {cl : List (Str × Addr)} {s : Shared} {S : Led → Prop} {Fin : List Value → Led → Prop} {news : Led}
theorem comp_src {M : Int} {vs : List Value} {ks : List Int} (_hM : BigIs M) (hi : IntsAre vs ks) (hS : S news)
    (test : ∀ k t I oI C oC D m₂ ys h tk (E' : Value → Shared → Prop), LCg.NsObj oC m₂ → m₂ x = some (.int k t) → Fr h₀ L h m → News h₀ L h ((I, oI) :: (C, oC) :: (D, LCg.lst ys) :: news) → LCg.Off3 I C D news →
      wpAny (model prog w) A (isTrue ct (compEnvC scope cl C env) (eval ct (compEnvC scope cl C env))) (TEnd { s with heap := h, toks := tk } h₀ L m ((I, oI) :: (C, oC) :: (D, LCg.lst ys) :: news) (deckP k)) E' { s with heap := h, toks := tk })
    (item : ∀ k t I oI C oC D m₂ ys h tk (E' : Value → Shared → Prop), LCg.NsObj oC m₂ → m₂ x = some (.int k t) → Fr h₀ L h m → News h₀ L h ((I, oI) :: (C, oC) :: (D, LCg.lst ys) :: news) → LCg.Off3 I C D news →
      wpAny (model prog w) A (eval elt (compEnvC scope cl C env)) (VEnd { s with heap := h, toks := tk } h₀ L m ((I, oI) :: (C, oC) :: (D, LCg.lst ys) :: news) (fun v => ∃ t, v = .int (deckG M k) t)) E' { s with heap := h, toks := tk })
    (fin : ∀ ys, IntsAre ys (deckS M ks) → (deckS M ks).length ≤ ks.length → Fin ys news) :
    LCt.CompRestT prog w A h₀ L m env ct elt x scope cl s S (fun i v => vs.toArray[i]? = some v) Fin vs.toArray.size 0 [] news := comp_map deckP (deckG M) hi hS test item fin
end
theorem big_pos {M : Int} (h : BigIs M) : 0 < M := by rw [h.eq]; decide +kernel
theorem deckS_ok {M : Int} (hM : BigIs M) {ks : List Int} {a : Int} (h0 : 0 ≤ a) (h1 : a < 2147483647) (hk : ks.length ≤ 24) : DeckOk (deckS M ks ++ [a]) := by
  refine ⟨by simp, ?_, fun d hd => ?_⟩
  · have := List.length_filter_le deckP ks
    simp only [deckS, List.length_append, List.length_map, List.length_singleton]
    omega
  · rcases List.mem_append.mp hd with h | h
    · obtain ⟨k, _, rfl⟩ := List.mem_map.mp h
      have hp := big_pos hM
      refine ⟨Int.fmod_nonneg_of_pos _ hp, ?_⟩
      have h2 : deckG M k < M := Int.fmod_lt_of_pos _ hp
      rw [hM.eq] at h2 ⊢
      exact h2
    · rw [List.mem_singleton.mp h]
      exact ⟨h0, Int.lt_trans h1 (by decide +kernel)⟩
theorem deck_end {M : Int} {ns : List Int} {news : Led} {a : Int} {ws : List Value} {D D1 D2 D3 l : Addr} {n : Nat} {e1 e2 e3 e4 : Addr × Obj} {Q : Value → Shared → Prop} {s : Shared} {h₀ h' : Heap} {L : Addr} {m : Str → Option Value} {tk' : Nat}
    (hret : ∀ D vs ds n h' tk', IntsAre vs ds → DeckOk ds → (∀ p ∈ news, p.1 ≠ D) → Fr h₀ L h' m → News h₀ L h' (deckAt D vs n :: news) → Q (.ref D) { s with heap := h', toks := tk' })
    (hM : BigIs M) (hI : IntsAre ws (deckS M (List.take 24 ns) ++ [a])) (h0 : 0 ≤ a) (h1 : a < 2147483647) (hl : @LT.lt Nat _ l D ∧ @LT.lt Nat _ D1 D ∧ @LT.lt Nat _ D2 D ∧ @LT.lt Nat _ D3 D ∧ AllLt D news)
    (F : Fr h₀ L h' m) (N : News h₀ L h' ((D, PySem.W.listOf ws.toArray n) :: e1 :: e2 :: e3 :: e4 :: news)) : Q (.ref D) { s with heap := h', toks := tk' } := by
  have off : ∀ {l : Led}, AllLt D l → ∀ p ∈ l, p.1 ≠ D := by
    intro l
    induction l with
    | nil => intro _ p hp; cases hp
    | cons q r ih =>
      rintro ⟨h1, h2⟩ p hp
      rcases List.mem_cons.mp hp with rfl | hp
      · exact Nat.ne_of_lt h1
      · exact ih h2 p hp
  refine hret D ws _ n h' tk' hI (deckS_ok hM h0 h1 (by rw [List.length_take]; omega)) (off hl.2.2.2.2) F (fun p hp => N p ?_)
  rcases List.mem_cons.mp hp with rfl | hp
  · exact .head _
  · exact .tail _ (.tail _ (.tail _ (.tail _ (.tail _ hp))))
theorem pow60 {prog : Program} {w : World} {A : Around} {E : Value → Shared → Prop} {s : Shared} {Q : Value → Shared → Prop} {M : Int} {t u : Tok} (hM : BigIs M) (h : Q (.int M s.toks) { s with toks := s.toks + 1 }) :
    wpAny (model prog w) A (binaryOp .Pow (.int 10 t) (.int 60 u)) Q E s :=
  pow_int (by decide) (by decide +kernel) (by rw [hM.eq] at h; exact h)
variable {w : World} {mean : ExcName → Option Value} {mg mb : Str → Option Value} {news : Led}
theorem fillD3 : (hd.heap_39, PySem.Challenge.rw_np0017_01) = (hd.heap_39, PySem.Challenge.rw_np0017_01) := by
  k_fill
  rfl
theorem con_deck_of {M : Int} (hM : BigIs M) (hM0 : 0 < M) {sl : Addr} {its : List Value} {ns : List Int} 
    {dp un : Nat} {gd : Option (List Code)} {cn : Str} {cs : Scope} {a : Addr} {ccd : Value} {cl : List (Str × Addr)} {outer : List Env} {A₀ : Around} {base h₀ : Heap} {L : Addr} {m : Str → Option Value} {s : Shared} {Q E : Value → Shared → Prop}
    (hl : base.IsList sl its.toArray) (hi : IntsAre its ns) (hlen : ns.length ≤ 63)
    (B : Below A₀ base outer h₀) (F : Fr h₀ L s.heap m) (X : (hd.heap_39 w.params).In h₀) (N : News h₀ L s.heap news) (T : Top hd.view_39 (looseW hd.view_39 [Str.ofString "PARTING"]) mean mg mb h₀) (hk : cs.kind = .function)
    (hdp : dp + 1 < recursionLimit) (hun : un + 8 * 1 < cLine)
    (hret : ∀ D vs ds n h' tk', IntsAre vs ds → DeckOk ds → (∀ p ∈ news, p.1 ≠ D) → Fr h₀ L h' m → News h₀ L h' (deckAt D vs n :: news) → Q (.ref D) { s with heap := h', toks := tk' }) :
    wpAny (model PR w) (ktrTop dp un gd cn cs L a ccd cl outer) (call (.ref 168) [.ref sl]) Q E s := by
  k_with_none
  k_with "exec For Name Subscript cons nil" => (k_here; (rename Fr _ _ _ _ => lF'); (with_unfolding_all refine' For_invVF lF' ?zqk1 ?zqk2 ?_; (case zqk1 => exact rfl); (case zqk2 => exact rfl); k_whole))
  k_with "pyIter ref" => (k_here; (with_reducible show wpAny _ _ (pyIter (Value.ref _)) (fun it s₂ => LoopAtV _ _ _ _ _ _ _ _ _ it s₂) _ _); k_dflt (refine' for_bound (Str.ofString "_law_cell") (Str.ofString "_law_mixed") (by decide) 2147483647 ?zqhh ?zqhl ?zqhi ?zqF ?zqN ?zqhy ?zqh0 ?zqh1 ?_ ?_; (case zqN => k_asm); (case zqhh => exact rfl); (case zqhl => k_mem); (case zqhi => assumption); (case zqF => k_asm); (case zqhy => exact rfl); (case zqh0 => decide); (case zqh1 => decide); (all_goals (intros; (try k_sweep)))))
  k_with "eval ListComp" => (k_here; k_dflt (refine LCt.ListComp_T (F₀ := by k_asm) (by with_unfolding_all rfl) (by decide) (by rfl) (by decide) (by rfl) ?_))
  k_with "binaryOp Pow int int" => (k_here; (with_reducible show wpAny _ _ (binaryOp Operator.Pow (Value.int 10 _) (Value.int 60 _)) _ _ _); k_dflt (refine' pow60 ?zqk1 ?_; (case zqk1 => assumption)))
  k_with "execs nil" => (k_here; with_reducible refine wpAny_execs_nil ?_)
  k_with "CompSrcT" => (k_here; k_dflt (refine' LCt.CompSrcT.ledger (by rfl) (by k_asm) (by k_asm) (by k_mem) ?zqhsz ?_; (case zqhsz => exact size24 (by assumption) (by assumption)); intro g2'; (refine' comp_src ?zqhM ?zqhi ?zqhS ?zqht ?zqhe ?_; (case zqhM => assumption); (case zqhi => assumption); (case zqhS => exact Or.inr ⟨_, by k_mem, rfl, _, rfl⟩); (case zqht => (intro k' t' I' oI' C' oC' D' m' ys' h' tk' E' hC' hx' F' N' off'; k_steps; exact tend (by k_asm) (by k_asm) rfl)); (case zqhe => (intro k' t' I' oI' C' oC' D' m' ys' h' tk' E' hC' hx' F' N' off'; k_steps; exact vend (by k_asm) (by k_asm) ⟨_, rfl⟩)); (intro ys' hys' hyl'))))
  refine wpAny_call ?_
  k_dflt cell_enter
  k_steps
  all_goals first
    | (refine mend (by k_asm) (by k_asm) rfl (fun z h1 h2 => by simp only [h1, h2, if_false]) (Int.fmod_nonneg_of_pos _ (by decide)) (Int.fmod_lt_of_pos _ (by decide)))
    | (exact deck_end hret hM (by assumption) (by assumption) (by assumption) (by assumption) (by k_asm) (by k_asm))
end
/-! part E1 -/
section
section
variable {prog : Program} {w : World} {A : Around} {h₀ : Heap} {L : Addr} {m : Str → Option Value} {env : Env} {elt : PySem.Expr} {x : Str} {scope : Scope} {cl : List (Str × Addr)} {s : Shared} {S : Led → Prop} {P : Nat → Value → Prop} {Fin : List Value → Led → Prop} {news : Led}
theorem rest_inv {n : Nat} (J : Nat → List Value → Led → Prop) (h0 : J 0 [] news)
    (turn : ∀ i v I oI C oC D m₂ ys nw h tk (E' : Value → Shared → Prop), i < n → P i v → J i ys nw → LCg.NsObj oC m₂ → m₂ x = some v → Fr h₀ L h m → News h₀ L h ((I, oI) :: (C, oC) :: (D, LCg.lst ys) :: nw) → LCg.Off3 I C D nw →
      wpAny (model prog w) A (eval elt (compEnvC scope cl C env)) (LCg.CompEnd h₀ L m { s with heap := h, toks := tk } I oI C oC D (LCg.lst ys) S (fun y news' => J (i + 1) (ys ++ [y]) news')) E' { s with heap := h, toks := tk })
    (fin : ∀ ys nw, J n ys nw → Fin ys nw) : LCg.CompRest prog w A h₀ L m env elt x scope cl s S P Fin n 0 [] news := by
  have key : ∀ (j i : Nat) (ys : List Value) (nw : Led), i + j = n → J i ys nw → LCg.CompRest prog w A h₀ L m env elt x scope cl s S P Fin j i ys nw := by
    intro j
    induction j with
    | zero => intro i ys nw hi hJ; exact LCg.CompRest.zero (fin ys nw (by rw [← hi]; simpa using hJ))
    | succ j ih =>
      intro i ys nw hi hJ
      refine LCg.CompRest.succ ?_
      intro v I oI C oC D m₂ h tk E' hv hC hx F N off ne
      refine wpAny_mono (turn i v I oI C oC D m₂ ys nw h tk E' (by omega) hv hJ hC hx F N off) (fun y s₂ hq => ?_) fun _ _ e => e
      obtain ⟨h', tk', nw', e, F', N', off', hS, hJ'⟩ := hq
      exact ⟨h', tk', nw', e, F', N', off', hS, ih (i + 1) _ _ (by omega) hJ'⟩
  exact key n 0 [] news (by omega) h0
/-- an element's end in a block that turns the deck -/
def LEl (s : Shared) (h₀ : Heap) (L : Addr) (m : Str → Option Value) (I : Addr) (oI : Obj) (C : Addr) (oC : Obj) (D : Addr) (ys : List Value) (Dk : Addr) (rest : Led) (v : Value) (s₂ : Shared) : Prop :=
  ∃ y t vs ds k h' tk', v = .str y t ∧ y ∈ menu ∧ s₂ = { s with heap := h', toks := tk' } ∧ Fr h₀ L h' m ∧ News h₀ L h' ((I, oI) :: (C, oC) :: (D, LCg.lst ys) :: deckAt Dk vs k :: rest) ∧ IntsAre vs ds ∧ DeckOk ds
theorem lel {h₀ h' : Heap} {m : Str → Option Value} {I C D : Addr} {oI oC : Obj} {ys : List Value} {Dk : Addr} {rest : Led} {y : Str} {t : Tok} {vs : List Value} {ds : List Int} {k tk' : Nat} (hy : y ∈ menu) (F : Fr h₀ L h' m) (N : News h₀ L h' ((I, oI) :: (C, oC) :: (D, LCg.lst ys) :: deckAt Dk vs k :: rest)) (hi : IntsAre vs ds) (ok : DeckOk ds) :
    LEl s h₀ L m I oI C oC D ys Dk rest (.str y t) { s with heap := h', toks := tk' } := ⟨y, t, vs, ds, k, h', tk', rfl, hy, rfl, F, N, hi, ok⟩
theorem off3_deck {I C D Dk : Addr} {vs vs' : List Value} {k k' : Nat} {rest : Led} (h : LCg.Off3 I C D (deckAt Dk vs k :: rest)) : LCg.Off3 I C D (deckAt Dk vs' k' :: rest) := ⟨h.1, h.2⟩
theorem comp_lines {n : Nat} {Dk : Addr} {vs : List Value} {ds : List Int} {k : Nat} {rest : Led} (hn : 0 < n ∧ n ≤ 1000) (hi : IntsAre vs ds) (ok : DeckOk ds) (hS : ∀ nw, S nw)
    (item : ∀ v I oI C oC D m₂ ys vs ds k h tk (E' : Value → Shared → Prop), LCg.NsObj oC m₂ → m₂ x = some v → Fr h₀ L h m → News h₀ L h ((I, oI) :: (C, oC) :: (D, LCg.lst ys) :: deckAt Dk vs k :: rest) → LCg.Off3 I C D (deckAt Dk vs k :: rest) → IntsAre vs ds → DeckOk ds →
      wpAny (model prog w) A (eval elt (compEnvC scope cl C env)) (LEl { s with heap := h, toks := tk } h₀ L m I oI C oC D ys Dk rest) E' { s with heap := h, toks := tk })
    (fin : ∀ ys (lines : List Str) vs ds k, StrsAre ys lines → lines.length = n → 0 < lines.length → lines.length ≤ 1000 → (∀ y ∈ lines, y ∈ menu) → IntsAre vs ds → DeckOk ds → Fin ys (deckAt Dk vs k :: rest)) :
    LCg.CompRest prog w A h₀ L m env elt x scope cl s S P Fin n 0 [] (deckAt Dk vs k :: rest) := by
  refine rest_inv (fun i ys nw => ∃ (lines : List Str) (vs : List Value) (ds : List Int) (k : Nat), nw = deckAt Dk vs k :: rest ∧ StrsAre ys lines ∧ lines.length = i ∧ (∀ y ∈ lines, y ∈ menu) ∧ IntsAre vs ds ∧ DeckOk ds)
    ⟨[], vs, ds, k, rfl, .nil, rfl, (fun _ h => nomatch h), hi, ok⟩ ?_ ?_
  · rintro i v I oI C oC D m₂ ys nw h tk E' _ _ ⟨lines, vs, ds, k, rfl, hw, hl, hm, hi, ok⟩ hC hx F N off
    refine wpAny_mono (item v I oI C oC D m₂ ys vs ds k h tk E' hC hx F N off hi ok) (fun y s₂ hq => ?_) fun _ _ e => e
    obtain ⟨y, t, vs', ds', k', h', tk', rfl, hy, rfl, F', N', hi', ok'⟩ := hq
    refine ⟨h', tk', _, rfl, F', N', off3_deck off, hS _, lines ++ [y], vs', ds', k', rfl, hw.append' (.cons _ _ .nil), by simp [hl], ?_, hi', ok'⟩
    intro z hz
    rcases List.mem_append.mp hz with h | h
    · exact hm z h
    · rw [List.mem_singleton.mp h]; exact hy
  · rintro ys nw ⟨lines, vs, ds, k, rfl, hw, hl, hm, hi, ok⟩
    exact fin ys lines vs ds k hw hl (by rw [hl]; exact hn.1) (by rw [hl]; exact hn.2) hm hi ok
theorem comp_range {n : Nat} (f : Nat → Int) (hS : ∀ nw, S nw)
    (item : ∀ (i : Nat) t I oI C oC D m₂ ys h tk (E' : Value → Shared → Prop), i < n → LCg.NsObj oC m₂ → m₂ x = some (.int (i : Int) t) → Fr h₀ L h m → News h₀ L h ((I, oI) :: (C, oC) :: (D, LCg.lst ys) :: news) → LCg.Off3 I C D news →
      wpAny (model prog w) A (eval elt (compEnvC scope cl C env)) (VEnd { s with heap := h, toks := tk } h₀ L m ((I, oI) :: (C, oC) :: (D, LCg.lst ys) :: news) (fun v => ∃ t, v = .int (f i) t)) E' { s with heap := h, toks := tk })
    (fin : ∀ ys, IntsAre ys ((List.range n).map f) → Fin ys news) :
    LCg.CompRest prog w A h₀ L m env elt x scope cl s S (fun i v => ∃ t, v = .int (0 + (i : Int)) t) Fin n 0 [] news := by
  refine rest_inv (fun i ys nw => nw = news ∧ IntsAre ys ((List.range i).map f)) ⟨rfl, .nil⟩ ?_ (fun ys nw ⟨e, h⟩ => by subst e; exact fin ys h)
  rintro i v I oI C oC D m₂ ys nw h tk E' hlt ⟨t, rfl⟩ ⟨rfl, hi⟩ hC hx F N off
  rw [Int.zero_add] at hx
  refine wpAny_mono (item i t I oI C oC D m₂ ys h tk E' hlt hC hx F N off) (fun y s₂ hq => ?_) fun _ _ e => e
  obtain ⟨⟨t', rfl⟩, h', tk', rfl, F', N'⟩ := hq
  refine ⟨h', tk', nw, rfl, F', N', off, hS _, rfl, ?_⟩
  rw [List.range_succ, List.map_append]
  exact hi.append (.cons _ _ .nil)
theorem comp_strs {vs : List Value} {lines : List Str} (g : Str → Int) (hw : StrsAre vs lines) (hS : S news)
    (item : ∀ (y : Str) t I oI C oC D m₂ ys h tk (E' : Value → Shared → Prop), y ∈ lines → LCg.NsObj oC m₂ → m₂ x = some (.str y t) → Fr h₀ L h m → News h₀ L h ((I, oI) :: (C, oC) :: (D, LCg.lst ys) :: news) → LCg.Off3 I C D news →
      wpAny (model prog w) A (eval elt (compEnvC scope cl C env)) (VEnd { s with heap := h, toks := tk } h₀ L m ((I, oI) :: (C, oC) :: (D, LCg.lst ys) :: news) (fun v => ∃ t, v = .int (g y) t)) E' { s with heap := h, toks := tk })
    (fin : ∀ ys, IntsAre ys (lines.map g) → Fin ys news) :
    LCg.CompRest prog w A h₀ L m env elt x scope cl s S (fun i v => vs.toArray[i]? = some v) Fin vs.toArray.size 0 [] news := by
  refine rest_inv (fun i ys nw => nw = news ∧ IntsAre ys ((lines.take i).map g)) ⟨rfl, .nil⟩ ?_ (fun ys nw ⟨e, h⟩ => by
    subst e
    refine fin ys ?_
    rw [List.take_of_length_le (by rw [List.size_toArray, hw.length]; exact Nat.le_refl _)] at h
    exact h)
  rintro i v I oI C oC D m₂ ys nw h tk E' hlt hv ⟨rfl, hi⟩ hC hx F N off
  obtain ⟨y, t, rfl, hy⟩ := hw.item i v (by simpa using hv)
  refine wpAny_mono (item y t I oI C oC D m₂ ys h tk E' (List.mem_of_getElem? hy) hC hx F N off) (fun y' s₂ hq => ?_) fun _ _ e => e
  obtain ⟨⟨t', rfl⟩, h', tk', rfl, F', N'⟩ := hq
  refine ⟨h', tk', nw, rfl, F', N', off, hS, rfl, ?_⟩
  rw [List.take_add_one, hy, List.map_append]
  exact hi.append (.cons _ _ .nil)
theorem comp_signs {xt : Str} (hS : ∀ nw, S nw)
    (item : ∀ (c : Nat) t I oI C oC D m₂ ys h tk (E' : Value → Shared → Prop), LCg.NsObj oC m₂ → m₂ x = some (.str ⟨#[c]⟩ t) → Fr h₀ L h m → News h₀ L h ((I, oI) :: (C, oC) :: (D, LCg.lst ys) :: news) → LCg.Off3 I C D news →
      wpAny (model prog w) A (eval elt (compEnvC scope cl C env)) (VEnd { s with heap := h, toks := tk } h₀ L m ((I, oI) :: (C, oC) :: (D, LCg.lst ys) :: news) (fun v => ∃ t, v = .int (c : Int) t)) E' { s with heap := h, toks := tk })
    (fin : ∀ ys, IntsAre ys (sCodes xt) → Fin ys news) :
    LCg.CompRest prog w A h₀ L m env elt x scope cl s S (SignAt xt) Fin xt.cps.size 0 [] news := by
  refine rest_inv (fun i ys nw => nw = news ∧ IntsAre ys ((sCodes xt).take i)) ⟨rfl, .nil⟩ ?_ (fun ys nw ⟨e, h⟩ => by
    subst e
    refine fin ys ?_
    rw [List.take_of_length_le (by simp [sCodes])] at h
    exact h)
  rintro i v I oI C oC D m₂ ys nw h tk E' hlt ⟨c, u, hc, rfl⟩ ⟨rfl, hi⟩ hC hx F N off
  refine wpAny_mono (item c u I oI C oC D m₂ ys h tk E' hC hx F N off) (fun y' s₂ hq => ?_) fun _ _ e => e
  obtain ⟨⟨t', rfl⟩, h', tk', rfl, F', N'⟩ := hq
  refine ⟨h', tk', nw, rfl, F', N', off, hS _, rfl, ?_⟩
  have hc' : (sCodes xt)[i]? = some (c : Int) := by simp [sCodes, hc]
  rw [List.take_add_one, hc']
  exact hi.append (.cons _ _ .nil)
end
def lenOne (y : Str) : Int := (y.length : Int) + 1
def startAt (lines : List Str) (r : Nat) : Nat := ((lines.take r).map fun y => y.length + 1).sum
def startsOf (lines : List Str) : List Nat := (List.range lines.length).map (startAt lines)
def textOf (lines : List Str) : Str := PySem.Txt.join (Str.ofString "\n") lines
theorem sum_lens (l : List Str) : (l.map lenOne).sum = (((l.map fun y => y.length + 1).sum : Nat) : Int) := by
  induction l with
  | nil => rfl
  | cons a r ih => rw [List.map_cons, List.sum_cons, ih, List.map_cons, List.sum_cons]; simp only [lenOne]; omega
theorem nums_starts (lines : List Str) {n : Nat} (hn : n = lines.length) : (List.range n).map (fun r => ((startAt lines r : Nat) : Int)) = nums (startsOf lines) := by
  subst hn
  simp [nums, startsOf]
section
variable {prog : Program} {w : World} {A : Around} {h₀ : Heap} {L : Addr} {m : Str → Option Value} {env : Env} {elt : PySem.Expr} {x : Str} {scope : Scope} {cl : List (Str × Addr)} {s : Shared} {S : Led → Prop} {P : Nat → Value → Prop} {Fin : List Value → Led → Prop} {news : Led}
theorem comp_starts {vsL : List Value} {lines : List Str} {n : Nat} (_W : StrsAre vsL lines) (hn : n = lines.length) (hS : ∀ nw, S nw)
    (item : ∀ (i : Nat) t I oI C oC D m₂ ys h tk (E' : Value → Shared → Prop), i < n → LCg.NsObj oC m₂ → m₂ x = some (.int (i : Int) t) → Fr h₀ L h m → News h₀ L h ((I, oI) :: (C, oC) :: (D, LCg.lst ys) :: news) → LCg.Off3 I C D news →
      wpAny (model prog w) A (eval elt (compEnvC scope cl C env)) (VEnd { s with heap := h, toks := tk } h₀ L m ((I, oI) :: (C, oC) :: (D, LCg.lst ys) :: news) (fun v => ∃ t, v = .int ((startAt lines i : Nat) : Int) t)) E' { s with heap := h, toks := tk })
    (fin : ∀ ys, IntsAre ys (nums (startsOf lines)) → Fin ys news) :
    LCg.CompRest prog w A h₀ L m env elt x scope cl s S (fun i v => ∃ t, v = .int (0 + (i : Int)) t) Fin n 0 [] news :=
  comp_range (fun r => ((startAt lines r : Nat) : Int)) hS item fun ys h => by rw [nums_starts lines hn] at h; exact fin ys h
end
section
variable {prog : Program} {w : World} {A : Around} {E : Value → Shared → Prop} {s : Shared} {h₀ : Heap} {L : Addr} {m : Str → Option Value} {env : Env}
def SrcS (prog : Program) (w : World) (A : Around) (h₀ : Heap) (L : Addr) (m : Str → Option Value) (env : Env) (elt : PySem.Expr) (x : Str) (scope : Scope) (cl : List (Str × Addr)) (Fin : Shared → List Value → Led → Prop) (xv : Value) (s₁ : Shared) : Prop :=
  ∃ xt t news, xv = .str xt t ∧ A.handled = none ∧ Fr h₀ L s₁.heap m ∧ News h₀ L s₁.heap news ∧ xt.cps.size ≤ sizeLine ∧
    ∀ s₂ : Shared, (∃ h, s₂ = { s₁ with heap := h }) → LCg.CompRest prog w A h₀ L m env elt x scope cl s₂ (fun _ => True) (SignAt xt) (Fin s₂) xt.cps.size 0 [] news
theorem SrcS.intro {elt : PySem.Expr} {x : Str} {scope : Scope} {cl : List (Str × Addr)} {Fin : Shared → List Value → Led → Prop} {xt : Str} {t : Tok} {news : Led} {s₁ : Shared} (hh : A.handled = none) (F : Fr h₀ L s₁.heap m) (N : News h₀ L s₁.heap news) (hz : xt.cps.size ≤ sizeLine)
    (h : ∀ g, LCg.CompRest prog w A h₀ L m env elt x scope cl { s₁ with heap := g } (fun _ => True) (SignAt xt) (Fin { s₁ with heap := g }) xt.cps.size 0 [] news) : SrcS prog w A h₀ L m env elt x scope cl Fin (.str xt t) s₁ :=
  ⟨xt, t, news, rfl, hh, F, N, hz, fun _ ⟨g, e⟩ => e ▸ h g⟩
theorem ListComp_S {elt iter : PySem.Expr} {x : Str} {px : Pos} {scope : Scope} {cl : List (Str × Addr)} {pos : Pos} {Q : Value → Shared → Prop} (F₀ : Fr h₀ L s.heap m)
    (hclos : closureFor scope env = pure cl) (hcell : ∀ y ∈ scope.names, y.2 ≠ .cell) (hkind : scope.kind = .function)
    (hnames : ∀ y ∈ scope.names, y.2 = .local → scope.names.lookup y.1 = some .local) (hx : scope.names.lookup x = some .local)
    (h : wpAny (model prog w) A (eval iter env) (SrcS prog w A h₀ L m env elt x scope cl (fun s₂ => LCg.FinE h₀ L m s₂ Q)) E s)
    (hs : ∀ x, foldedSetIterable iter env x = pure x := by intro _; rfl) :
    wpAny (model prog w) A (eval (.ListComp elt [⟨.Name x px, iter, [], 0⟩] scope pos) env) Q E s := by
  rw [eval_ListComp]
  refine wpAny_comprehension_free (use := none) rfl hs hclos hkind hnames (wpAny_mono h (fun xv s₁ h₁ => ?_) fun _ _ e => e)
  obtain ⟨xt, t, news, rfl, hh, F, N, hsz, R⟩ := h₁
  have go : ∀ (o : Obj) (cls : String), (∀ A' : Around, A'.handled = none → Walks prog w A' s₁.heap.objs.size [s₁.heap.objs.size] [s₁.heap.objs.size] xt.cps.size (SignAt xt) (fun i h => h.IsStrIter s₁.heap.objs.size cls xt t i)) → (s₁.heap.push o).IsStrIter s₁.heap.objs.size cls xt t 0 →
      wpAny (model prog w) A (newList []) (fun acc s₃ => wpAny (model prog w) A (newFunctionEnv scope env.globals cl [] env.qual none .none (some env)) (fun cenv s₄ =>
        codeAny (model prog w) A (.compStart (.ListComp elt [⟨.Name x px, iter, [], 0⟩] scope pos) 0 (.ref s₁.heap.objs.size) acc { cenv with scope := relabel scope env }) (compPost (model prog w) A E none Q acc cenv.locals) s₄) E s₃) E { s₁ with heap := s₁.heap.push o } := by
    intro o cls hW hst
    refine LCg.block_U (hW A hh) hsz (fun i h st => by obtain ⟨o, e, _⟩ := st; exact ⟨o, e⟩) (fun i h h' o nw st e e' _ _ _ => by obtain ⟨o', q, r⟩ := st; rw [e] at q; cases q; exact ⟨o, e', r⟩) hcell hkind hx hst (fun b hb => ?_)
      (F.keeps fun _ _ e => Heap.get?_push_of_some _ e) (N.grown fun _ _ e => Heap.get?_push_of_some _ e) (Nat.ne_of_lt F.ns.lt) (next_is_new F) (fun p hp => Nat.ne_of_lt (Heap.lt_size (N p hp).1)) trivial (R _ ⟨_, rfl⟩) ?_
    · rw [List.mem_singleton.mp hb]
      show s₁.heap.objs.size < (s₁.heap.push _).objs.size
      rw [Heap.size_push]; exact Nat.lt_succ_self _
    · intro D C h tk m' ys news' F' N' o1 hn hC₀ hD₀ hCL hDL hCD offC fin
      refine ⟨m', hn, fun h'' hs'' => fin D h'' tk (F'.change hs'' hCL hC₀) (fun p hp => ?_) o1⟩
      refine ⟨hs''.extBut _ _ ?_ (N' p hp).1, (N' p hp).2⟩
      rcases List.mem_cons.mp hp with rfl | hp
      · exact Ne.symm hCD
      · exact offC p hp
  cases ha : xt.cps.all (· < 128)
  · exact wpAny_pyIter_wide ha (go _ _ (fun A' hA => Walks.strWide hA _ xt t) ⟨_, Heap.get?_push_size _ rfl, rfl, rfl⟩)
  · exact wpAny_pyIter_ascii ha (go _ _ (fun A' hA => Walks.strAscii hA _ xt t) ⟨_, Heap.get?_push_size _ rfl, rfl, rfl⟩)
theorem my_sslice {value slice : PySem.Expr} {l : Addr} {vs : List Value} {lines : List Str} {n i : Nat} {k : Int} {u : Tok} {news : Led} {Q : Value → Shared → Prop} (F : Fr h₀ L s.heap m) (N : News h₀ L s.heap news) (hm : (l, PySem.W.listOf vs.toArray n) ∈ news) (hw : StrsAre vs lines) (hk : k = (i : Int)) (hle : lines.length ≤ 1000)
    (h : ∀ D h', Fr h₀ L h' m → News h₀ L h' ((D, PySem.W.listOf (vs.take i).toArray 0) :: news) → (∀ p ∈ news, p.1 < D) → StrsAre (vs.take i) (lines.take i) → Q (.ref D) { s with heap := h' })
    (hs : subscripted slice false (.ref l) (.ref s.heap.objs.size) = operate [.ref s.heap.objs.size, .ref l] (getItem (.ref l) (.ref s.heap.objs.size))) (ht : ∀ r, letTemporaryGo value (.ref l) r = pure ()) :
    wpAny (model prog w) A (subscriptTail value slice (.ref l) (.ref s.heap.objs.size)) Q E { s with heap := s.heap.push { cls := .type "slice", data := .fields #[.none, .int k u, .none] } } := by
  subst hk
  have hl := hw.length
  refine kms_slice_lit F N (my_list N hm) .none (.int _ u) (zs := vs.take i) ?_ (fun D h' F' N' l1 => h D h' F' N' l1 (hw.take' i)) hs ht (by rw [List.size_toArray, PySem.sizeLine_eq]; omega)
  have e : kms_hi (some (i : Int)) vs.toArray.toList.length = min i vs.length := by
    simp only [kms_hi, Int.toNat_natCast]
    exact if_neg (by omega)
  unfold kms_pick
  rw [e]
  simp only [kms_lo, List.drop_zero, Nat.sub_zero]
  exact kmk_take_min vs i
theorem my_join {x : Str} {l : Addr} {vs : List Value} {lines : List Str} {n : Nat} {t : Tok} {news : Led} {Q : Value → Shared → Prop} (N : News h₀ L s.heap news) (hm : (l, PySem.W.listOf vs.toArray n) ∈ news) (hw : StrsAre vs lines) (hB : ∀ y ∈ lines, y ∈ menu) (hn : lines.length ≤ 1000) (hx : x.length = 1)
    (h : ∀ t' k, Q (.str (PySem.Txt.join x lines) t') { s with toks := k }) : wpAny (model prog w) A (call (.builtin "str.join") [.str x t, .ref l]) Q E s := by
  have e := hw.carried
  refine KT.join_B (g := fun y => y) (l := lines) 3 (my_list N hm) e ?_ (by omega) (by omega) (by simpa using h)
  intro y hy
  have := hB y hy
  simp only [menu, List.mem_cons, List.not_mem_nil, or_false] at this
  rcases this with rfl | rfl | rfl | rfl | rfl | rfl | rfl | rfl <;> decide +kernel
end
/-- the end of a turn of law's own loop -/
def TurnEnd (s : Shared) (h₀ : Heap) (L : Addr) (D c2 c1 : Addr) (o1 : Obj) (own : Led) (f : Flow) (s₂ : Shared) : Prop :=
  f = .next ∧ ∃ h' tk' m' vs ds n o2 v, s₂ = { s with heap := h', toks := tk' } ∧ Fr h₀ L h' m' ∧ News h₀ L h' (deckAt D vs n :: (c2, o2) :: (c1, o1) :: own) ∧ IntsAre vs ds ∧ DeckOk ds ∧ o2.data = .cell v
theorem turnEnd {s : Shared} {h₀ h' : Heap} {L D c2 c1 : Addr} {o1 o2 : Obj} {own nx : Led} {m' : Str → Option Value} {vs : List Value} {ds : List Int} {n tk' : Nat} {v : Option Value} (F : Fr h₀ L h' m') (N : News h₀ L h' nx) (hs : ∀ p ∈ deckAt D vs n :: (c2, o2) :: (c1, o1) :: own, p ∈ nx) (hi : IntsAre vs ds) (ok : DeckOk ds) (h2 : o2.data = .cell v) :
    TurnEnd s h₀ L D c2 c1 o1 own .next { s with heap := h', toks := tk' } := ⟨rfl, h', tk', m', vs, ds, n, o2, v, rfl, F, fun p hp => N p (hs p hp), hi, ok, h2⟩
section
variable {prog : Program} {w : World} {A : Around} {E : Value → Shared → Prop} {s : Shared} {env : Env} {h₀ : Heap} {body : List Stmt} {Q : Flow → Shared → Prop}
theorem for_law {r D c2 c1 : Addr} {b₀ : Int} {t₀ u₀ v₀ : Tok} {m₀ : Str → Option Value} {vs : List Value} {ds : List Int} {n : Nat} {o2 o1 : Obj} {v2 : Option Value} (x : Str)
    (hh : A.handled = none) (hr : IsRange s.heap r 0 b₀ 1 t₀ u₀ v₀) (hsmall : Builtin.Range.small 0 b₀ 1 = true) (F : Fr h₀ env.locals s.heap m₀) (N : News h₀ env.locals s.heap [deckAt D vs n, (c2, o2), (c1, o1)]) (hi : IntsAre vs ds) (ok : DeckOk ds) (h1 : o1.data = .cell (some (.ref D))) (h2 : o2.data = .cell v2)
    (d1 : @Ne Nat c1 D) (d2 : @Ne Nat c2 D) (d3 : @Ne Nat c1 c2)
    (turn : ∀ (k : Int) t (m : Str → Option Value) h tk own vs ds n o2 v2, IntsAre vs ds → DeckOk ds → o2.data = .cell v2 → @Ne Nat c1 D → @Ne Nat c2 D → @Ne Nat c1 c2 → OwnOff own [D, c2, c1] → Fr h₀ env.locals h (fun y => if y = x then some (.int k t) else m y) → News h₀ env.locals h (deckAt D vs n :: (c2, o2) :: (c1, o1) :: own) →
      wpAny (model prog w) A (execs body env) (TurnEnd s h₀ env.locals D c2 c1 o1 own) E { s with heap := h, toks := tk })
    (done : ∀ (m : Str → Option Value) h tk vs n o2, Fr h₀ env.locals h m → News h₀ env.locals h [deckAt D vs n, (c2, o2), (c1, o1)] → Q .next { s with heap := h, toks := tk }) :
    wpAny (model prog w) A (pyIter (.ref r)) (fun it s₂ => LoopAtV prog w A h₀ env x body Q E it s₂) E s := by
  refine kpr_invN (a₀ := 0) (b₀ := b₀) (n := b₀.toNat) (fun _ m nx => ∃ vs ds n o2 v2, nx = [deckAt D vs n, (c2, o2), (c1, o1)] ∧ IntsAre vs ds ∧ DeckOk ds ∧ o2.data = .cell v2) hh hr hsmall (by rw [rangeSize_nat, Int.sub_zero]) F N ⟨vs, ds, n, o2, v2, rfl, hi, ok, h2⟩ ?_ ?_
  · rintro i k t m nx h tk own _ hoff ⟨vs, ds, n, o2, v2, rfl, hi, ok, h2⟩ F₁ N₁
    refine wpAny_mono (turn k t m h tk own vs ds n o2 v2 hi ok h2 d1 d2 d3 hoff F₁ N₁) (fun f s₂ hq => ?_) fun _ _ e => e
    obtain ⟨rfl, h', tk', m', vs', ds', n', o2', v', rfl, F₂, N₂, hi', ok', h2'⟩ := hq
    exact ⟨h', tk', m', _, [deckAt D vs' n', (c2, o2'), (c1, o1)], rfl, F₂, N₂, fun p hp => by
        rcases List.mem_cons.mp hp with rfl | hp
        · exact .head _
        · rcases List.mem_cons.mp hp with rfl | hp
          · exact .tail _ (.head _)
          · rw [List.mem_singleton.mp hp]; exact .tail _ (.tail _ (.head _)), fun p hp => .tail _ (.tail _ (.tail _ hp)), rfl, vs', ds', n', o2', v', rfl, hi', ok', h2'⟩
  · rintro m nx h tk ⟨vs, ds, n, o2, v2, rfl, _, _, _⟩ F₁ N₁
    exact done m h tk vs n o2 F₁ N₁
end
end
/-! part E2 -/
section
theorem mkLines {news : Led} {l : Addr} {vs : List Value} {n : Nat} {lines : List Str} (h : (l, PySem.W.listOf vs.toArray n) ∈ news) (hw : StrsAre vs lines) (hm : ∀ y ∈ lines, y ∈ menu) (hl : lines.length ≤ 1000) : LinesAt news l lines :=
  ⟨⟨vs, n, h, hw⟩, by omega, hm⟩
theorem starts_len (lines : List Str) : (startsOf lines).length = lines.length := by simp [startsOf]
theorem starts_head {lines : List Str} (h : 0 < lines.length) : (startsOf lines).head? = some 0 := by
  cases lines with
  | nil => exact absurd h (Nat.lt_irrefl _)
  | cons a r => simp [startsOf, startAt, List.range_succ_eq_map]
theorem mkNums {news : Led} {l : Addr} {vs : List Value} {n : Nat} {lines : List Str} (h : (l, PySem.W.listOf vs.toArray n) ∈ news) (hi : IntsAre vs (nums (startsOf lines))) (hl : lines.length ≤ 1000) : NumsAt news l (startsOf lines) :=
  ⟨⟨vs, n, h, hi⟩, by rw [starts_len]; omega⟩
theorem mkView {w : World} {news : Led} {v d c : Addr} {b : Int} {xs : List Int} {t1 t2 t3 : Tok} {n : Nat} {vs : List Value} (h1 : (v, instObj 152 d) ∈ news)
    (h2 : (d, dictOf [⟨PyData.keyHash w.params (Str.ofString "codes"), .str (Str.ofString "codes") t1, .ref c⟩, ⟨PyData.keyHash w.params (Str.ofString "place"), .str (Str.ofString "place") t2, .int b t3⟩] 2) ∈ news)
    (h3 : (c, PySem.W.listOf vs.toArray n) ∈ news) (hi : IntsAre vs xs) (hf : xs.length < 2 ^ 20) (hp : 1 ≤ b) : ViewAt w news v b xs :=
  ⟨⟨d, c, t1, t2, t3, n, vs, h1, h2, h3, hi⟩, hf, hp⟩
abbrev joinL (lines : List Str) : Str := PySem.Txt.join (Str.ofString "\n") lines
abbrev fwdL (lines : List Str) (i : Nat) : Nat := lfwd lines (startsOf lines) (PySem.Txt.join (Str.ofString "\n") lines).length i
abbrev bwdL (lines : List Str) (i : Nat) : Nat := lbwd lines (startsOf lines) i
section
variable {prog : Program} {w : World} {A : Around} {E : Value → Shared → Prop} {s : Shared} {env : Env} {h₀ : Heap} {body : List Stmt} {Q : Flow → Shared → Prop} {news : Led}
theorem for_rows {vsL : List Value} {lines : List Str} (_W : StrsAre vsL lines) {r : Addr} {b₀ : Int} {t₀ u₀ v₀ : Tok} {m₀ : Str → Option Value} (x y : Str) (hxy : y ≠ x) (g : List Str → Nat → Nat) {i₀ : Nat} {ty : Tok}
    (hh : A.handled = none) (hr : IsRange s.heap r 0 b₀ 1 t₀ u₀ v₀) (hsmall : Builtin.Range.small 0 b₀ 1 = true) (F : Fr h₀ env.locals s.heap m₀) (N : News h₀ env.locals s.heap news) (hy : m₀ y = some (.int (i₀ : Int) ty))
    (turn : ∀ (k : Int) t (j : Nat) t' h tk own, Fr h₀ env.locals h (fun z => if z = x then some (.int k t) else if z = y then some (.int (j : Int) t') else m₀ z) → News h₀ env.locals h (news ++ own) →
      wpAny (model prog w) A (execs body env) (FEnd s h₀ env.locals m₀ x y (g lines j : Nat) news own) E { s with heap := h, toks := tk })
    (done : ∀ (u : Option Value) t h tk, Fr h₀ env.locals h (fun z => if z = x then u else if z = y then some (.int (iterN (g lines) b₀.toNat i₀ : Nat) t) else m₀ z) → News h₀ env.locals h news → Q .next { s with heap := h, toks := tk }) :
    wpAny (model prog w) A (pyIter (.ref r)) (fun it s₂ => LoopAtV prog w A h₀ env x body Q E it s₂) E s :=
  for_iter x y hxy (fun j => (j : Int)) (g lines) hh hr hsmall F N hy turn done
end
theorem toNat_one (k : Nat) : ((1 : Int) + (k : Int)).toNat = 1 + k := by omega
theorem pos_one (k : Nat) : (1 : Int) + (k : Int) = ((1 + k : Nat) : Int) := by omega
theorem neg_one' (k : Nat) : (0 : Int) - (1 + (k : Int)) = -((1 + k : Nat) : Int) := by omega
theorem lit_7 : (7 : Int) = 1 + ((6 : Nat) : Int) := rfl
theorem lit_1 : (1 : Int) = 1 + ((0 : Nat) : Int) := rfl
theorem lit_m1 : (-1 : Int) = -((1 : Nat) : Int) := rfl
theorem lit_p1 : (1 : Int) = ((1 : Nat) : Int) := rfl
end
/-! part PL -/
section
/-! the plain law: places against rows -/
structure Rows (xs : List Int) (n : Nat) (S : Nat → Nat) (line : Nat → List Int) : Prop where
  pos : 0 < n
  s0 : S 0 = 0
  step : ∀ r, r + 1 < n → S (r + 1) = S r + (line r).length + 1
  last : S (n - 1) + (line (n - 1)).length = xs.length
  nl : ∀ r, r + 1 < n → co xs (S r + (line r).length) = 10
  at' : ∀ r, r < n → ∀ c, c < (line r).length → co xs (S r + c) = (line r).getD c 0
  no : ∀ r, r < n → ∀ c, c < (line r).length → (line r).getD c 0 ≠ 10
section
variable {xs : List Int} {n : Nat} {S : Nat → Nat} {line : Nat → List Int}
namespace Rows
variable (R : Rows xs n S line)
include R
theorem step' {r : Nat} (h : r + 1 < n) : S (r + 1) = S r + (line r).length + 1 := R.step r h
theorem ends {r : Nat} (h : r < n) : S r + (line r).length ≤ xs.length := by
  have key : ∀ k r, r + k + 1 = n → S r + (line r).length ≤ xs.length := by
    intro k
    induction k with
    | zero => intro r hr; have := R.last; have e : n - 1 = r := by omega
              rw [e] at this; omega
    | succ k ih => intro r hr; have := ih (r + 1) (by omega); have := R.step r (by omega); omega
  exact key (n - 1 - r) r (by omega)
theorem mono {r k : Nat} (h : r + k < n) : S r + k ≤ S (r + k) := by
  induction k with
  | zero => exact Nat.le_refl _
  | succ k ih => have := ih (by omega); have := R.step (r + k) (by omega); (show S r + (k + 1) ≤ S (r + k + 1)); rw [this]; omega
theorem lt {r k : Nat} (h : r < k) (hk : k < n) : S r + (line r).length < S k := by
  have h1 := R.step r (by omega)
  have h2 := R.mono (r := r + 1) (k := k - (r + 1)) (by omega)
  have e : r + 1 + (k - (r + 1)) = k := by omega
  rw [e] at h2
  omega
theorem row {i : Nat} (hi : i ≤ xs.length) : ∃ r, r < n ∧ S r ≤ i ∧ i ≤ S r + (line r).length := by
  have key : ∀ k, k < n → S k ≤ i → ∃ r, r < n ∧ S r ≤ i ∧ i ≤ S r + (line r).length := by
    intro k
    generalize hm : n - k = m
    induction m generalizing k with
    | zero => intro hk; omega
    | succ m ih =>
      intro hk hs
      by_cases h : i ≤ S k + (line k).length
      · exact ⟨k, hk, hs, h⟩
      · by_cases h2 : k + 1 < n
        · exact ih (k + 1) (by omega) h2 (by have := R.step k h2; omega)
        · have := R.last
          have e : n - 1 = k := by omega
          rw [e] at this; omega
  exact key 0 R.pos (by rw [R.s0]; exact Nat.zero_le _)
theorem inner {r p : Nat} (hr : r < n) (h1 : S r ≤ p) (h2 : p < S r + (line r).length) : co xs p ≠ 10 := by
  have := R.at' r hr (p - S r) (by omega)
  have e : S r + (p - S r) = p := by omega
  rw [e] at this
  rw [this]
  exact R.no r hr _ (by omega)
theorem outer {r : Nat} (hr : r < n) : S r + (line r).length = xs.length ∨ co xs (S r + (line r).length) = 10 := by
  by_cases h : r + 1 < n
  · exact .inr (R.nl r h)
  · left
    have := R.last
    have e : n - 1 = r := by omega
    rw [e] at this; exact this
theorem before {r : Nat} (hr : r < n) (h0 : 0 < S r) : co xs (S r - 1) = 10 ∧ 0 < r ∧ S r - 1 = S (r - 1) + (line (r - 1)).length := by
  cases r with
  | zero => rw [R.s0] at h0; omega
  | succ r =>
    have h := R.step r hr
    have e : S (r + 1) - 1 = S r + (line r).length := by omega
    exact ⟨by rw [e]; exact R.nl r hr, Nat.succ_pos _, e⟩
theorem spos {r : Nat} (hr : r < n) (h : 0 < r) : 0 < S r := by
  have := R.mono (r := 0) (k := r) (by omega)
  rw [R.s0] at this
  simp only [Nat.zero_add] at this
  omega
theorem lstart_eq {r p : Nat} (hr : r < n) (h1 : S r ≤ p) (h2 : p ≤ S r + (line r).length) : lstart xs p = S r := by
  generalize hk : p - S r = k
  induction k generalizing p with
  | zero =>
    have e : p = S r := by omega
    subst e
    refine loop_false ?_
    show cS xs _ = false
    simp only [cS, Bool.and_eq_false_iff, decide_eq_false_iff_not, Bool.not_eq_false', decide_eq_true_eq]
    by_cases h0 : 0 < S r
    · exact .inr (R.before hr h0).1
    · exact .inl h0
  | succ k ih =>
    have hc : cS xs p = true := by
      simp only [cS, Bool.and_eq_true, decide_eq_true_eq, Bool.not_eq_true', decide_eq_false_iff_not]
      exact ⟨by omega, R.inner hr (by omega) (by omega)⟩
    show loop (cS xs) (gP xs) (mI xs) p = S r
    rw [loop_true (P := fun _ => True) (cS_falls.at xs) trivial hc]
    exact ih (p := p - 1) (by omega) (by omega) (by omega)
theorem lend_eq {r p : Nat} (hr : r < n) (h1 : S r ≤ p) (h2 : p ≤ S r + (line r).length) : lend xs p = S r + (line r).length := by
  generalize hk : S r + (line r).length - p = k
  induction k generalizing p with
  | zero =>
    have e : p = S r + (line r).length := by omega
    subst e
    refine loop_false ?_
    show cE xs _ = false
    simp only [cE, Bool.and_eq_false_iff, decide_eq_false_iff_not, Bool.not_eq_false', decide_eq_true_eq]
    rcases R.outer hr with h | h
    · exact .inl (by omega)
    · exact .inr h
  | succ k ih =>
    have he := R.ends hr
    have hc : cE xs p = true := by
      simp only [cE, Bool.and_eq_true, decide_eq_true_eq, Bool.not_eq_true', decide_eq_false_iff_not]
      exact ⟨by omega, R.inner hr (by omega) (by omega)⟩
    show loop (cE xs) (gS xs) (mN xs) p = _
    rw [loop_true (P := fun _ => True) (cE_falls.at xs) trivial hc]
    exact ih (p := p + 1) (by omega) (by omega) (by omega)
end Rows
/-- a row's place; behind the last row: the text's end -/
def posR (xs : List Int) (n : Nat) (S : Nat → Nat) (r : Nat) : Nat := if r < n then S r else xs.length
namespace Rows
variable (R : Rows xs n S line)
include R
theorem behind {r p : Nat} (hr : r < n) (h1 : S r ≤ p) (h2 : p ≤ S r + (line r).length) : lbehind xs p = posR xs n S (r + 1) := by
  rw [lbehind, R.lend_eq hr h1 h2, posR]
  by_cases h : r + 1 < n
  · have h3 := R.lt (Nat.lt_succ_self r) h
    have h4 := R.ends h
    have h5 := R.step r h
    rw [if_pos h, if_pos (by omega), h5]
  · have := R.last
    have e : n - 1 = r := by omega
    rw [e] at this
    rw [if_neg h, if_neg (by omega)]
theorem behind_pos (k : Nat) : lbehind xs (posR xs n S k) = posR xs n S (k + 1) := by
  by_cases h : k < n
  · have e : posR xs n S k = S k := if_pos h
    rw [e]
    exact R.behind h (Nat.le_refl _) (by omega)
  · have e : posR xs n S k = xs.length := if_neg h
    have e2 : posR xs n S (k + 1) = xs.length := if_neg (by omega)
    rw [e, e2, lbehind]
    have hl : lend xs xs.length = xs.length := by
      refine loop_false ?_
      show cE xs _ = false
      simp [cE]
    rw [hl, if_neg (by omega)]
theorem parts_from {r c : Nat} (hr : r < n) (hc : c ≤ (line r).length) : parts xs (S r + c) = ((line r).drop c).all blank := by
  generalize hk : (line r).length - c = k
  have he := R.ends hr
  induction k generalizing c with
  | zero =>
    have e : c = (line r).length := by omega
    subst e
    have hb : cB xs (S r + (line r).length) = false := by
      simp only [cB, Bool.and_eq_false_iff, decide_eq_false_iff_not]
      rcases R.outer hr with h | h
      · exact .inl (by omega)
      · right; rw [h]; rfl
    have e2 : loop (cB xs) (gS xs) (mN xs) (S r + (line r).length) = S r + (line r).length := loop_false hb
    rw [parts, run, e2, List.drop_length, List.all_nil]
    simp only [isEnd, Bool.or_eq_true, decide_eq_true_eq]
    exact R.outer hr
  | succ k ih =>
    have ha := R.at' r hr c (by omega)
    have hd : (line r).drop c = (line r).getD c 0 :: (line r).drop (c + 1) := by
      rw [List.getD_eq_getElem?_getD, List.getElem?_eq_getElem (by omega)]
      exact List.drop_eq_getElem_cons (by omega)
    rw [hd, List.all_cons, ← ha]
    cases hb : blank (co xs (S r + c)) with
    | true =>
      rw [Bool.true_and]
      have hc' : cB xs (S r + c) = true := by
        simp only [cB, Bool.and_eq_true, decide_eq_true_eq]
        exact ⟨by omega, hb⟩
      have e2 : loop (cB xs) (gS xs) (mN xs) (S r + c) = loop (cB xs) (gS xs) (mN xs) (S r + c + 1) := loop_true (P := fun _ => True) (cB_falls.at xs) trivial hc'
      have h2 := ih (c := c + 1) (by omega) (by omega)
      rw [parts, run] at h2 ⊢
      rw [e2]
      exact h2
    | false =>
      rw [Bool.false_and]
      have hc' : cB xs (S r + c) = false := by simp only [cB, hb, Bool.and_false]
      have e2 : loop (cB xs) (gS xs) (mN xs) (S r + c) = S r + c := loop_false hc'
      rw [parts, run, e2]
      simp only [isEnd, Bool.or_eq_false_iff, decide_eq_false_iff_not]
      exact ⟨by omega, R.inner hr (by omega) (by omega)⟩
theorem parts_eq {r : Nat} (hr : r < n) : parts xs (S r) = (line r).all blank := R.parts_from (c := 0) hr (Nat.zero_le _)
theorem begins_eq {r : Nat} (hr : r < n) : begins xs (S r) = ((line r).all blank || decide ((line r).head? = some 12)) := by
  rw [begins, R.parts_eq hr, Bool.or_comm]
  congr 1
  by_cases h : 0 < (line r).length
  · have h1 := R.at' r hr 0 h
    rw [Nat.add_zero] at h1
    rw [h1]
    cases hl : line r with
    | nil => rw [hl] at h; exact absurd h (Nat.lt_irrefl _)
    | cons a l => simp
  · have e : line r = [] := List.eq_nil_of_length_eq_zero (by omega)
    have h2 := R.outer hr
    rw [e] at h2 ⊢
    simp only [List.length_nil, Nat.add_zero] at h2
    have : co xs (S r) ≠ 12 := by
      rcases h2 with h | h
      · rw [h, co, List.getD_eq_getElem?_getD, List.getElem?_eq_none (Nat.le_refl _)]; decide
      · rw [h]; decide
    simp [this]
end Rows
end
section
variable {ys : List Str} {xs : List Int}
abbrev lineOf (ys : List Str) (r : Nat) : List Int := sCodes (ys.getD r Str.empty)
abbrev RowsOf (xs : List Int) (ys : List Str) : Prop := Rows xs ys.length (startAt ys) (lineOf ys)
abbrev posY (xs : List Int) (ys : List Str) (r : Nat) : Nat := posR xs ys.length (startAt ys) r
theorem posY_in {r : Nat} (h : r < ys.length) : posY xs ys r = startAt ys r := if_pos h
theorem posY_out {r : Nat} (h : ys.length ≤ r) : posY xs ys r = xs.length := if_neg (by omega)
theorem parts_row (R : RowsOf xs ys) {r : Nat} (hr : r < ys.length) : parts xs (startAt ys r) = partS (ys.getD r Str.empty) := R.parts_eq hr
theorem begins_row (R : RowsOf xs ys) {r : Nat} (hr : r < ys.length) : begins xs (startAt ys r) = beginS (ys.getD r Str.empty) := R.begins_eq hr
theorem empty_begins {y : Str} (h : (sCodes y).length = 0) : partS y = true ∧ beginS y = true := by
  have e : sCodes y = [] := List.eq_nil_of_length_eq_zero h
  have e2 : partS y = true := by rw [partS, e]; rfl
  exact ⟨e2, by rw [beginS, e2]; rfl⟩
theorem last_empty (R : RowsOf xs ys) {r : Nat} (hr : r < ys.length) (h : xs.length ≤ startAt ys r) : r + 1 = ys.length ∧ startAt ys r = xs.length ∧ (lineOf ys r).length = 0 := by
  have h1 := R.ends hr
  refine ⟨?_, by omega, by omega⟩
  by_cases h2 : r + 1 < ys.length
  · have := R.lt (r := r) (k := r + 1) (by omega) h2
    have := R.ends h2
    omega
  · omega
theorem run_skip (R : RowsOf xs ys) (r : Nat) : loop (cP xs) (lbehind xs) (mN xs) (posY xs ys r) = posY xs ys (lskip ys r) := by
  generalize hk : ys.length - r = k
  induction k generalizing r with
  | zero =>
    have e : posY xs ys r = xs.length := posY_out (by omega)
    have h1 : cP xs (posY xs ys r) = false := by rw [e]; simp [cP]
    have h2 : cQ ys r = false := by simp only [cQ, Bool.and_eq_false_iff, decide_eq_false_iff_not]; exact .inl (by omega)
    rw [loop_false h1]
    have e2 : lskip ys r = r := loop_false h2
    rw [e2]
  | succ k ih =>
    have hr : r < ys.length := by omega
    have e : posY xs ys r = startAt ys r := posY_in hr
    cases hp : partS (ys.getD r Str.empty) with
    | false =>
      have h1 : cP xs (posY xs ys r) = false := by rw [e]; simp only [cP, parts_row R hr, hp, Bool.and_false]
      have h2 : cQ ys r = false := by simp only [cQ, hp, Bool.and_false]
      rw [loop_false h1]
      have e2 : lskip ys r = r := loop_false h2
      rw [e2]
    | true =>
      have h2 : cQ ys r = true := by simp only [cQ, hp, Bool.and_true, decide_eq_true_eq]; exact hr
      have e2 : lskip ys r = lskip ys (r + 1) := loop_true (P := pT ys) (cQ_falls ys) trivial h2
      rw [e2]
      by_cases hl : startAt ys r < xs.length
      · have h1 : cP xs (posY xs ys r) = true := by rw [e]; simp only [cP, parts_row R hr, hp, Bool.and_true, decide_eq_true_eq]; exact hl
        rw [loop_true (P := fun _ => True) (cP_falls.at xs) trivial h1, R.behind_pos]
        exact ih (r + 1) (by omega)
      · obtain ⟨h3, h4, _⟩ := last_empty R hr (by omega)
        have h1 : cP xs (posY xs ys r) = false := by rw [e, h4]; simp [cP]
        rw [loop_false h1, ← ih (r + 1) (by omega)]
        have e3 : posY xs ys (r + 1) = xs.length := posY_out (by omega)
        have h5 : cP xs (posY xs ys (r + 1)) = false := by rw [e3]; simp [cP]
        rw [loop_false h5, e3, e, h4]
theorem run_stop (R : RowsOf xs ys) (r : Nat) : loop (cF xs) (lbehind xs) (mN xs) (posY xs ys r) = posY xs ys (lstop ys r) := by
  generalize hk : ys.length - r = k
  induction k generalizing r with
  | zero =>
    have e : posY xs ys r = xs.length := posY_out (by omega)
    have h1 : cF xs (posY xs ys r) = false := by rw [e]; simp [cF]
    have h2 : cR ys r = false := by simp only [cR, Bool.and_eq_false_iff, decide_eq_false_iff_not]; exact .inl (by omega)
    rw [loop_false h1]
    have e2 : lstop ys r = r := loop_false h2
    rw [e2]
  | succ k ih =>
    have hr : r < ys.length := by omega
    have e : posY xs ys r = startAt ys r := posY_in hr
    cases hp : beginS (ys.getD r Str.empty) with
    | true =>
      have h1 : cF xs (posY xs ys r) = false := by rw [e]; simp only [cF, begins_row R hr, hp, Bool.not_true, Bool.and_false]
      have h2 : cR ys r = false := by simp only [cR, hp, Bool.not_true, Bool.and_false]
      rw [loop_false h1]
      have e2 : lstop ys r = r := loop_false h2
      rw [e2]
    | false =>
      have h2 : cR ys r = true := by simp only [cR, hp, Bool.not_false, Bool.and_true, decide_eq_true_eq]; exact hr
      have e2 : lstop ys r = lstop ys (r + 1) := loop_true (P := pT ys) (cR_falls ys) trivial h2
      rw [e2]
      by_cases hl : startAt ys r < xs.length
      · have h1 : cF xs (posY xs ys r) = true := by rw [e]; simp only [cF, begins_row R hr, hp, Bool.not_false, Bool.and_true, decide_eq_true_eq]; exact hl
        rw [loop_true (P := fun _ => True) (cF_falls.at xs) trivial h1, R.behind_pos]
        exact ih (r + 1) (by omega)
      · obtain ⟨_, _, h5⟩ := last_empty R hr (by omega)
        rw [(empty_begins h5).2] at hp
        cases hp
theorem past_row (R : RowsOf xs ys) {r p : Nat} (hr : r < ys.length) (h1 : startAt ys r ≤ p) (h2 : p ≤ startAt ys r + (lineOf ys r).length) : past xs p = posY xs ys (lskip ys r) := by
  have h := run_skip R r
  rw [posY_in hr] at h
  rw [past, R.lstart_eq hr h1 h2]
  exact h
theorem filt_le (r : Nat) : ∀ n, ((List.range n).filter fun k => decide (k ≤ r)).length = min n (r + 1)
  | 0 => by simp
  | n + 1 => by
    rw [List.range_succ, List.filter_append, List.length_append, filt_le r n]
    by_cases h : n ≤ r
    · simp [h]; omega
    · simp [h]; omega
theorem rowOf_eq (R : RowsOf xs ys) {r i : Nat} (hr : r < ys.length) (h1 : startAt ys r ≤ i) (h2 : i ≤ startAt ys r + (lineOf ys r).length) : rowOf (startsOf ys) i = r := by
  have e : ((startsOf ys).filter fun s => decide (s ≤ i)).length = ((List.range ys.length).filter fun k => decide (k ≤ r)).length := by
    rw [startsOf, List.filter_map, List.length_map]
    congr 1
    refine List.filter_congr fun k hk => ?_
    have hk' := List.mem_range.mp hk
    simp only [Function.comp]
    rw [decide_eq_decide]
    constructor
    · intro h
      by_cases hc : k ≤ r
      · exact hc
      · have := R.lt (show r < k by omega) hk'
        omega
    · intro h
      have := R.mono (r := k) (k := r - k) (by omega)
      have e : k + (r - k) = r := by omega
      rw [e] at this
      omega
  rw [rowOf, e, filt_le]
  omega
theorem starts_get {r : Nat} (hr : r < ys.length) : (startsOf ys).getD r 0 = startAt ys r := by
  rw [List.getD_eq_getElem?_getD, startsOf, List.getElem?_map, List.getElem?_range hr]
  rfl
theorem fwd_eq (R : RowsOf xs ys) {i : Nat} (hi : i ≤ xs.length) : oneFwd xs i = lfwd ys (startsOf ys) xs.length i := by
  obtain ⟨r, hr, h1, h2⟩ := R.row hi
  rw [oneFwd, past_row R hr h1 h2, R.behind_pos]
  show loop (cF xs) (lbehind xs) (mN xs) (posY xs ys (lskip ys r + 1)) = _
  rw [run_stop R, lfwd, lrow, rowOf_eq R hr h1 h2]
  by_cases h : lstop ys (lskip ys r + 1) < ys.length
  · rw [if_pos h, posY_in h, starts_get h]
  · rw [if_neg h, posY_out (by omega)]
theorem back_start (R : RowsOf xs ys) {k : Nat} (hk : k < ys.length) (h0 : 0 < k) : lstart xs (startAt ys k - 1) = startAt ys (k - 1) := by
  obtain ⟨_, _, e⟩ := R.before hk (R.spos hk h0)
  rw [e]
  exact R.lstart_eq (by omega) (by omega) (Nat.le_refl _)
theorem run_back (R : RowsOf xs ys) {r : Nat} (hr : r < ys.length) : loop (cK xs) (gL xs) (mI xs) (startAt ys r) = startAt ys (lbT ys r) := by
  induction r with
  | zero =>
    have h1 : cK xs (startAt ys 0) = false := by rw [R.s0]; simp [cK]
    have h2 : cT ys 0 = false := by simp [cT]
    rw [loop_false h1]
    have e2 : lbT ys 0 = 0 := loop_false h2
    rw [e2]
  | succ r ih =>
    cases hp : partS (ys.getD (r + 1) Str.empty) with
    | false =>
      have h1 : cK xs (startAt ys (r + 1)) = false := by simp only [cK, parts_row R hr, hp, Bool.and_false]
      have h2 : cT ys (r + 1) = false := by simp only [cT, hp, Bool.and_false]
      rw [loop_false h1]
      have e2 : lbT ys (r + 1) = r + 1 := loop_false h2
      rw [e2]
    | true =>
      have h1 : cK xs (startAt ys (r + 1)) = true := by simp only [cK, parts_row R hr, hp, Bool.and_true, decide_eq_true_eq]; exact R.spos hr (Nat.succ_pos _)
      have h2 : cT ys (r + 1) = true := by simp only [cT, hp, Bool.and_true, decide_eq_true_eq]; exact Nat.succ_pos _
      have e2 : lbT ys (r + 1) = lbT ys r := loop_true (P := pI ys) (cT_falls ys) hr h2
      rw [loop_true (P := fun _ => True) (cK_falls.at xs) trivial h1, e2]
      have e3 : gL xs (startAt ys (r + 1)) = startAt ys r := back_start R hr (Nat.succ_pos _)
      rw [e3]
      exact ih (by omega)
theorem run_first (R : RowsOf xs ys) {r : Nat} (hr : r < ys.length) : firstLine xs (startAt ys r) = startAt ys (lbU ys r) := by
  show loop (cL xs) (gL xs) (mI xs) (startAt ys r) = _
  induction r with
  | zero =>
    have h1 : cL xs (startAt ys 0) = false := by rw [R.s0]; simp [cL]
    have h2 : cU ys 0 = false := by simp [cU]
    rw [loop_false h1]
    have e2 : lbU ys 0 = 0 := loop_false h2
    rw [e2]
  | succ r ih =>
    cases hp : beginS (ys.getD (r + 1) Str.empty) with
    | true =>
      have h1 : cL xs (startAt ys (r + 1)) = false := by simp only [cL, begins_row R hr, hp, Bool.not_true, Bool.and_false]
      have h2 : cU ys (r + 1) = false := by simp only [cU, hp, Bool.not_true, Bool.and_false]
      rw [loop_false h1]
      have e2 : lbU ys (r + 1) = r + 1 := loop_false h2
      rw [e2]
    | false =>
      have h1 : cL xs (startAt ys (r + 1)) = true := by simp only [cL, begins_row R hr, hp, Bool.not_false, Bool.and_true, decide_eq_true_eq]; exact R.spos hr (Nat.succ_pos _)
      have h2 : cU ys (r + 1) = true := by simp only [cU, hp, Bool.not_false, Bool.and_true, decide_eq_true_eq]; exact Nat.succ_pos _
      have e2 : lbU ys (r + 1) = lbU ys r := loop_true (P := pI ys) (cU_falls ys) hr h2
      rw [loop_true (P := fun _ => True) (cL_falls.at xs) trivial h1, e2]
      have e3 : gL xs (startAt ys (r + 1)) = startAt ys r := back_start R hr (Nat.succ_pos _)
      rw [e3]
      exact ih (by omega)
theorem lup_skip {r0 r : Nat} (h0 : r0 < ys.length) (hp : partS (ys.getD r0 Str.empty) = false) (hr : r ≤ r0) : lup ys r0 r = lskip ys r ∧ lup ys r0 r ≤ r0 := by
  generalize hk : r0 - r = k
  induction k generalizing r with
  | zero =>
    have e : r = r0 := by omega
    subst e
    have h1 : cV ys r = false := hp
    have h2 : cQ ys r = false := by simp only [cQ, hp, Bool.and_false]
    have e1 : lup ys r r = r := loop_false h1
    have e2 : lskip ys r = r := loop_false h2
    rw [e1, e2]
    exact ⟨rfl, Nat.le_refl _⟩
  | succ k ih =>
    cases hq : partS (ys.getD r Str.empty) with
    | false =>
      have h1 : cV ys r = false := hq
      have h2 : cQ ys r = false := by simp only [cQ, hq, Bool.and_false]
      have e1 : lup ys r0 r = r := loop_false h1
      have e2 : lskip ys r = r := loop_false h2
      rw [e1, e2]
      exact ⟨rfl, hr⟩
    | true =>
      have h2 : cQ ys r = true := by simp only [cQ, hq, Bool.and_true, decide_eq_true_eq]; omega
      have e1 : lup ys r0 r = lup ys r0 (r + 1) := loop_true (P := fun r => r ≤ r0) (up_mu hp) hr hq
      have e2 : lskip ys r = lskip ys (r + 1) := loop_true (P := pT ys) (cQ_falls ys) trivial h2
      rw [e1, e2]
      exact ih (by omega) (by omega)
theorem lbT_lt {r : Nat} (hr : r < ys.length) : lbT ys r < ys.length := Nat.lt_of_le_of_lt (lbT_le ys r) hr
theorem lbU_lt {r : Nat} (hr : r < ys.length) : lbU ys r < ys.length := Nat.lt_of_le_of_lt (lbU_le ys hr) hr
theorem lbU_zero {r : Nat} (hr : r < ys.length) (h : beginS (ys.getD (lbU ys r) Str.empty) = false) : lbU ys r = 0 := by
  have h1 : cU ys (lbU ys r) = false := loop_end (P := pI ys) (cU_falls ys) hr
  simp only [cU, h, Bool.not_false, Bool.and_true, decide_eq_false_iff_not] at h1
  omega
theorem empty_str {y : Str} : y = Str.ofString "" ↔ (sCodes y).length = 0 := by
  constructor
  · rintro rfl; decide +kernel
  · intro h
    have e : y.cps = #[] := by
      apply Array.eq_empty_of_size_eq_zero
      simpa [sCodes] using h
    cases y with
    | mk c => cases e; decide +kernel
theorem behind_row (R : RowsOf xs ys) {r i : Nat} (hr : r < ys.length) (h1 : startAt ys r ≤ i) (h2 : i ≤ startAt ys r + (lineOf ys r).length) (hi : 0 < i) : behindEmpty xs i = cI ys (startsOf ys) i := by
  rw [cI, rowOf_eq R hr h1 h2, starts_get hr, behindEmpty]
  by_cases he : startAt ys r = i
  · subst he
    obtain ⟨h3, h4, h5⟩ := R.before hr hi
    have h6 : lstart xs (startAt ys r - 1) = startAt ys (r - 1) := back_start R hr h4
    rw [parts_row R hr, h6, h3]
    have e : decide (startAt ys (r - 1) = startAt ys r - 1) = decide (ys.getD (r - 1) Str.empty = Str.ofString "") := by
      have hl : (lineOf ys (r - 1)).length = (sCodes (ys.getD (r - 1) Str.empty)).length := rfl
      rw [decide_eq_decide, empty_str, h5, ← hl]
      omega
    rw [e]
    have e1 : decide (0 < startAt ys r) = true := decide_eq_true hi
    simp [e1]
  · have h3 := R.inner hr (p := i - 1) (by omega) (by omega)
    have e1 : decide (co xs (i - 1) = 10) = false := decide_eq_false h3
    have e2 : decide (startAt ys r = i) = false := decide_eq_false he
    rw [e1, e2]
    simp
theorem bwd_eq (R : RowsOf xs ys) {i : Nat} (hi : i ≤ xs.length) : oneBwd xs i = lbwd ys (startsOf ys) i := by
  by_cases h0 : i = 0
  · subst h0
    rw [oneBwd, if_pos (.inl rfl), lbwd, if_pos rfl]
  · obtain ⟨r, hr, h1, h2⟩ := R.row hi
    have hb := behind_row R hr h1 h2 (by omega)
    cases hc : cI ys (startsOf ys) i with
    | true =>
      rw [hc] at hb
      rw [oneBwd, if_pos (.inr hb), lbwd, if_neg h0, if_pos (cI_iff.mp hc)]
    | false =>
      rw [hc] at hb
      have hi0 : (i : Int) ≠ 0 := by omega
      rw [lb_pre hi0 hc, oneBwd, if_neg (by rintro (h | h); exact h0 h; rw [hb] at h; cases h)]
      obtain ⟨q, hq, h3, h4⟩ := R.row (i := i - 1) (by omega)
      rw [rowOf_eq R hq h3 h4]
      have e1 : backPart xs i = startAt ys (lbT ys q) := by
        show loop (cK xs) (gL xs) (mI xs) (lstart xs (i - 1)) = _
        rw [R.lstart_eq hq h3 h4]
        exact run_back R hq
      have hT := lbT_lt (ys := ys) hq
      rw [e1]
      by_cases hz : lbT ys q = 0
      · rw [hz, if_pos R.s0, if_pos rfl]
      · have hs := R.spos hT (by omega)
        rw [if_neg (by omega), if_neg hz, run_first R hT, begins_row R (lbU_lt hT)]
        cases hbg : beginS (ys.getD (lbU ys (lbT ys q)) Str.empty) with
        | false =>
          rw [if_pos rfl, if_pos rfl, lbU_zero hT hbg]
          exact R.s0
        | true =>
          rw [if_neg (by simp), if_neg (by simp)]
          have hpT : partS (ys.getD (lbT ys q) Str.empty) = false := by
            have h5 : cT ys (lbT ys q) = false := loop_end (P := pI ys) (cT_falls ys) hq
            exact cT_stop h5 hz
          obtain ⟨e2, e3⟩ := lup_skip hT hpT (lbU_le ys hT)
          have e4 : past xs (startAt ys (lbU ys (lbT ys q))) = posY xs ys (lskip ys (lbU ys (lbT ys q))) := past_row R (lbU_lt hT) (Nat.le_refl _) (by omega)
          have e5 : lup ys (lbT ys q) (lbU ys (lbT ys q)) = lskip ys (lbU ys (lbT ys q)) := e2
          have e6 : lup ys (lbT ys q) (lbU ys (lbT ys q)) < ys.length := Nat.lt_of_le_of_lt e3 hT
          rw [e4, ← e5]
          generalize lup ys (lbT ys q) (lbU ys (lbT ys q)) = k at e6
          rw [posY_in e6, emptyAbove, lempty, starts_get e6]
          by_cases hk : 0 < k
          · have h6 := R.spos e6 hk
            obtain ⟨_, _, h7⟩ := R.before e6 h6
            have h8 : k - 1 < ys.length := by omega
            rw [back_start R e6 hk, starts_get h8]
            by_cases h9 : ys.getD (k - 1) Str.empty = Str.ofString ""
            · have h10 : (lineOf ys (k - 1)).length = 0 := empty_str.mp h9
              rw [if_pos ⟨h6, by omega⟩, if_pos ⟨hk, h9⟩]
              omega
            · have h10 : (lineOf ys (k - 1)).length ≠ 0 := fun e => h9 (empty_str.mpr e)
              rw [if_neg (by rintro ⟨_, e⟩; omega), if_neg (by rintro ⟨_, e⟩; exact h9 e)]
          · have e7 : k = 0 := by omega
            subst e7
            rw [if_neg (by rintro ⟨h, _⟩; rw [R.s0] at h; omega), if_neg (by rintro ⟨h, _⟩; omega)]
end
end
/-! part PJ -/
section
def joinC : List (List Int) → List Int
  | [] => []
  | [a] => a
  | a :: b :: r => a ++ 10 :: joinC (b :: r)
theorem sCodes_append (a b : Str) : sCodes (a ++ b) = sCodes a ++ sCodes b := by
  simp [sCodes, PySem.Str.cps_append]
theorem sCodes_nl : sCodes (Str.ofString "\n") = [10] := by decide +kernel
theorem sCodes_join : ∀ lines : List Str, sCodes (PySem.Txt.join (Str.ofString "\n") lines) = joinC (lines.map sCodes) := by
  intro lines
  show sCodes (Builtin.Str.glued (Str.ofString "\n") lines) = _
  rw [StrLaws.glued_eq_join]
  induction lines with
  | nil => rfl
  | cons a r ih =>
    cases r with
    | nil => rfl
    | cons b r =>
      show sCodes (a ++ Str.ofString "\n" ++ PySem.Str.join (Str.ofString "\n") (b :: r)) = sCodes a ++ 10 :: joinC (List.map sCodes (b :: r))
      rw [sCodes_append, sCodes_append, sCodes_nl, ih]
      simp
theorem sCodes_len (y : Str) : (sCodes y).length = y.length := by simp [sCodes, PySem.Str.length]
theorem startAt_zero (ys : List Str) : startAt ys 0 = 0 := by simp [startAt]
theorem startAt_cons (a : Str) (ys : List Str) (r : Nat) : startAt (a :: ys) (r + 1) = a.length + 1 + startAt ys r := by simp [startAt]
theorem startAt_succ : ∀ (ys : List Str) (r : Nat), r < ys.length → startAt ys (r + 1) = startAt ys r + (lineOf ys r).length + 1
  | [], _, h => absurd h (Nat.not_lt_zero _)
  | a :: ys, 0, _ => by
    rw [startAt_cons, startAt_zero, startAt_zero]
    have : lineOf (a :: ys) 0 = sCodes a := rfl
    rw [this, sCodes_len]; omega
  | a :: ys, r + 1, h => by
    have := startAt_succ ys r (by simpa using h)
    rw [startAt_cons, startAt_cons, this]
    have e : lineOf (a :: ys) (r + 1) = lineOf ys r := by simp [lineOf]
    rw [e]; omega
theorem join_len : ∀ ys : List Str, ys ≠ [] → (joinC (ys.map sCodes)).length + 1 = startAt ys ys.length
  | [], h => absurd rfl h
  | [a], _ => by
    show (sCodes a).length + 1 = startAt [a] (0 + 1)
    rw [startAt_cons, startAt_zero, sCodes_len]
  | a :: b :: r, _ => by
    have ih := join_len (b :: r) (by simp)
    show (sCodes a ++ 10 :: joinC ((b :: r).map sCodes)).length + 1 = startAt (a :: b :: r) ((b :: r).length + 1)
    rw [startAt_cons, ← ih, List.length_append, sCodes_len, List.length_cons]
    omega
theorem co_app_left {a b : List Int} {i : Nat} (h : i < a.length) : co (a ++ b) i = co a i := by
  simp only [co, List.getD_eq_getElem?_getD, List.getElem?_append_left h]
theorem co_app_right {a b : List Int} {i : Nat} : co (a ++ b) (a.length + i) = co b i := by
  simp only [co, List.getD_eq_getElem?_getD]
  rw [List.getElem?_append_right (by omega)]
  have e : a.length + i - a.length = i := by omega
  rw [e]
theorem co_cons {z : Int} {b : List Int} {i : Nat} : co (z :: b) (i + 1) = co b i := rfl
theorem co_line : ∀ (ys : List Str) (r c : Nat), r < ys.length → c < (lineOf ys r).length → co (joinC (ys.map sCodes)) (startAt ys r + c) = (lineOf ys r).getD c 0
  | [], _, _, h, _ => absurd h (Nat.not_lt_zero _)
  | [a], r, c, h, hc => by
    have e : r = 0 := by simp at h; exact h
    subst e
    have e1 : lineOf [a] 0 = sCodes a := rfl
    rw [e1] at hc ⊢
    rw [startAt_zero, Nat.zero_add]
    show (sCodes a).getD c (-1) = _
    rw [List.getD_eq_getElem?_getD, List.getD_eq_getElem?_getD, List.getElem?_eq_getElem hc]
    rfl
  | a :: b :: ys, 0, c, h, hc => by
    have e1 : lineOf (a :: b :: ys) 0 = sCodes a := rfl
    rw [e1] at hc ⊢
    rw [startAt_zero, Nat.zero_add]
    show co (sCodes a ++ 10 :: joinC ((b :: ys).map sCodes)) c = _
    rw [co_app_left hc]
    show (sCodes a).getD c (-1) = _
    rw [List.getD_eq_getElem?_getD, List.getD_eq_getElem?_getD, List.getElem?_eq_getElem hc]
    rfl
  | a :: b :: ys, r + 1, c, h, hc => by
    have e1 : lineOf (a :: b :: ys) (r + 1) = lineOf (b :: ys) r := by simp [lineOf]
    rw [e1] at hc ⊢
    have ih := co_line (b :: ys) r c (by simpa using h) hc
    show co (sCodes a ++ 10 :: joinC ((b :: ys).map sCodes)) _ = _
    have e2 : startAt (a :: b :: ys) (r + 1) + c = (sCodes a).length + (startAt (b :: ys) r + c + 1) := by rw [startAt_cons, sCodes_len]; omega
    rw [e2, co_app_right, co_cons]
    exact ih
theorem co_nl : ∀ (ys : List Str) (r : Nat), r + 1 < ys.length → co (joinC (ys.map sCodes)) (startAt ys r + (lineOf ys r).length) = 10
  | [], _, h => absurd h (Nat.not_lt_zero _)
  | [a], r, h => by simp at h
  | a :: b :: ys, 0, h => by
    have e1 : lineOf (a :: b :: ys) 0 = sCodes a := rfl
    rw [e1, startAt_zero, Nat.zero_add]
    show co (sCodes a ++ 10 :: joinC ((b :: ys).map sCodes)) ((sCodes a).length + 0) = 10
    rw [co_app_right]; rfl
  | a :: b :: ys, r + 1, h => by
    have e1 : lineOf (a :: b :: ys) (r + 1) = lineOf (b :: ys) r := by simp [lineOf]
    have ih := co_nl (b :: ys) r (by simpa using h)
    rw [e1]
    show co (sCodes a ++ 10 :: joinC ((b :: ys).map sCodes)) _ = _
    have e2 : startAt (a :: b :: ys) (r + 1) + (lineOf (b :: ys) r).length = (sCodes a).length + (startAt (b :: ys) r + (lineOf (b :: ys) r).length + 1) := by rw [startAt_cons]; have := sCodes_len a; omega
    rw [e2, co_app_right, co_cons]
    exact ih
theorem menu_no {y : Str} (h : y ∈ menu) : ∀ z ∈ sCodes y, z ≠ 10 := by
  simp only [menu, List.mem_cons, List.not_mem_nil, or_false] at h
  rcases h with rfl | rfl | rfl | rfl | rfl | rfl | rfl | rfl <;> decide +kernel
theorem getD_mem {l : List Int} {c : Nat} (hc : c < l.length) : l.getD c 0 ∈ l := by
  rw [List.getD_eq_getElem?_getD, List.getElem?_eq_getElem hc]
  exact List.getElem_mem hc
theorem rows_of {ys : List Str} (hm : ∀ y ∈ ys, y ∈ menu) (h0 : 0 < ys.length) : RowsOf (sCodes (PySem.Txt.join (Str.ofString "\n") ys)) ys := by
  rw [sCodes_join]
  have hl := join_len ys (List.length_pos_iff.mp h0)
  refine ⟨h0, startAt_zero ys, fun r hr => startAt_succ ys r (by omega), ?_, fun r hr => co_nl ys r hr, fun r hr c hc => co_line ys r c hr hc, fun r hr c hc => ?_⟩
  · have h2 := startAt_succ ys (ys.length - 1) (by omega)
    have e : ys.length - 1 + 1 = ys.length := by omega
    rw [e] at h2
    omega
  · exact menu_no (menu_at hm r) _ (getD_mem hc)
theorem text_len' {ys : List Str} (h : ∀ y ∈ ys, y ∈ menu) (hl : ∀ y ∈ menu, y.length ≤ 3) : (PySem.Txt.join (Str.ofString "\n") ys).length ≤ 4 * ys.length := by
  cases hy : ys with
  | nil => decide +kernel
  | cons a r =>
    have h1 := join_len ys (by rw [hy]; simp)
    rw [← sCodes_join, sCodes_len] at h1
    have key : ∀ l : List Str, (∀ y ∈ l, y ∈ menu) → startAt l l.length ≤ 4 * l.length := by
      intro l
      induction l with
      | nil => intro _; simp [startAt]
      | cons b l ih =>
        intro hm
        have h2 := ih fun y hy => hm y (.tail _ hy)
        have h3 := hl b (hm b (.head _))
        show startAt (b :: l) (l.length + 1) ≤ 4 * (l.length + 1)
        rw [startAt_cons]; omega
    have h2 := key ys h
    rw [hy] at h1 h2
    omega
theorem iter_eq {f g : Nat → Nat} {B : Nat} (h : ∀ i, i ≤ B → f i = g i ∧ f i ≤ B) (k : Nat) {i : Nat} (hi : i ≤ B) : iterN f k i = iterN g k i ∧ iterN f k i ≤ B := by
  induction k with
  | zero => exact ⟨rfl, hi⟩
  | succ k ih =>
    have h2 := h _ ih.2
    refine ⟨?_, h2.2⟩
    show f (iterN f k i) = g (iterN g k i)
    rw [h2.1, ih.1]
section
variable {ys : List Str} (hm : ∀ y ∈ ys, y ∈ menu) (h0 : 0 < ys.length)
include hm h0
abbrev xsOf (ys : List Str) : List Int := sCodes (PySem.Txt.join (Str.ofString "\n") ys)
theorem law_fwd1 {i : Nat} (hi : i ≤ (xsOf ys).length) : oneFwd (xsOf ys) i = fwdL ys i := by
  have h := fwd_eq (rows_of hm h0) hi
  rw [h]
  show lfwd ys (startsOf ys) (sCodes (PySem.Txt.join (Str.ofString "\n") ys)).length i = _
  rw [sCodes_len]
theorem law_bwd1 {i : Nat} (hi : i ≤ (xsOf ys).length) : oneBwd (xsOf ys) i = bwdL ys i := bwd_eq (rows_of hm h0) hi
theorem law_fwd {i : Nat} (k : Nat) (hi : i ≤ (xsOf ys).length) : iterN (oneFwd (xsOf ys)) k i = iterN (fwdL ys) k i :=
  (iter_eq (B := (xsOf ys).length) (fun i hi => ⟨law_fwd1 hm h0 hi, oneFwd_le _ i⟩) k hi).1
theorem law_bwd {i : Nat} (k : Nat) (hi : i ≤ (xsOf ys).length) : iterN (oneBwd (xsOf ys)) k i = iterN (bwdL ys) k i :=
  (iter_eq (B := (xsOf ys).length) (fun i hi => ⟨law_bwd1 hm h0 hi, oneBwd_le _ hi⟩) k hi).1
end
theorem law_lit : iterN (oneBwd (sCodes (Str.ofString "a\n\nb\nc"))) 1 6 = 2 ∧ iterN (oneFwd (sCodes (Str.ofString "a\n\nb\nc"))) 1 0 = 2 := by decide +kernel
end
/-! part T2 -/
section
theorem off2 {a b D : Addr} {x y : Obj} (h : ∀ p ∈ [(a, x), (b, y)], p.1 ≠ D) : @Ne Nat a D ∧ @Ne Nat b D := ⟨h _ (.head _), h _ (.tail _ (.head _))⟩
theorem mem9 {y : Str} (h : y ∈ [Str.ofString "", Str.ofString "", Str.ofString "a", Str.ofString "b c", Str.ofString " ", Str.ofString "\t", Str.ofString "\x0cd", Str.ofString "\x0c", Str.ofString "e"]) : y ∈ menu := by
  simp only [menu, List.mem_cons, List.not_mem_nil, or_false] at h ⊢
  rcases h with h | h | h | h | h | h | h | h | h <;> simp [h]
theorem to_one {k : Nat} : (1 : Int) + (k : Int) = ((1 + k : Nat) : Int) := by omega
theorem one_thousand {k : Nat} (h : (k : Int) < 8) : 0 < ((1 : Int) + (k : Int)).toNat ∧ ((1 : Int) + (k : Int)).toNat ≤ 1000 := by omega
theorem lt62 {n : Nat} (h : n ≤ 1000) : n < 2 ^ 62 := by omega
theorem small8 {k : Nat} (h : (k : Int) < 8) : Builtin.Range.small 0 ((1 : Int) + (k : Int)) 1 = true := small_one (by omega) (by omega) (by omega) (by omega)
theorem small3 {k : Nat} (h : (k : Int) < 3) : Builtin.Range.small 0 ((1 : Int) + (k : Int)) 1 = true := small_one (by omega) (by omega) (by omega) (by omega)
theorem small_len {n : Nat} (h : n ≤ 1000) : Builtin.Range.small 0 (n : Int) 1 = true := small_one (by omega) (by omega) (by omega) (by omega)
theorem size_len {n : Nat} (h : n ≤ 1000) : ((n : Nat) : Int).toNat ≤ sizeLine := by rw [PySem.sizeLine_eq]; omega
theorem one_le' (k : Nat) : 1 ≤ 1 + k := by omega
theorem lt1000 {k : Nat} (h : (k : Int) < 3) : 1 + k < 1000 := by omega
theorem pos_b (k : Nat) : (1 : Int) ≤ 1 + (k : Int) := by omega
theorem len_pos (n : Nat) : (0 : Int) < (n : Int) + 1 := by omega
theorem size8 {k : Nat} (h : (k : Int) < 8) : ((1 : Int) + (k : Int)).toNat ≤ sizeLine := by rw [PySem.sizeLine_eq]; omega
section
variable {dp un : Nat} {gd : Option (List Code)} {cn : Str} {cs : Scope} {a : Addr} {ccd : Value} {cl : List (Str × Addr)} {outer : List Env} {A₀ : Around} {base h₀ : Heap} {L : Addr} {m : Str → Option Value} {s : Shared} {Q E : Value → Shared → Prop}
variable {mean : ExcName → Option Value} {mg mb : Str → Option Value} {w : World} {D : Addr} {news : Led} {vs : List Value} {ds : List Int} {n : Nat} {nx : List Value → Nat → Led}
theorem use_drawZ {z : Int} {u : Tok} (U : ∀ vs' n', Upd D (PySem.W.listOf vs.toArray n) (PySem.W.listOf vs'.toArray n') news (nx vs' n')) (hi : IntsAre vs ds) (ok : DeckOk ds) (hm : 0 < z) (hm2 : z < 2 ^ 30)
    (B : Below A₀ base outer h₀) (F : Fr h₀ L s.heap m) (X : (hd.heap_39 w.params).In h₀) (N : News h₀ L s.heap news) (T : Top hd.view_39 (looseW hd.view_39 [Str.ofString "PARTING"]) mean mg mb h₀) (hk : cs.kind = .function)
    (hdp : dp + 1 < recursionLimit) (hun : un + 8 * 1 < cLine)
    (ret : ∀ (k : Nat) t vs' ds' n' h' tk', (k : Int) < z → IntsAre vs' ds' → DeckOk ds' → Fr h₀ L h' m → News h₀ L h' (nx vs' n') → Q (.int (k : Int) t) { s with heap := h', toks := tk' }) :
    wpAny (model PR w) (ktrTop dp un gd cn cs L a ccd cl outer) (call (.ref 163) [.ref D, .int z u]) Q E s := by
  obtain ⟨many, rfl⟩ : ∃ many : Nat, z = (many : Int) := ⟨z.toNat, by omega⟩
  exact use_draw U hi ok (by omega) (by omega) B F X N T hk hdp hun fun k t vs' ds' n' h' tk' hk' => ret k t vs' ds' n' h' tk' (by omega)
end
theorem take_size {vs : List Value} {lines : List Str} {i : Nat} (hw : StrsAre vs lines) (h : lines.length ≤ 1000) : (vs.take i).toArray.size ≤ sizeLine := by
  have := hw.length
  rw [PySem.sizeLine_eq, List.size_toArray, List.length_take]; omega
theorem menu_len {y : Str} (h : y ∈ menu) : y.length ≤ 3 := by
  simp only [menu, List.mem_cons, List.not_mem_nil, or_false] at h
  rcases h with rfl | rfl | rfl | rfl | rfl | rfl | rfl | rfl <;> decide +kernel
theorem text_len {lines : List Str} (h : ∀ y ∈ lines, y ∈ menu) : (PySem.Txt.join (Str.ofString "
") lines).length ≤ 4 * lines.length := text_len' h fun _ => menu_len
theorem text_size {lines : List Str} (h : ∀ y ∈ lines, y ∈ menu) (hl : lines.length ≤ 1000) : (PySem.Txt.join (Str.ofString "
") lines).cps.size ≤ sizeLine := by
  have := text_len h
  rw [PySem.sizeLine_eq]
  show (PySem.Txt.join (Str.ofString "
") lines).length ≤ _
  omega
theorem fit_take {y : Str} {lines : List Str} {i : Nat} (hy : y ∈ lines.take i) (h : ∀ y ∈ lines, y ∈ menu) : ¬ (y.length : Int) ≥ 2 ^ 63 := by
  have := menu_len (h y (List.mem_of_mem_take hy))
  omega
theorem fit_text {lines : List Str} (h : ∀ y ∈ lines, y ∈ menu) (hl : lines.length ≤ 1000) : ¬ ((PySem.Txt.join (Str.ofString "
") lines).length : Int) ≥ 2 ^ 63 := by
  have := text_len h
  omega
theorem rsize (b : Int) : Builtin.Range.rangeSize 0 b 1 = ((b.toNat : Nat) : Int) := by rw [rangeSize_nat, Int.sub_zero]
theorem text_fit {lines : List Str} (h : ∀ y ∈ lines, y ∈ menu) (hl : lines.length ≤ 1000) : (sCodes (PySem.Txt.join (Str.ofString "\n") lines)).length < 2 ^ 20 := by
  have := text_len h
  have e : (sCodes (PySem.Txt.join (Str.ofString "\n") lines)).length = (PySem.Txt.join (Str.ofString "\n") lines).length := by simp [sCodes, PySem.Str.length]
  omega
theorem text_ints {ys : List Value} {lines : List Str} (hi : IntsAre ys (sCodes (PySem.Txt.join (Str.ofString "\n") lines))) (h : ∀ y ∈ lines, y ∈ menu) (hl : lines.length ≤ 1000) : ys.toArray.size ≤ sizeLine := by
  have h1 := hi.length
  have h2 := text_fit h hl
  rw [PySem.sizeLine_eq, List.size_toArray]
  omega
theorem text_draw {lines : List Str} (h : ∀ y ∈ lines, y ∈ menu) (hl : lines.length ≤ 1000) : ((PySem.Txt.join (Str.ofString "\n") lines).length : Int) + 1 < 2 ^ 30 := by
  have := text_len h
  omega
section
variable {b : Int} {lines : List Str} {a i k : Nat}
theorem contra1 (h : b + (iterN (oneFwd (xsOf lines)) (1 + k) i : Nat) ≠ b + (iterN (fwdL lines) ((1 : Int) + (k : Int)).toNat i : Nat)) (hm : ∀ y ∈ lines, y ∈ menu) (hl : lines.length = ((1 : Int) + (a : Int)).toNat) (hi : (i : Int) < ((PySem.Txt.join (Str.ofString "\n") lines).length : Int) + 1) : False := by
  refine h ?_
  rw [law_fwd hm (by omega) _ (by rw [sCodes_len]; omega), toNat_one]
theorem contra2 (h : b + (iterN (oneBwd (xsOf lines)) (1 + k) i : Nat) ≠ b + (iterN (bwdL lines) ((1 : Int) + (k : Int)).toNat i : Nat)) (hm : ∀ y ∈ lines, y ∈ menu) (hl : lines.length = ((1 : Int) + (a : Int)).toNat) (hi : (i : Int) < ((PySem.Txt.join (Str.ofString "\n") lines).length : Int) + 1) : False := by
  refine h ?_
  rw [law_bwd hm (by omega) _ (by rw [sCodes_len]; omega), toNat_one]
theorem contra3 (h : (b + (oneBwd (xsOf lines) (oneFwd (xsOf lines) i) : Nat) == b + (lbwd lines (startsOf lines) (lfwd lines (startsOf lines) (PySem.Txt.join (Str.ofString "\n") lines).length i) : Nat) &&
    b + (oneFwd (xsOf lines) i : Nat) == b + (lfwd lines (startsOf lines) (PySem.Txt.join (Str.ofString "\n") lines).length i : Nat)) = false)
    (hm : ∀ y ∈ lines, y ∈ menu) (hl : lines.length = ((1 : Int) + (a : Int)).toNat) (hi : (i : Int) < ((PySem.Txt.join (Str.ofString "\n") lines).length : Int) + 1) : False := by
  have h0 : 0 < lines.length := by omega
  have e1 : oneFwd (xsOf lines) i = lfwd lines (startsOf lines) (PySem.Txt.join (Str.ofString "\n") lines).length i := law_fwd1 hm h0 (by rw [sCodes_len]; omega)
  have e2 : oneBwd (xsOf lines) (oneFwd (xsOf lines) i) = lbwd lines (startsOf lines) (oneFwd (xsOf lines) i) := law_bwd1 hm h0 (oneFwd_le _ _)
  rw [e2, e1, beq_self_eq_true, beq_self_eq_true] at h
  cases h
end
theorem law_end : (((1 : Int) + (iterN (oneFwd (sCodes (Str.ofString "a\n\nb\nc"))) 1 0 : Nat)) == 3) = true := by rw [law_lit.2]; rfl
theorem fillT2 : (hd.heap_39, PySem.Challenge.rw_np0017_01) = (hd.heap_39, PySem.Challenge.rw_np0017_01) := by
  k_fill
  rfl
local macro_rules | `(tactic| k_ne) => `(tactic| (refine neN ?_; (try dsimp only); with_reducible first | assumption | (refine Ne.symm ?_; assumption) | exact And.left (by assumption) | exact Ne.symm (And.left (by assumption)) | exact Nat.ne_of_lt (And.left (by assumption)) | exact Nat.ne_of_gt (And.left (by assumption)) | exact And.left (And.right (by assumption)) | exact Nat.ne_of_gt (And.left (And.right (by assumption))) | exact Nat.ne_of_gt (And.left (And.right (And.right (by assumption)))) | exact Nat.ne_of_gt (And.left (And.right (And.right (And.right (by assumption)))))))
theorem t2 : PySem.Challenge.rw_np0017_01.Holds := hd (by
  k_with_none
  k_with "call ref" => (k_here; k_dflt (refine' con_deck_of ?zqa1 ?zqa2 ?zqa3 ?zqa4 ?zqa5 ?zqk1 ?zqk2 ?zqk3 ?zqk4 ?zqk5 ?zqkK ?zqkd ?zqku ?_; (case zqk4 => k_asm); (case zqk1 => k_asm); (case zqa1 => assumption); (case zqa2 => assumption); (case zqa3 => assumption); (case zqa4 => assumption); (case zqa5 => omega); (case zqk2 => k_asm); (case zqk3 => k_asm); (case zqk5 => k_asm); (case zqkK => first | exact rfl | assumption); (case zqkd => ktr_room); (case zqku => ktr_units); k_whole; intro D' vs' ds' n' h' tk' hI' hO' off' F' N'; (replace off' := off2 off'); (obtain ⟨_, _⟩ := off'); (try k_sweep)))
  k_with "exec For Name Call cons nil" => (k_here; (rename Fr _ _ _ _ => lF'); (with_unfolding_all refine' For_invVF lF' ?zqk1 ?zqk2 ?_; (case zqk1 => exact rfl); (case zqk2 => exact rfl); k_whole))
  k_with "pyIter ref" => (k_here; (with_reducible show wpAny _ _ (pyIter (Value.ref _)) (fun it s₂ => LoopAtV _ _ _ _ _ (Str.ofString "_law_turn") _ _ _ it s₂) _ _); (rename IsRange _ _ _ _ _ _ _ _ => rgX); k_dflt (refine' for_law (Str.ofString "_law_turn") ?zqhh rgX ?zqhsm ?zqF ?zqN ?zqhi ?zqok ?zqh1 ?zqh2 ?zqd1 ?zqd2 ?zqd3 ?_ ?_; (case zqN => k_asm); (case zqF => k_asm); (case zqhh => exact rfl); (case zqhsm => decide); (case zqhi => assumption); (case zqok => assumption); (case zqh1 => assumption); (case zqh2 => assumption); (case zqd1 => assumption); (case zqd2 => assumption); (case zqd3 => k_ne); (all_goals (intros; (try k_sweep)))))
  k_with "call ref" => (k_here; (with_reducible show wpAny _ _ (call (Value.ref 163) [Value.ref _, Value.int _ _]) _ _ _); k_dflt (refine' use_drawZ ?zqaU ?zqaI ?zqaO ?zqam ?zqam2 ?zqk1 ?zqk2 ?zqk3 ?zqk4 ?zqk5 ?zqkK ?zqkd ?zqku ?_; (case zqk4 => k_asm); (case zqaU => (intro vs' n'; k_upd)); (case zqaI => assumption); (case zqaO => assumption); (case zqam => first | decide | exact len_pos _); (case zqam2 => first | decide | exact text_draw (by assumption) (by assumption)); (case zqk1 => k_asm); (case zqk2 => k_asm); (case zqk3 => k_asm); (case zqk5 => k_asm); (case zqkK => first | exact rfl | assumption); (case zqkd => ktr_room); (case zqku => ktr_units); intro k' t' vs' ds' n' h' tk' hk' hI' hO' F' N'; (try k_sweep)))
  k_with "call ref" => (k_here; (with_reducible show wpAny _ _ (call (Value.ref 175) [Value.ref _, Value.ref _]) _ _ _); k_dflt (refine' use_one ?zqaU ?zqaI ?zqaO ?zqam ?zqane ?zqaw ?zqa0 ?zqalt ?zqk1 ?zqk2 ?zqk3 ?zqk4 ?zqk5 ?zqkK ?zqkd ?zqku ?_; (case zqk4 => k_asm); (case zqam => k_mem); (case zqaw => (repeat' constructor)); (case zqaU => (intro vs' n'; k_upd)); (case zqaI => assumption); (case zqaO => assumption); (case zqane => k_ne); (case zqa0 => decide); (case zqalt => decide); (case zqk1 => k_asm); (case zqk2 => k_asm); (case zqk3 => k_asm); (case zqk5 => k_asm); (case zqkK => first | exact rfl | assumption); (case zqkd => ktr_room); (case zqku => ktr_units); intro y' t' vs' ds' n' h' tk' hy' hI' hO' F' N'; (try k_sweep)))
  k_with "eval ListComp" => (k_here; (with_reducible show wpAny _ _ (eval (PySem.Expr.ListComp (PySem.Expr.Call (PySem.Expr.Name (Str.ofString "_law_one") _) _ _ _) _ _ _) _) _ _ _); k_dflt (refine LCg.ListComp_U (F₀ := by k_asm) (by with_unfolding_all rfl) (by decide) (by rfl) (by decide) (by rfl) ?_))
  k_with "CompSrc" => (k_here; (with_reducible show LCg.CompSrc _ _ _ _ _ _ _ (PySem.Expr.Call (PySem.Expr.Name (Str.ofString "_law_one") _) _ _ _) _ _ _ _ _ _); (rename IsRange _ _ _ _ _ _ _ _ => rgX); k_dflt (refine' LCg.CompSrc.range (by rfl) ?zqF ?zqN rgX ?zqhsm (rsize _) ?zqhsz ?_; (case zqN => k_asm); (case zqF => k_asm); (case zqhsm => exact small8 (by assumption)); (case zqhsz => exact size8 (by assumption)); (intro g2'; (refine' comp_lines ?zqhn ?zqhi ?zqok ?zqhS ?zqitem ?zqfin; (case zqhn => exact one_thousand (by assumption)); (case zqhi => assumption); (case zqok => assumption); (case zqhS => exact fun _ => trivial); (case' zqitem => (intro v' I' oI' C' oC' D' m' ys' vs' ds' k' h' tk' E' hC' hx' F' N' off' hI' hO'; (simp only [LCg.Off3, deckAt] at off'); (obtain ⟨⟨_, _, _⟩, ⟨_, _, _⟩, ⟨_, _, _⟩, _⟩ := off'))); (case' zqfin => (intro ys' lines' vs' ds' k' hw' hl' hpos' hle' hm' hI' hO'))))))
  k_with "eval ListComp" => (k_here; (with_reducible show wpAny _ _ (eval (PySem.Expr.ListComp (PySem.Expr.Call (PySem.Expr.Name (Str.ofString "ord") _) _ _ _) _ _ _) _) _ _ _); k_dflt (refine ListComp_S (F₀ := by k_asm) (by with_unfolding_all rfl) (by decide) (by rfl) (by decide) (by rfl) ?_))
  k_with "SrcS" => (k_here; k_dflt (refine' SrcS.intro (by rfl) ?zqF ?zqN ?zqhz ?_; (case zqN => k_asm); (case zqF => k_asm); (case zqhz => first | decide +kernel | exact text_size (by assumption) (by assumption)); (intro g2'; (refine' comp_signs (fun _ => trivial) ?_ ?_; (first | (intro c' t' I' oI' C' oC' D' m' ys' h' tk' E' hC' hx' F' N' off') | fail "signs")))))
  k_with "eval ListComp" => (k_here; (with_reducible show wpAny _ _ (eval (PySem.Expr.ListComp (PySem.Expr.Call (PySem.Expr.Name (Str.ofString "sum") _) _ _ _) _ _ _) _) _ _ _); k_dflt (refine LCg.ListComp_U (F₀ := by k_asm) (by with_unfolding_all rfl) (by decide) (by rfl) (by decide) (by rfl) ?_))
  k_with "CompSrc" => (k_here; (with_reducible show LCg.CompSrc _ _ _ _ _ _ _ (PySem.Expr.Call (PySem.Expr.Name (Str.ofString "sum") _) _ _ _) _ _ _ _ _ _); (rename IsRange _ _ _ _ _ _ _ _ => rgX); k_dflt (refine' LCg.CompSrc.range (by rfl) ?zqF ?zqN rgX ?zqhsm (rsize _) ?zqhsz ?_; (case zqN => k_asm); (case zqF => k_asm); (case zqhsm => exact small_len (by assumption)); (case zqhsz => exact size_len (by assumption)); (intro g2'; (refine' comp_starts ?zqW ?zqhn ?zqhS ?_ ?_; (case zqW => assumption); (case zqhn => exact Int.toNat_natCast _); (case zqhS => exact fun _ => trivial); (first | (intro i' t' I' oI' C' oC' D' m' ys' h' tk' E' hlt' hC' hx' F' N' off'; (simp only [LCg.Off3, deckAt] at off')) | fail "starts")))))
  k_with "eval ListComp" => (k_here; (with_reducible show wpAny _ _ (eval (PySem.Expr.ListComp (PySem.Expr.BinOp _ _ _ _) _ _ _) _) _ _ _); k_dflt (refine LCg.ListComp_U (F₀ := by k_asm) (by with_unfolding_all rfl) (by decide) (by rfl) (by decide) (by rfl) ?_))
  k_with "CompSrc" => (k_here; (with_reducible show LCg.CompSrc _ _ _ _ _ _ _ (PySem.Expr.BinOp _ _ _ _) _ _ _ _ _ _); k_dflt (refine' LCg.CompSrc.ledger (by rfl) ?zqF ?zqN ?zqhm ?zqhsz ?_; (case zqN => k_asm); (case zqF => k_asm); (case zqhm => k_mem); (case zqhsz => exact take_size (by assumption) (by assumption)); (intro g2'; (refine' comp_strs lenOne ?zqW ?zqhS ?_ ?_; (case zqW => exact StrsAre.take' (by assumption) _); (case zqhS => exact Or.inr ⟨_, by k_mem, rfl, _, rfl⟩); (first | (intro y' t' I' oI' C' oC' D' m' ys' h' tk' E' hy' hC' hx' F' N' off'; (simp only [LCg.Off3, deckAt] at off')) | fail "lens")))))
  k_with "subscriptTail Name Slice ref ref" => (k_here; (with_reducible show wpAny _ _ (subscriptTail _ (PySem.Expr.Slice _ _ none _) (Value.ref _) (Value.ref _)) _ _ _); k_dflt (refine' my_sslice ?zqF ?zqN ?zqm ?zqw ?zqk ?zqhle ?_ ?zqs ?zqt; (case zqF => k_asm); (case zqN => k_asm); (case zqm => k_mem); (case zqw => assumption); (case zqk => exact rfl); (case zqhle => assumption); (case zqs => with_unfolding_all rfl); (case zqt => kmk_pure); (intro D' h' F' N' l1 hW'; (try k_lt l1); (try k_sweep))))
  k_with "call builtin:sum" => (k_here; k_dflt (refine' LSm.sum_ints ?zqF ?zqN ?zqhh ?zqhl ?zqhi ?_; (case zqF => k_asm); (case zqN => k_asm); (case zqhh => exact rfl); (case zqhl => exact my_list (by k_asm) (by k_mem)); (case zqhi => assumption); (intro h' tk' t' F' N'; (try k_sweep))))
  k_with "call builtin:str.join" => (k_here; k_dflt (refine' my_join ?zqN ?zqm ?zqw ?zqB ?zqn ?zqx ?_; (case zqN => k_asm); (case zqm => k_mem); (case zqw => assumption); (case zqB => assumption); (case zqn => assumption); (case zqx => decide +kernel); intro t' k'))
  k_with "call builtin:len" => (k_here; (with_reducible show wpAny _ _ (call (Value.builtin "len") [Value.ref _]) _ _ _); k_dflt (refine my_slen (by k_asm) (by k_mem) (by assumption) (lt62 (by assumption)) ?_))
  k_with "call builtin:len" => (k_here; (with_reducible show wpAny _ _ (call (Value.builtin "len") [Value.str _ _]) _ _ _); k_dflt (refine P.len_str (by first | exact fit_take (by assumption) (by assumption) | exact fit_text (by assumption) (by assumption)) ?_))
  k_with "call ref" => (k_here; (with_reducible show wpAny _ _ (call (Value.ref 199) _) _ _ _); k_dflt (refine' use_int (con_lforward ?zqY ?zqS ?zqhl ?zqh0) ?zqk1 ?zqk2 ?zqk3 ?zqk4 ?zqk5 ?zqkK ?zqkd ?zqku ?_; (case zqk4 => k_asm); (case zqY => exact mkLines (by k_mem) (by assumption) (by assumption) (by assumption)); (case zqS => exact mkNums (by k_mem) (by assumption) (by assumption)); (case zqhl => exact starts_len _); (case zqh0 => exact starts_head (by assumption)); (case zqk1 => k_asm); (case zqk2 => k_asm); (case zqk3 => k_asm); (case zqk5 => k_asm); (case zqkK => first | exact rfl | assumption); (case zqkd => ktr_room); (case zqku => ktr_units); k_whole; intro t' h' tk' F' N'; (try k_sweep)))
  k_with "call ref" => (k_here; (with_reducible show wpAny _ _ (call (Value.ref 204) _) _ _ _); k_dflt (refine' use_int (con_lbackward ?zqY ?zqS ?zqhl ?zqh0) ?zqk1 ?zqk2 ?zqk3 ?zqk4 ?zqk5 ?zqkK ?zqkd ?zqku ?_; (case zqk4 => k_asm); (case zqY => exact mkLines (by k_mem) (by assumption) (by assumption) (by assumption)); (case zqS => exact mkNums (by k_mem) (by assumption) (by assumption)); (case zqhl => exact starts_len _); (case zqh0 => exact starts_head (by assumption)); (case zqk1 => k_asm); (case zqk2 => k_asm); (case zqk3 => k_asm); (case zqk5 => k_asm); (case zqkK => first | exact rfl | assumption); (case zqkd => ktr_room); (case zqku => ktr_units); k_whole; intro t' h' tk' F' N'; (try k_sweep)))
  k_with "call ref" => (k_here; (with_reducible show wpAny _ _ (call (Value.ref 106) [Value.ref _, _, _]) _ _ _); k_dflt (refine' use_int (con_target_fwd ?zqV ?zqhp ?zqhm ?zqhk1 ?zqhk2) ?zqk1 ?zqk2 ?zqk3 ?zqk4 ?zqk5 ?zqkK ?zqkd ?zqku ?_; (case zqk4 => k_asm); (case zqhm => (first | exact pos_one _ | exact lit_p1)); (case zqhk1 => first | exact one_le' _ | decide); (case zqhk2 => first | exact lt1000 (by assumption) | decide); (case zqhp => (first | exact rfl | exact lit_7 | exact lit_1)); (case zqV => exact mkView (by k_mem) (by k_mem) (by k_mem) (by assumption) (by first | decide +kernel | exact text_fit (by assumption) (by assumption)) (by first | exact pos_b _ | decide)); (case zqk1 => k_asm); (case zqk2 => k_asm); (case zqk3 => k_asm); (case zqk5 => k_asm); (case zqkK => first | exact rfl | assumption); (case zqkd => ktr_room); (case zqku => ktr_units); k_whole; intro t' h' tk' F' N'; (try k_sweep)))
  k_with "call ref" => (k_here; (with_reducible show wpAny _ _ (call (Value.ref 106) [Value.ref _, _, _]) _ _ _); k_dflt (refine' use_int (con_target_bwd ?zqV ?zqhp ?zqhm ?zqhk1 ?zqhk2) ?zqk1 ?zqk2 ?zqk3 ?zqk4 ?zqk5 ?zqkK ?zqkd ?zqku ?_; (case zqk4 => k_asm); (case zqhm => (first | exact neg_one' _ | exact lit_m1)); (case zqhk1 => first | exact one_le' _ | decide); (case zqhk2 => first | exact lt1000 (by assumption) | decide); (case zqhp => (first | exact rfl | exact lit_7 | exact lit_1)); (case zqV => exact mkView (by k_mem) (by k_mem) (by k_mem) (by assumption) (by first | decide +kernel | exact text_fit (by assumption) (by assumption)) (by first | exact pos_b _ | decide)); (case zqk1 => k_asm); (case zqk2 => k_asm); (case zqk3 => k_asm); (case zqk5 => k_asm); (case zqkK => first | exact rfl | assumption); (case zqkd => ktr_room); (case zqku => ktr_units); k_whole; intro t' h' tk' F' N'; (try k_sweep)))
  k_with "call ref" => (k_here; (with_reducible show wpAny _ _ (call (Value.ref 113) [Value.ref _, _]) _ _ _); k_dflt (refine' con_use (con_paragraph_bounds ?zqV ?zqhp) ?zqk1 ?zqk2 ?zqk3 ?zqk4 ?zqk5 ?zqkK ?zqkd ?zqku ?_; (case zqk4 => k_asm); (case zqhp => (first | exact rfl | exact lit_7 | exact lit_1)); (case zqV => exact mkView (by k_mem) (by k_mem) (by k_mem) (by assumption) (by first | decide +kernel | exact text_fit (by assumption) (by assumption)) (by first | exact pos_b _ | decide)); (case zqk1 => k_asm); (case zqk2 => k_asm); (case zqk3 => k_asm); (case zqk5 => k_asm); (case zqkK => first | exact rfl | assumption); (case zqkd => ktr_room); (case zqku => ktr_units); k_whole; intro r' nw' h' tk' hp' F' N'; obtain ⟨_, _, _, _, hr9, hn9⟩ := hp'; subst hr9; subst hn9; (try k_sweep)))
  k_with "pyIter ref" => (k_here; (with_reducible show wpAny _ _ (pyIter (Value.ref _)) (fun it s₂ => LoopAtV _ _ _ _ _ _ [Stmt.Assign [PySem.Expr.Name (Str.ofString "_law_due") _] _ _] _ _ it s₂) _ _); (rename IsRange _ _ _ _ _ _ _ _ => rgX); k_dflt (refine' for_rows ?zqW (Str.ofString "_law_step") (Str.ofString "_law_due") (by decide) fwdL ?zqhh rgX ?zqhsm ?zqF ?zqN ?zqhy ?zqturndue ?zqdonedue; (case zqN => k_asm); (case zqF => k_asm); (case zqW => assumption); (case zqhh => exact rfl); (case zqhsm => exact small3 (by assumption)); (case zqhy => exact rfl); (case' zqturndue => (intro k' t' j' t2' h' tk' own' F' N'; try k_sweep)); (case' zqdonedue => (intro u' t' h' tk' F' N'; (try k_sweep)))))
  k_with "pyIter ref" => (k_here; (with_reducible show wpAny _ _ (pyIter (Value.ref _)) (fun it s₂ => LoopAtV _ _ _ _ _ _ [Stmt.Assign [PySem.Expr.Name (Str.ofString "_law_low") _] _ _] _ _ it s₂) _ _); (rename IsRange _ _ _ _ _ _ _ _ => rgX); k_dflt (refine' for_rows ?zqW (Str.ofString "_law_step") (Str.ofString "_law_low") (by decide) bwdL ?zqhh rgX ?zqhsm ?zqF ?zqN ?zqhy ?zqturnlow ?zqdonelow; (case zqN => k_asm); (case zqF => k_asm); (case zqW => assumption); (case zqhh => exact rfl); (case zqhsm => exact small3 (by assumption)); (case zqhy => exact rfl); (case' zqturnlow => (intro k' t' j' t2' h' tk' own' F' N'; try k_sweep)); (case' zqdonelow => (intro u' t' h' tk' F' N'; (try k_sweep)))))
  k_with "call type:list" => (k_here; (with_reducible show wpAny _ _ (call (Value.type _) [Value.ref _]) _ _ _); k_dflt (refine' list_copyK ?zqk1 ?zqk2 ?zqk3 ?_ ?zqz; (case zqk1 => k_asm); (case zqk2 => k_asm); (case zqk3 => exact my_list (by k_asm) (by k_mem)); (case zqz => exact text_ints (by assumption) (by assumption) (by assumption)); (intro D' c' h' F' N' l1; (try k_lt l1); (try k_sweep))))
  k_with "execs nil" => (k_here; with_reducible refine wpAny_execs_nil ?_)
  k_go0
  all_goals try k_fold
  all_goals (obtain ⟨M, hM⟩ : ∃ M, BigIs M := ⟨_, ⟨rfl⟩⟩)
  all_goals have hM0 := big_pos hM
  repeat' (first | (k_unfold; (try dsimp only)) | ((with_reducible show LEl _ _ _ _ _ _ _ _ _ _ _ _ _ _); exact lel (mem9 (by assumption)) (by k_asm) (cb_drop (by k_asm) (fun _ hp => .tail _ hp)) (by assumption) (by assumption)) | ((with_reducible show VEnd _ _ _ _ _ _ _ _); first | exact vend (by k_asm) (by k_asm) ⟨_, rfl⟩ | exact vend (by k_asm) (cb_drop (by k_asm) (fun _ hp => .tail _ (.tail _ hp))) ⟨_, by rw [sum_lens]; rfl⟩) | ((with_reducible show FEnd _ _ _ _ _ _ _ _ _ _ _); refine fend (by k_asm) (by k_asm) (fun _ hp => by first | exact hp | exact .tail _ hp) rfl (fun z h1 h2 => by simp only [h1, h2, if_false]) ?_; rfl) | ((with_reducible show TurnEnd _ _ _ _ _ _ _ _ Flow.next _); exact turnEnd (by k_asm) (by k_asm) (fun _ hp => by repeat (first | exact hp | refine List.Mem.tail _ ?_)) (by assumption) (by assumption) (by assumption)) | (k_end; exfalso; first | exact contra1 (by assumption) (by assumption) (by assumption) (by assumption) | exact contra2 (by assumption) (by assumption) (by assumption) (by assumption) | exact contra3 (by assumption) (by assumption) (by assumption) (by assumption)) | walk1 | (dsimp only; walk1) | (leave1; walk_say "STEP leave1"; try dsimp only) | fail "no step")
  all_goals (rw [law_end]; wrow_close))
end
end Mine
theorem PySem.Challenge.cw_np0017_01_holds : PySem.Challenge.rw_np0017_01.Holds := by
  exact Mine.t2
