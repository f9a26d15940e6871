import PyProof.Rows.All
import Wide.All
import OpenK.AllK
import Wide.FinOn
import Lean
import PySem.Challenge.RW_nt0264_01
set_option genSizeOf false
set_option genSizeOfSpec false
set_option tactic.hygienic false
set_option bootstrap.genMatcherCode false
set_option compiler.extract_closed false
set_option linter.unusedVariables false
set_option Elab.async false
set_option maxRecDepth 100000
set_option maxHeartbeats 4000000
namespace NT
def PM : Prop := False
theorem PM.go {G : Prop} (h : (G → PM) → PM) : G := Classical.byContradiction h
end NT
set_option hygiene false in
local macro_rules | `(tactic| walk_at "e") => `(tactic| first | (with_reducible show NT.PM) | (refine NT.PM.go fun hGP => ?_) | skip)
set_option hygiene false in
local macro_rules | `(tactic| walk_at "l") => `(tactic| first | (with_reducible show NT.PM; refine hGP ?_; clear hGP) | skip)
section
namespace NT
inductive Nd where
  | int (i : Int) | bool (b : Bool) | ctl (w : Int)
  | loc
  | glob (g : Int)
  | lam0 (b : Nd) | lam1 (b : Nd)
  | ite (t y n : Nd)
  | setg (g : Int) (v : Nd)
  | call0 (f : Nd) | call1 (f a : Nd) | call2 (f a b : Nd)
  | seq (a b : Nd)
inductive Vl where
  | int (i : Int) | bool (b : Bool) | ctl (w : Int) | clo0 (b : Nd) | clo1 (b : Nd) | cont | unspec
inductive Fm where
  | seq (a b : Nd)
  | test (t y n : Nd)
  | asg (g : Int) (v : Nd)
  | ops (nd : Nd) (done : List Vl)
  | cons (v : Vl)
inductive Md where
  | look (n : Nd)
  | call (v : Vl) (args : List Vl)
  | give (vs : List Vl)
structure St where
  md : Md
  fs : List Fm
  fl : Int → Bool
  st : Int
  dp : Int
noncomputable def St.len (σ : St) : Int := σ.fs.length
noncomputable abbrev up (fs : List Fm) (dp : Int) : Int := if (fs.length : Int) + 1 > dp then (fs.length : Int) + 1 else dp
inductive Step (B0 : Nd) (n : Int) : St → St → Prop
  | int {i fs fl st dp} : Step B0 n ⟨.look (.int i), fs, fl, st, dp⟩ ⟨.give [.int i], fs, fl, st + 1, dp⟩
  | bool {b fs fl st dp} : Step B0 n ⟨.look (.bool b), fs, fl, st, dp⟩ ⟨.give [.bool b], fs, fl, st + 1, dp⟩
  | ctl {w fs fl st dp} : Step B0 n ⟨.look (.ctl w), fs, fl, st, dp⟩ ⟨.give [.ctl w], fs, fl, st + 1, dp⟩
  | loc {fs fl st dp} : Step B0 n ⟨.look .loc, fs, fl, st, dp⟩ ⟨.give [.clo0 B0], fs, fl, st + 1, dp⟩
  | glob {g fs fl st dp} : 0 ≤ g → g < n → Step B0 n ⟨.look (.glob g), fs, fl, st, dp⟩ ⟨.give [.bool (fl g)], fs, fl, st + 1, dp⟩
  | lam0 {b fs fl st dp} : Step B0 n ⟨.look (.lam0 b), fs, fl, st, dp⟩ ⟨.give [.clo0 b], fs, fl, st + 1, dp⟩
  | lam1 {b fs fl st dp} : Step B0 n ⟨.look (.lam1 b), fs, fl, st, dp⟩ ⟨.give [.clo1 b], fs, fl, st + 1, dp⟩
  | ite {t y f fs fl st dp} : Step B0 n ⟨.look (.ite t y f), fs, fl, st, dp⟩ ⟨.look t, .test t y f :: fs, fl, st + 1, up fs dp⟩
  | setg {g v fs fl st dp} : Step B0 n ⟨.look (.setg g v), fs, fl, st, dp⟩ ⟨.look v, .asg g v :: fs, fl, st + 1, up fs dp⟩
  | call0 {f fs fl st dp} : Step B0 n ⟨.look (.call0 f), fs, fl, st, dp⟩ ⟨.look f, .ops (.call0 f) [] :: fs, fl, st + 1, up fs dp⟩
  | call1 {f a fs fl st dp} : Step B0 n ⟨.look (.call1 f a), fs, fl, st, dp⟩ ⟨.look f, .ops (.call1 f a) [] :: fs, fl, st + 1, up fs dp⟩
  | call2 {f a b fs fl st dp} : Step B0 n ⟨.look (.call2 f a b), fs, fl, st, dp⟩ ⟨.look f, .ops (.call2 f a b) [] :: fs, fl, st + 1, up fs dp⟩
  | seq {a b fs fl st dp} : Step B0 n ⟨.look (.seq a b), fs, fl, st, dp⟩ ⟨.look a, .seq a b :: fs, fl, st + 1, up fs dp⟩
  | hseq {a b v fs fl st dp} : Step B0 n ⟨.give [v], .seq a b :: fs, fl, st, dp⟩ ⟨.look b, fs, fl, st + 1, dp⟩
  | htest {t y f b fs fl st dp} : Step B0 n ⟨.give [.bool b], .test t y f :: fs, fl, st, dp⟩ ⟨.look (if b = true then y else f), fs, fl, st + 1, dp⟩
  | hasg {g v b fs fl st dp} : 0 ≤ g → g < n → Step B0 n ⟨.give [.bool b], .asg g v :: fs, fl, st, dp⟩ ⟨.give [.unspec], fs, fun x => if x = g then b else fl x, st + 1, dp⟩
  | hops0 {f v fs fl st dp} : Step B0 n ⟨.give [v], .ops (.call0 f) [] :: fs, fl, st, dp⟩ ⟨.call v [], fs, fl, st + 1, dp⟩
  | hops1a {f a v fs fl st dp} : Step B0 n ⟨.give [v], .ops (.call1 f a) [] :: fs, fl, st, dp⟩ ⟨.look a, .ops (.call1 f a) [v] :: fs, fl, st + 1, up fs dp⟩
  | hops1b {f a v u fs fl st dp} : Step B0 n ⟨.give [v], .ops (.call1 f a) [u] :: fs, fl, st, dp⟩ ⟨.call u [v], fs, fl, st + 1, dp⟩
  | hops2a {f a b v fs fl st dp} : Step B0 n ⟨.give [v], .ops (.call2 f a b) [] :: fs, fl, st, dp⟩ ⟨.look a, .ops (.call2 f a b) [v] :: fs, fl, st + 1, up fs dp⟩
  | hops2b {f a b v u fs fl st dp} : Step B0 n ⟨.give [v], .ops (.call2 f a b) [u] :: fs, fl, st, dp⟩ ⟨.look b, .ops (.call2 f a b) [u, v] :: fs, fl, st + 1, up fs dp⟩
  | hops2c {f a b v u w fs fl st dp} : Step B0 n ⟨.give [v], .ops (.call2 f a b) [u, w] :: fs, fl, st, dp⟩ ⟨.call u [w, v], fs, fl, st + 1, dp⟩
  | hcons {v x fs fl st dp} : Step B0 n ⟨.give [x], .cons v :: fs, fl, st, dp⟩ ⟨.call v [x], fs, fl, st + 1, dp⟩
  | clo0 {b fs fl st dp} : Step B0 n ⟨.call (.clo0 b) [], fs, fl, st, dp⟩ ⟨.look b, fs, fl, st + 1, dp⟩
  | clo1 {b v fs fl st dp} : Step B0 n ⟨.call (.clo1 b) [v], fs, fl, st, dp⟩ ⟨.look b, fs, fl, st + 1, dp⟩
  | ctl3 {v fs fl st dp} : Step B0 n ⟨.call (.ctl 3) [v], fs, fl, st, dp⟩ ⟨.call v [.cont], fs, fl, st + 1, dp⟩
  | ctl2 {u v fs fl st dp} : Step B0 n ⟨.call (.ctl 2) [u, v], fs, fl, st, dp⟩ ⟨.call u [], .cons v :: fs, fl, st + 1, up fs dp⟩
theorem Step.st {B0 : Nd} {n : Int} {σ τ : St} (h : Step B0 n σ τ) : τ.st = σ.st + 1 := by cases h <;> rfl
inductive Runs (B0 : Nd) (n : Int) : Nat → St → St → Prop
  | nil {σ} : Runs B0 n 0 σ σ
  | cons {k σ τ ρ} : Step B0 n σ τ → Runs B0 n k τ ρ → Runs B0 n (k + 1) σ ρ
section
variable {B0 : Nd} {n : Int}
theorem Runs.trans {j k : Nat} {σ τ ρ : St} (h : Runs B0 n j σ τ) (r : Runs B0 n k τ ρ) : Runs B0 n (j + k) σ ρ := by
  walk_at "l"; induction h with
  | nil => walk_at "l"; rw [Nat.zero_add]; exact r
  | cons s _ ih => walk_at "l"; rw [Nat.add_right_comm]; exact .cons s (ih r)
theorem Runs.st {k : Nat} {σ τ : St} (h : Runs B0 n k σ τ) : τ.st = σ.st + k := by
  walk_at "l"; induction h with
  | nil => walk_at "l"; simp
  | cons s _ ih => walk_at "l"; rw [ih, s.st]; lia
theorem Runs.one {σ τ : St} (h : Step B0 n σ τ) : Runs B0 n 1 σ τ := .cons h .nil
theorem Runs.to {k : Nat} {σ τ τ' : St} (h : Runs B0 n k σ τ) (e : τ = τ') : Runs B0 n k σ τ' := e ▸ h
noncomputable def wrap (w : Int) (nd : Nd) : Nd :=
  if w = 0 then .seq (.int 5) nd
  else if w = 1 then .ite (.bool false) (.int 6) nd
  else if w = 2 then .call0 (.lam0 nd)
  else if w = 3 then .call1 (.ctl 3) (.lam1 nd)
  else .call2 (.ctl 2) (.lam0 (.int 4)) (.lam1 nd)
noncomputable def wcost (w : Int) : Nat := if w = 0 then 3 else if w = 1 then 3 else if w = 2 then 4 else if w = 3 then 7 else 12
noncomputable def within : List Int → Nd → Nd
  | [], nd => nd
  | w :: ws, nd => within ws (wrap w nd)
noncomputable def wcosts (ws : List Int) : Nat := (ws.map wcost).sum
theorem up_id {fs : List Fm} {dp : Int} (h : (fs.length : Int) + 1 ≤ dp) : up fs dp = dp := by unfold up; rw [if_neg (by lia)]
theorem runs_wrap (w : Int) (nd : Nd) (fs : List Fm) (fl : Int → Bool) (st dp : Int) (h : (fs.length : Int) + 1 ≤ dp) :
    Runs B0 n (wcost w) ⟨.look (wrap w nd), fs, fl, st, dp⟩ ⟨.look nd, fs, fl, st + wcost w, dp⟩ := by
  walk_at "l"; unfold wrap wcost
  walk_at "l"; split
  · walk_at "l"; refine Runs.to (.cons .seq (.cons .int (.cons .hseq .nil))) ?_
    walk_at "l"; simp only [up_id h]; congr 1; lia
  walk_at "l"; split
  · walk_at "l"; refine Runs.to (.cons .ite (.cons .bool (.cons .htest .nil))) ?_
    walk_at "l"; simp only [up_id h, Bool.false_eq_true, if_false]; congr 1; lia
  walk_at "l"; split
  · walk_at "l"; refine Runs.to (.cons .call0 (.cons .lam0 (.cons .hops0 (.cons .clo0 .nil)))) ?_
    walk_at "l"; simp only [up_id h]; congr 1; lia
  walk_at "l"; split
  · walk_at "l"; refine Runs.to (.cons .call1 (.cons .ctl (.cons .hops1a (.cons .lam1 (.cons .hops1b (.cons .ctl3 (.cons .clo1 .nil))))))) ?_
    walk_at "l"; simp only [up_id h]; congr 1; lia
  · walk_at "l"; refine Runs.to (.cons .call2 (.cons .ctl (.cons .hops2a (.cons .lam0 (.cons .hops2b (.cons .lam1 (.cons .hops2c (.cons .ctl2 (.cons .clo0 (.cons .int (.cons .hcons (.cons .clo1 .nil)))))))))))) ?_
    walk_at "l"; simp only [up_id h]; congr 1; lia
theorem runs_within (ws : List Int) : ∀ (nd : Nd) (fs : List Fm) (fl : Int → Bool) (st dp : Int), (fs.length : Int) + 1 ≤ dp →
    Runs B0 n (wcosts ws) ⟨.look (within ws nd), fs, fl, st, dp⟩ ⟨.look nd, fs, fl, st + wcosts ws, dp⟩ := by
  walk_at "l"; induction ws with
  | nil => walk_at "l"; intro nd fs fl st dp _; refine Runs.to .nil ?_; simp [within, wcosts]
  | cons w ws ih =>
    walk_at "l"; intro nd fs fl st dp h
    have e : wcosts (w :: ws) = wcosts ws + wcost w := by simp [wcosts, Nat.add_comm]
    walk_at "l"; rw [e]
    walk_at "l"; refine Runs.to ((ih (wrap w nd) fs fl st dp h).trans (runs_wrap w nd fs fl _ dp h)) ?_
    walk_at "l"; congr 1; lia
noncomputable def again (isLast : Bool) : Nd := if isLast then .call0 .loc else .seq (.call0 .loc) (.int 7)
noncomputable def ecost (isLast : Bool) : Nat := if isLast then 4 else 7
noncomputable def bodyN (ws : List Int) (isLast : Bool) : Nat → Nd
  | 0 => .int 7
  | k + 1 => .ite (.glob k) (.seq (.setg k (.bool false)) (within ws (again isLast))) (bodyN ws isLast k)
end
section
variable {n : Nat} {ws : List Int} {isLast : Bool} {B0 : Nd}
theorem Step.htest' {t y f : Nd} {b : Bool} {fs : List Fm} {fl : Int → Bool} {st dp : Int} {x : Nd} (e : (if b = true then y else f) = x) :
    Step B0 n ⟨.give [.bool b], .test t y f :: fs, fl, st, dp⟩ ⟨.look x, fs, fl, st + 1, dp⟩ := e ▸ Step.htest
theorem runs_test {g : Int} {y f x : Nd} {b : Bool} {fs : List Fm} {fl : Int → Bool} {st dp : Int} (h0 : 0 ≤ g) (h1 : g < n) (h : (fs.length : Int) + 1 ≤ dp) (hb : fl g = b) (e : (if b = true then y else f) = x) :
    Runs B0 n 3 ⟨.look (.ite (.glob g) y f), fs, fl, st, dp⟩ ⟨.look x, fs, fl, st + 3, dp⟩ := by
  walk_at "l"; refine Runs.to (.cons .ite (.cons (.glob h0 h1) (.cons (Step.htest' (hb ▸ e)) .nil))) ?_
  walk_at "l"; rw [up_id h]; congr 1; lia
theorem runs_down (k : Nat) : ∀ (j : Nat) (fs : List Fm) (fl : Int → Bool) (st dp : Int), k + j ≤ n → (fs.length : Int) + 1 ≤ dp → (∀ g : Nat, k ≤ g → g < k + j → fl g = false) →
    Runs B0 n (3 * j) ⟨.look (bodyN ws isLast (k + j)), fs, fl, st, dp⟩ ⟨.look (bodyN ws isLast k), fs, fl, st + (3 * j : Nat), dp⟩ := by
  walk_at "l"; intro j
  walk_at "l"; induction j with
  | zero => walk_at "l"; intro fs fl st dp _ _ _; refine Runs.to .nil ?_; simp
  | succ j ih =>
    walk_at "l"; intro fs fl st dp hn h hf
    have e : 3 * (j + 1) = 3 + 3 * j := by lia
    walk_at "l"; rw [e, ← Nat.add_assoc]
    walk_at "l"; refine Runs.to ((runs_test (by lia) (by lia) h (hf (k + j) (by lia) (by lia)) (by simp)).trans (ih fs fl (st + 3) dp (by lia) h (fun g a b => hf g a (by lia)))) ?_
    walk_at "l"; congr 1; lia
theorem runs_turn (k : Nat) (fs : List Fm) (fl : Int → Bool) (st dp : Int) (hn : k < n) (h : (fs.length : Int) + 1 ≤ dp) (hf : fl k = true) :
    Runs B0 n (3 + 5 + wcosts ws) ⟨.look (bodyN ws isLast (k + 1)), fs, fl, st, dp⟩
      ⟨.look (again isLast), fs, fun x => if x = (k : Int) then false else fl x, st + (3 + 5 + wcosts ws : Nat), if (fs.length : Int) + 2 > dp then (fs.length : Int) + 2 else dp⟩ := by
  walk_at "l"; refine Runs.to (((runs_test (by lia) (by lia) h hf (if_pos rfl)).trans
    (Runs.cons .seq (.cons .setg (.cons .bool (.cons (.hasg (by lia) (by lia)) (.cons .hseq .nil)))))).trans
    (runs_within ws (again isLast) fs _ _ _ (?_ : (fs.length : Int) + 1 ≤ up (.seq _ _ :: fs) (up fs dp)))) ?_
  · walk_at "l"; rw [up_id h]; unfold up; simp only [List.length_cons]; split <;> lia
  · have e : up (.seq (.setg k (.bool false)) (within ws (again isLast)) :: fs) (up fs dp) = if (fs.length : Int) + 2 > dp then (fs.length : Int) + 2 else dp := by
      walk_at "l"; rw [up_id h]; unfold up; simp only [List.length_cons]; split <;> split <;> lia
    walk_at "l"; rw [e]; congr 1; lia
noncomputable def turns (c n : Nat) : Nat → Nat → Nat
  | 0, _ => 3 * n + 1
  | u + 1, j => 3 * j + 3 + c + turns c n u (j + 1)
noncomputable def top (x : Int) (dp : Int) : Int := if x > dp then x else dp
theorem runs_last (u : Nat) : ∀ (lo j : Nat) (fs : List Fm) (fl : Int → Bool) (st dp : Int), lo + u + j = n → (fs.length : Int) + 1 ≤ dp → (∀ g : Nat, g < n → fl g = decide (lo ≤ g ∧ g < lo + u)) →
    B0 = bodyN ws true n →
    ∃ fl', (∀ g : Nat, g < n → fl' g = false) ∧
    Runs B0 n (turns (5 + wcosts ws + 4) n u j) ⟨.look (bodyN ws true n), fs, fl, st, dp⟩
      ⟨.give [.int 7], fs, fl', st + (turns (5 + wcosts ws + 4) n u j : Nat), if u = 0 then dp else top (fs.length + 2) dp⟩ := by
  walk_at "l"; induction u with
  | zero =>
    walk_at "l"; intro lo j fs fl st dp hn hd hf hB
    walk_at "l"; refine ⟨fl, fun g hg => by rw [hf g hg]; exact decide_eq_false (by lia), ?_⟩
    have r := (runs_down (B0 := B0) (n := n) (ws := ws) (isLast := true) 0 n fs fl st dp (by lia) hd (fun g zz hg => by rw [hf g (by lia)]; exact decide_eq_false (by lia))).trans (Runs.one (Step.int (i := 7)))
    rw [Nat.zero_add] at r
    walk_at "l"; refine Runs.to r ?_
    walk_at "l"; simp only [turns, if_true]; congr 1; lia
  | succ u ih =>
    walk_at "l"; intro lo j fs fl st dp hn hd hf hB
    have hb : n = lo + u + 1 + j := by lia
    have r1 := runs_down (B0 := B0) (n := n) (ws := ws) (isLast := true) (lo + u + 1) j fs fl st dp (by lia) hd (fun g zz hg => by rw [hf g (by lia)]; simp; lia)
    rw [← hb] at r1
    have r2 := runs_turn (B0 := B0) (n := n) (ws := ws) (isLast := true) (lo + u) fs fl (st + (3 * j : Nat)) dp (by lia) hd (by rw [hf (lo + u) (by lia)]; simp)
    walk_at "l"; obtain ⟨fl', hf', r4⟩ := ih lo (j + 1) fs (fun x => if x = ((lo + u : Nat) : Int) then false else fl x) (st + (3 * j : Nat) + (3 + 5 + wcosts ws : Nat) + 4) (top (fs.length + 2) dp) (by lia) (by unfold top; split <;> lia)
      (fun g hg => by
        walk_at "e"; by_cases e : (g : Int) = ((lo + u : Nat) : Int)
        · walk_at "l"; simp only [e, if_true]; symm; simp; lia
        · walk_at "l"; simp only [e, if_false]; rw [hf g hg]; congr 1; simp; lia) hB
    have r3 : Runs B0 n 4 ⟨.look (again true), fs, fun x => if x = ((lo + u : Nat) : Int) then false else fl x, st + (3 * j : Nat) + (3 + 5 + wcosts ws : Nat), top (fs.length + 2) dp⟩
        ⟨.look (bodyN ws true n), fs, fun x => if x = ((lo + u : Nat) : Int) then false else fl x, st + (3 * j : Nat) + (3 + 5 + wcosts ws : Nat) + 4, top (fs.length + 2) dp⟩ := by
      walk_at "l"; refine Runs.to (.cons .call0 (.cons .loc (.cons .hops0 (.cons .clo0 .nil)))) ?_
      walk_at "l"; rw [up_id (by unfold top; split <;> lia), hB]; congr 1; lia
    walk_at "l"; refine ⟨fl', hf', ?_⟩
    have e : turns (5 + wcosts ws + 4) n (u + 1) j = 3 * j + (3 + 5 + wcosts ws) + 4 + turns (5 + wcosts ws + 4) n u (j + 1) := by simp only [turns]; lia
    walk_at "l"; rw [e]
    walk_at "l"; refine Runs.to (((r1.trans r2).trans r3).trans r4) ?_
    have d : (if u = 0 then top (fs.length + 2) dp else top (fs.length + 2) (top (fs.length + 2) dp)) = top (fs.length + 2) dp := by unfold top; (repeat' split) <;> lia
    walk_at "l"; rw [d, if_neg (by lia)]; congr 1; lia
theorem runs_mid (u : Nat) : ∀ (lo j : Nat) (fs : List Fm) (fl : Int → Bool) (st dp : Int), lo + u + j = n → (fs.length : Int) + 1 ≤ dp → (∀ g : Nat, g < n → fl g = decide (lo ≤ g ∧ g < lo + u)) →
    B0 = bodyN ws false n →
    ∃ fl', (∀ g : Nat, g < n → fl' g = false) ∧
    Runs B0 n (turns (5 + wcosts ws + 7) n u j) ⟨.look (bodyN ws false n), fs, fl, st, dp⟩
      ⟨.give [.int 7], fs, fl', st + (turns (5 + wcosts ws + 7) n u j : Nat), if u = 0 then dp else top (fs.length + 1 + u) dp⟩ := by
  walk_at "l"; induction u with
  | zero =>
    walk_at "l"; intro lo j fs fl st dp hn hd hf hB
    walk_at "l"; refine ⟨fl, fun g hg => by rw [hf g hg]; exact decide_eq_false (by lia), ?_⟩
    have r := (runs_down (B0 := B0) (n := n) (ws := ws) (isLast := false) 0 n fs fl st dp (by lia) hd (fun g zz hg => by rw [hf g (by lia)]; exact decide_eq_false (by lia))).trans (Runs.one (Step.int (i := 7)))
    rw [Nat.zero_add] at r
    walk_at "l"; refine Runs.to r ?_
    walk_at "l"; simp only [turns, if_true]; congr 1; lia
  | succ u ih =>
    walk_at "l"; intro lo j fs fl st dp hn hd hf hB
    have hb : n = lo + u + 1 + j := by lia
    have r1 := runs_down (B0 := B0) (n := n) (ws := ws) (isLast := false) (lo + u + 1) j fs fl st dp (by lia) hd (fun g zz hg => by rw [hf g (by lia)]; simp; lia)
    rw [← hb] at r1
    have r2 := runs_turn (B0 := B0) (n := n) (ws := ws) (isLast := false) (lo + u) fs fl (st + (3 * j : Nat)) dp (by lia) hd (by rw [hf (lo + u) (by lia)]; simp)
    walk_at "l"; obtain ⟨fl', hf', r4⟩ := ih lo (j + 1) (.seq (.call0 .loc) (.int 7) :: fs) (fun x => if x = ((lo + u : Nat) : Int) then false else fl x) (st + (3 * j : Nat) + (3 + 5 + wcosts ws : Nat) + 5) (top (fs.length + 2) dp) (by lia) (by unfold top; simp only [List.length_cons]; split <;> lia)
      (fun g hg => by
        walk_at "e"; by_cases e : (g : Int) = ((lo + u : Nat) : Int)
        · walk_at "l"; simp only [e, if_true]; symm; simp; lia
        · walk_at "l"; simp only [e, if_false]; rw [hf g hg]; congr 1; simp; lia) hB
    have r3 : Runs B0 n 5 ⟨.look (again false), fs, fun x => if x = ((lo + u : Nat) : Int) then false else fl x, st + (3 * j : Nat) + (3 + 5 + wcosts ws : Nat), top (fs.length + 2) dp⟩
        ⟨.look (bodyN ws false n), .seq (.call0 .loc) (.int 7) :: fs, fun x => if x = ((lo + u : Nat) : Int) then false else fl x, st + (3 * j : Nat) + (3 + 5 + wcosts ws : Nat) + 5, top (fs.length + 2) dp⟩ := by
      walk_at "l"; refine Runs.to (.cons .seq (.cons .call0 (.cons .loc (.cons .hops0 (.cons .clo0 .nil))))) ?_
      walk_at "l"; rw [up_id (fs := fs) (by unfold top; split <;> lia), up_id (by unfold top; simp only [List.length_cons]; split <;> lia), hB]; congr 1; lia
    walk_at "l"; refine ⟨fl', hf', ?_⟩
    have e : turns (5 + wcosts ws + 7) n (u + 1) j = 3 * j + (3 + 5 + wcosts ws) + 5 + turns (5 + wcosts ws + 7) n u (j + 1) + 1 + 1 := by simp only [turns]; lia
    walk_at "l"; rw [e]
    walk_at "l"; refine Runs.to ((((r1.trans r2).trans r3).trans r4).trans (Runs.one .hseq) |>.trans (Runs.one .int)) ?_
    have d : (if u = 0 then top (fs.length + 2) dp else top (((Fm.seq (.call0 .loc) (.int 7) :: fs).length : Int) + 1 + u) (top (fs.length + 2) dp)) = top (fs.length + 1 + (u + 1 : Nat)) dp := by
      walk_at "l"; simp only [List.length_cons]; unfold top; (repeat' split) <;> lia
    walk_at "l"; rw [d, if_neg (by lia)]; congr 1; lia
end
noncomputable def costOf (isLast : Bool) (ws : List Int) (n u : Nat) : Nat := 4 + turns (5 + wcosts ws + (if isLast then 4 else 7)) n u 0
noncomputable def deepOf (isLast : Bool) (u : Nat) : Int := if isLast then 2 else u + 1
theorem runs_whole (isLast : Bool) (ws : List Int) (n u : Nat) (fl : Int → Bool) (hu : 0 < u) (hn : u ≤ n) (hf : ∀ g : Nat, g < n → fl g = decide (n - u ≤ g)) :
    ∃ fl', (∀ g : Nat, g < n → fl' g = false) ∧
    Runs (bodyN ws isLast n) n (costOf isLast ws n u) ⟨.look (.call0 .loc), [], fl, 1, 0⟩ ⟨.give [.int 7], [], fl', 1 + (costOf isLast ws n u : Nat), deepOf isLast u⟩ := by
  have r0 : Runs (bodyN ws isLast n) n 4 ⟨.look (.call0 .loc), [], fl, 1, 0⟩ ⟨.look (bodyN ws isLast n), [], fl, 5, 1⟩ :=
    Runs.to (.cons .call0 (.cons .loc (.cons .hops0 (.cons .clo0 .nil)))) rfl
  walk_at "e"; cases isLast with
  | true =>
    walk_at "e"; obtain ⟨fl', h', r⟩ := runs_last (n := n) (ws := ws) (B0 := bodyN ws true n) u (n - u) 0 [] fl 5 1 (by lia) (by simp) (fun g hg => by rw [hf g hg]; congr 1; simp; lia) rfl
    walk_at "l"; refine ⟨fl', h', Runs.to (r0.trans r) ?_⟩
    walk_at "l"; unfold costOf deepOf top
    walk_at "l"; rw [if_neg (by lia)]; simp; lia
  | false =>
    walk_at "e"; obtain ⟨fl', h', r⟩ := runs_mid (n := n) (ws := ws) (B0 := bodyN ws false n) u (n - u) 0 [] fl 5 1 (by lia) (by simp) (fun g hg => by rw [hf g hg]; congr 1; simp; lia) rfl
    walk_at "l"; refine ⟨fl', h', Runs.to (r0.trans r) ?_⟩
    walk_at "l"; unfold costOf deepOf top
    walk_at "l"; rw [if_neg (by lia), if_pos (by simp; lia)]; simp; lia
theorem turns_mono (c n : Nat) : ∀ u j, turns c n u j < turns c n (u + 1) j
  | 0, j => by simp only [turns]; lia
  | u + 1, j => by
    have := turns_mono c n u (j + 1)
    walk_at "l"; rw [turns, turns]; lia
theorem turns_lt (c n : Nat) (u v j : Nat) (h : u < v) : turns c n u j < turns c n v j := by
  walk_at "l"; induction h with
  | refl => walk_at "l"; exact turns_mono c n u j
  | step _ ih => walk_at "l"; exact Nat.lt_trans ih (turns_mono c n _ j)
theorem cost_lt (isLast : Bool) (ws : List Int) (n u v : Nat) (h : u < v) : costOf isLast ws n u < costOf isLast ws n v := Nat.add_lt_add_left (turns_lt _ n u v 0 h) _
theorem wcost_le (w : Int) : wcost w ≤ 12 := by
  walk_at "l"; unfold wcost
  (repeat' split) <;> lia
theorem wcosts_le (ws : List Int) : wcosts ws ≤ 12 * ws.length := by
  walk_at "l"; induction ws with
  | nil => walk_at "l"; simp [wcosts]
  | cons w ws ih => have := wcost_le w; simp only [wcosts, List.map_cons, List.sum_cons, List.length_cons] at ih ⊢; lia
theorem turns_le (c n N : Nat) : ∀ u j, j + u ≤ N → turns c n u j ≤ u * (3 * N + c) + 3 * n + 1
  | 0, j, _ => by simp [turns]
  | u + 1, j, h => by
    have h1 := turns_le c n N u (j + 1) (by lia)
    walk_at "l"; simp only [turns, Nat.add_mul u 1, Nat.one_mul]
    walk_at "l"; generalize u * (3 * N + c) = x at h1 ⊢
    walk_at "l"; lia
theorem cost_le (isLast : Bool) (ws : List Int) (n u : Nat) (hn : n ≤ 7) (hu : u ≤ n) (hw : ws.length ≤ 4) : costOf isLast ws n u ≤ 5000 := by
  have h1 := wcosts_le ws
  walk_at "l"; unfold costOf
  have h2 := turns_le (5 + wcosts ws + (if isLast then 4 else 7)) n 7 u 0 (by lia)
  have h3 : (if isLast = true then 4 else 7) ≤ 7 := by split <;> lia
  have h4 : u * (3 * 7 + (5 + wcosts ws + (if isLast = true then 4 else 7))) ≤ 7 * 81 := Nat.mul_le_mul (by lia) (by lia)
  walk_at "l"; lia
end NT
end
set_option genInjectivity false
section
open PySem PySem.W PySem.Calls PyProof.Rows
namespace NT
noncomputable abbrev kh (P : Params) (x : Str) : Int := PyData.keyHash P x
noncomputable abbrev p264 : Program := PySem.Challenge.pw_nt0264_01
noncomputable def st1 (i : Nat) : Stmt := p264.main.body[i]!
noncomputable def inCls : Stmt → List Stmt
  | .ClassDef _ _ _ b .. => b
  | _ => []
noncomputable def fnObj (s : Stmt) (qual : Str) (d : Option Addr) (dV kV doc pm : Value) (an : Option Addr) (cd ct : Value) : Obj := match s with
  | .FunctionDef n ar b _ _ _ sc _ _ _ => ⟨.type "function", d, .func (fnOf n qual ar b sc dV kV doc pm an cd ct), #[]⟩
  | _ => ⟨.none, none, .plain, #[]⟩
noncomputable def sc0 : Scope := p264.main.scope
noncomputable def s_0 : Stmt := st1 0
noncomputable def s_1 : Stmt := st1 1
noncomputable def s_2 : Stmt := st1 2
noncomputable def s_3 : Stmt := st1 3
noncomputable def s_4 : Stmt := st1 4
noncomputable def s_5 : Stmt := st1 5
noncomputable def s_6 : Stmt := st1 6
noncomputable def s_7 : Stmt := st1 7
noncomputable def s_8 : Stmt := st1 8
noncomputable def s_9 : Stmt := st1 9
noncomputable def s_10 : Stmt := st1 10
noncomputable def s_11 : Stmt := st1 11
noncomputable def s_12 : Stmt := st1 12
noncomputable def s_13 : Stmt := st1 13
noncomputable def s_14 : Stmt := st1 14
noncomputable def s_15 : Stmt := st1 15
noncomputable def s_16 : Stmt := st1 16
noncomputable def s_17 : Stmt := st1 17
noncomputable def s_18 : Stmt := st1 18
noncomputable def s_19 : Stmt := st1 19
noncomputable def s_20 : Stmt := st1 20
noncomputable def s_21 : Stmt := st1 21
noncomputable def s_22 : Stmt := st1 22
noncomputable def s_23 : Stmt := st1 23
noncomputable def s_24 : Stmt := st1 24
noncomputable def s_25 : Stmt := st1 25
noncomputable def s_26 : Stmt := st1 26
noncomputable def s_27 : Stmt := st1 27
noncomputable def s_28 : Stmt := st1 28
noncomputable def s_29 : Stmt := st1 29
noncomputable def s_30 : Stmt := st1 30
noncomputable def s_31 : Stmt := st1 31
noncomputable def s_32 : Stmt := st1 32
noncomputable def s_33 : Stmt := st1 33
noncomputable def s_34 : Stmt := st1 34
noncomputable def s_35 : Stmt := st1 35
noncomputable def s_36 : Stmt := st1 36
noncomputable def s_37 : Stmt := st1 37
noncomputable def s_38 : Stmt := st1 38
noncomputable def s_39 : Stmt := st1 39
noncomputable def s_40 : Stmt := st1 40
noncomputable def s_41 : Stmt := st1 41
noncomputable def s_42 : Stmt := st1 42
noncomputable def s_43 : Stmt := st1 43
noncomputable def s_44 : Stmt := st1 44
noncomputable def s_45 : Stmt := st1 45
noncomputable def s_46 : Stmt := st1 46
noncomputable def s_47 : Stmt := st1 47
noncomputable def s_48 : Stmt := st1 48
noncomputable def s_49 : Stmt := st1 49
noncomputable def s_50 : Stmt := st1 50
noncomputable def s_51 : Stmt := st1 51
noncomputable def s_52 : Stmt := st1 52
noncomputable def s_53 : Stmt := st1 53
noncomputable def s_54 : Stmt := st1 54
noncomputable def s_55 : Stmt := st1 55
noncomputable def s_56 : Stmt := st1 56
noncomputable def s_57 : Stmt := st1 57
noncomputable def s_58 : Stmt := st1 58
noncomputable def s_59 : Stmt := st1 59
noncomputable def s_60 : Stmt := st1 60
noncomputable def s_61 : Stmt := st1 61
noncomputable def s_62 : Stmt := st1 62
noncomputable def s_63 : Stmt := st1 63
noncomputable def s_64 : Stmt := st1 64
noncomputable def s_65 : Stmt := st1 65
noncomputable def s_66 : Stmt := st1 66
noncomputable def s_67 : Stmt := st1 67
noncomputable def s_68 : Stmt := st1 68
noncomputable def s_69 : Stmt := st1 69
noncomputable def s_70 : Stmt := st1 70
noncomputable def s_71 : Stmt := st1 71
noncomputable def s_72 : Stmt := st1 72
noncomputable def s_73 : Stmt := st1 73
noncomputable def s_74 : Stmt := st1 74
noncomputable def s_75 : Stmt := st1 75
noncomputable def s_76 : Stmt := st1 76
noncomputable def s_77 : Stmt := st1 77
noncomputable def s_78 : Stmt := st1 78
noncomputable def s_79 : Stmt := st1 79
noncomputable def s_80 : Stmt := st1 80
noncomputable def s_81 : Stmt := st1 81
noncomputable def s_82 : Stmt := st1 82
noncomputable def s_83 : Stmt := st1 83
noncomputable def s_84 : Stmt := st1 84
noncomputable def s_85 : Stmt := st1 85
noncomputable def s_86 : Stmt := st1 86
noncomputable def s_87 : Stmt := st1 87
noncomputable def s_88 : Stmt := st1 88
noncomputable def s_89 : Stmt := st1 89
noncomputable def s_90 : Stmt := st1 90
noncomputable def s_91 : Stmt := st1 91
noncomputable def s_92 : Stmt := st1 92
noncomputable def s_93 : Stmt := st1 93
noncomputable def s_94 : Stmt := st1 94
noncomputable def s_95 : Stmt := st1 95
noncomputable def s_96 : Stmt := st1 96
noncomputable def s_97 : Stmt := st1 97
noncomputable def s_98 : Stmt := st1 98
noncomputable def s_99 : Stmt := st1 99
noncomputable def s_100 : Stmt := st1 100
noncomputable def s_101 : Stmt := st1 101
noncomputable def s_102 : Stmt := st1 102
noncomputable def s_103 : Stmt := st1 103
theorem body_eq : p264.main.body = [s_0, s_1, s_2, s_3, s_4, s_5, s_6, s_7, s_8, s_9, s_10, s_11, s_12, s_13, s_14, s_15, s_16, s_17, s_18, s_19, s_20, s_21, s_22, s_23, s_24, s_25, s_26, s_27, s_28, s_29, s_30, s_31, s_32, s_33, s_34, s_35, s_36, s_37, s_38, s_39, s_40, s_41, s_42, s_43, s_44, s_45, s_46, s_47, s_48, s_49, s_50, s_51, s_52, s_53, s_54, s_55, s_56, s_57, s_58, s_59, s_60, s_61, s_62, s_63, s_64, s_65, s_66, s_67, s_68, s_69, s_70, s_71, s_72, s_73, s_74, s_75, s_76, s_77, s_78, s_79, s_80, s_81, s_82, s_83, s_84, s_85, s_86, s_87, s_88, s_89, s_90, s_91, s_92, s_93, s_94, s_95, s_96, s_97, s_98, s_99, s_100, s_101, s_102, s_103] := by kernel_rfl
noncomputable def o_2 (P : Params) : Obj := ⟨.none, none, (.dict #[⟨(kh P "type.__subclasses__.Exception.0"), (.str "type.__subclasses__.Exception.0" 542), (.int 270 0)⟩, ⟨(kh P "type.__subclasses__.Exception.n"), (.str "type.__subclasses__.Exception.n" 543), (.int 3 0)⟩, ⟨(kh P "type.__subclasses__.Exception.1"), (.str "type.__subclasses__.Exception.1" 750), (.int 423 0)⟩, ⟨(kh P "type.__subclasses__.Exception.2"), (.str "type.__subclasses__.Exception.2" 781), (.int 443 0)⟩] 4), #[]⟩
noncomputable def o_3 (P : Params) : Obj := ⟨(.type "dict"), none, (.dict #[⟨(kh P "__name__"), (.str "__name__" 165), (.str "law_nt0264_01" 2420)⟩, ⟨(kh P "__doc__"), (.str "__doc__" 166), .none⟩, ⟨(kh P "__package__"), (.str "__package__" 167), .none⟩, ⟨(kh P "__loader__"), (.str "__loader__" 168), (.builtin "__main__.__loader__#opaque")⟩, ⟨(kh P "__spec__"), (.str "__spec__" 169), .none⟩, ⟨(kh P "__annotations__"), (.str "__annotations__" 170), (.ref 6)⟩, ⟨(kh P "__builtins__"), (.str "__builtins__" 171), (.ref 4)⟩, ⟨(kh P "__file__"), (.str "__file__" 173), (.str "/claim/cut.py" 172)⟩, ⟨(kh P "__cached__"), (.str "__cached__" 174), .none⟩, ⟨(kh P "_wall"), (.str "_wall" 193), (.ref 21)⟩, ⟨(kh P "Special"), (.str "Special" 224), (.ref 38)⟩, ⟨(kh P "EMPTY"), (.str "EMPTY" 230), (.ref 44)⟩, ⟨(kh P "UNSPECIFIED"), (.str "UNSPECIFIED" 236), (.ref 47)⟩, ⟨(kh P "UNASSIGNED"), (.str "UNASSIGNED" 242), (.ref 50)⟩, ⟨(kh P "Symbol"), (.str "Symbol" 273), (.ref 68)⟩, ⟨(kh P "SymbolTable"), (.str "SymbolTable" 351), (.ref 131)⟩, ⟨(kh P "Pair"), (.str "Pair" 382), (.ref 152)⟩, ⟨(kh P "Char"), (.str "Char" 411), (.ref 173)⟩, ⟨(kh P "PortRef"), (.str "PortRef" 440), (.ref 194)⟩, ⟨(kh P "Procedure"), (.str "Procedure" 469), (.ref 215)⟩, ⟨(kh P "Primitive"), (.str "Primitive" 495), (.ref 236)⟩, ⟨(kh P "list_of"), (.str "list_of" 505), (.ref 246)⟩, ⟨(kh P "is_true"), (.str "is_true" 512), (.ref 253)⟩, ⟨(kh P "SchemeError"), (.str "SchemeError" 545), (.ref 270)⟩, ⟨(kh P "Unbound"), (.str "Unbound" 570), (.ref 290)⟩, ⟨(kh P "Unassigned"), (.str "Unassigned" 593), (.ref 309)⟩, ⟨(kh P "NotProcedure"), (.str "NotProcedure" 618), (.ref 328)⟩, ⟨(kh P "WrongArity"), (.str "WrongArity" 645), (.ref 347)⟩, ⟨(kh P "WrongValues"), (.str "WrongValues" 670), (.ref 366)⟩, ⟨(kh P "WrongKind"), (.str "WrongKind" 699), (.ref 385)⟩, ⟨(kh P "OutOfSteps"), (.str "OutOfSteps" 724), (.ref 404)⟩, ⟨(kh P "MachineFault"), (.str "MachineFault" 753), (.ref 423)⟩, ⟨(kh P "CoreError"), (.str "CoreError" 784), (.ref 443)⟩, ⟨(kh P "APPLY"), (.str "APPLY" 788), (.int 0 787)⟩, ⟨(kh P "VALUES"), (.str "VALUES" 790), (.int 1 789)⟩, ⟨(kh P "CALL_WITH_VALUES"), (.str "CALL_WITH_VALUES" 792), (.int 2 791)⟩, ⟨(kh P "CALL_CC"), (.str "CALL_CC" 794), (.int 3 793)⟩, ⟨(kh P "CONTROLS"), (.str "CONTROLS" 809), (.ref 451)⟩, ⟨(kh P "ControlPrimitive"), (.str "ControlPrimitive" 834), (.ref 468)⟩, ⟨(kh P "control_row"), (.str "control_row" 841), (.ref 477)⟩, ⟨(kh P "control_name"), (.str "control_name" 848), (.ref 484)⟩, ⟨(kh P "count_fits"), (.str "count_fits" 857), (.ref 491)⟩, ⟨(kh P "check_control"), (.str "check_control" 868), (.ref 498)⟩, ⟨(kh P "list_values"), (.str "list_values" 879), (.ref 505)⟩, ⟨(kh P "spread"), (.str "spread" 889), (.ref 512)⟩, ⟨(kh P "CONST"), (.str "CONST" 893), (.int 0 892)⟩, ⟨(kh P "LOCAL"), (.str "LOCAL" 895), (.int 1 894)⟩, ⟨(kh P "GLOBAL"), (.str "GLOBAL" 897), (.int 2 896)⟩, ⟨(kh P "SET_LOCAL"), (.str "SET_LOCAL" 899), (.int 3 898)⟩, ⟨(kh P "SET_GLOBAL"), (.str "SET_GLOBAL" 901), (.int 4 900)⟩, ⟨(kh P "DEFINE"), (.str "DEFINE" 903), (.int 5 902)⟩, ⟨(kh P "IF"), (.str "IF" 905), (.int 6 904)⟩, ⟨(kh P "LAMBDA"), (.str "LAMBDA" 907), (.int 7 906)⟩, ⟨(kh P "CALL"), (.str "CALL" 909), (.int 8 908)⟩, ⟨(kh P "SEQ"), (.str "SEQ" 911), (.int 9 910)⟩, ⟨(kh P "PRIM"), (.str "PRIM" 913), (.int 10 912)⟩, ⟨(kh P "FIX"), (.str "FIX" 915), (.int 11 914)⟩, ⟨(kh P "Node"), (.str "Node" 953), (.ref 536)⟩, ⟨(kh P "Const"), (.str "Const" 979), (.ref 557)⟩, ⟨(kh P "Local"), (.str "Local" 1005), (.ref 576)⟩, ⟨(kh P "Global"), (.str "Global" 1031), (.ref 595)⟩, ⟨(kh P "SetGlobal"), (.str "SetGlobal" 1074), (.ref 628)⟩, ⟨(kh P "If"), (.str "If" 1119), (.ref 661)⟩, ⟨(kh P "Lambda"), (.str "Lambda" 1181), (.ref 708)⟩, ⟨(kh P "Call"), (.str "Call" 1224), (.ref 741)⟩, ⟨(kh P "Seq"), (.str "Seq" 1265), (.ref 774)⟩, ⟨(kh P "Fix"), (.str "Fix" 1310), (.ref 807)⟩, ⟨(kh P "LOOKING"), (.str "LOOKING" 1314), (.int 0 1313)⟩, ⟨(kh P "CALLING"), (.str "CALLING" 1316), (.int 1 1315)⟩, ⟨(kh P "GIVING"), (.str "GIVING" 1318), (.int 2 1317)⟩, ⟨(kh P "TEST"), (.str "TEST" 1320), (.int 0 1319)⟩, ⟨(kh P "ASSIGN"), (.str "ASSIGN" 1322), (.int 1 1321)⟩, ⟨(kh P "OPERANDS"), (.str "OPERANDS" 1324), (.int 2 1323)⟩, ⟨(kh P "SEQUENCE"), (.str "SEQUENCE" 1326), (.int 3 1325)⟩, ⟨(kh P "PRIMITIVE"), (.str "PRIMITIVE" 1328), (.int 4 1327)⟩, ⟨(kh P "CONSUMER"), (.str "CONSUMER" 1330), (.int 5 1329)⟩, ⟨(kh P "Globals"), (.str "Globals" 1394), (.ref 854)⟩, ⟨(kh P "Scope"), (.str "Scope" 1433), (.ref 882)⟩, ⟨(kh P "scope_of"), (.str "scope_of" 1442), (.ref 893)⟩, ⟨(kh P "Frame"), (.str "Frame" 1480), (.ref 910)⟩, ⟨(kh P "Closure"), (.str "Closure" 1517), (.ref 938)⟩, ⟨(kh P "Continuation"), (.str "Continuation" 1542), (.ref 957)⟩, ⟨(kh P "assigned_locals"), (.str "assigned_locals" 1553), (.ref 966)⟩, ⟨(kh P "BareLibrary"), (.str "BareLibrary" 1599), (.ref 997)⟩, ⟨(kh P "Interpreter"), (.str "Interpreter" 1844), (.ref 1165)⟩, ⟨(kh P "Real"), (.str "Real" 1877), (.ref 1186)⟩, ⟨(kh P "same_real"), (.str "same_real" 1885), (.ref 1197)⟩, ⟨(kh P "Ratio"), (.str "Ratio" 1918), (.ref 1214)⟩, ⟨(kh P "is_whole"), (.str "is_whole" 1925), (.ref 1225)⟩, ⟨(kh P "is_exact"), (.str "is_exact" 1932), (.ref 1232)⟩, ⟨(kh P "top_of"), (.str "top_of" 1939), (.ref 1239)⟩, ⟨(kh P "bottom_of"), (.str "bottom_of" 1946), (.ref 1246)⟩, ⟨(kh P "is_equal_exact"), (.str "is_equal_exact" 1954), (.ref 1253)⟩, ⟨(kh P "is_inexact"), (.str "is_inexact" 1963), (.ref 1260)⟩, ⟨(kh P "is_number"), (.str "is_number" 1970), (.ref 1267)⟩, ⟨(kh P "is_number_numkinds"), (.str "is_number_numkinds" 1971), (.ref 1267)⟩, ⟨(kh P "same_number"), (.str "same_number" 1979), (.ref 1274)⟩, ⟨(kh P "ObjectStore"), (.str "ObjectStore" 2419), (.ref 1641)⟩, ⟨(kh P "_law_draw"), (.str "_law_draw" 2429), (.ref 1652)⟩, ⟨(kh P "_law_within"), (.str "_law_within" 2441), (.ref 1659)⟩, ⟨(kh P "_law_program"), (.str "_law_program" 2454), (.ref 1666)⟩, ⟨(kh P "_law_ran"), (.str "_law_ran" 2460), (.ref 1671)⟩, ⟨(kh P "law"), (.str "law" 2466), (.ref 1676)⟩] 103), #[]⟩
noncomputable def o_34 (P : Params) : Obj := ⟨(.type "code"), none, (.fields #[(.str "__init__" 208), (.str "Special.__init__" 209), (.str "/claim/cut.py" 210), (.int 7 0), (.int 2 0), (.int 0 0), (.int 0 0), (.int 3 0), (.ref 29), (.bool true), (.int 181 0), (.ref 30), .none, (.ref 31), (.ref 32), (.ref 33), (.int 213 0), (.int 7 0), (.str "/claim/cut.py" 214)]), #[]⟩
noncomputable def q_35 : Obj := fnObj ((inCls s_2)[0]!) "Special.__init__" none .none .none .none (.str "scheme.data" 194) none (.ref 34) .none
noncomputable def e_35 : Obj := q_35
noncomputable def o_37 (P : Params) : Obj := ⟨(.type "dict"), none, (.dict #[⟨(kh P "__module__"), (.str "__module__" 203), (.str "scheme.data" 194)⟩, ⟨(kh P "__firstlineno__"), (.str "__firstlineno__" 207), (.int 5 206)⟩, ⟨(kh P "__init__"), (.str "__init__" 215), (.ref 35)⟩, ⟨(kh P "__static_attributes__"), (.str "__static_attributes__" 217), (.ref 36)⟩, ⟨(kh P "__dict__"), (.str "__dict__" 219), (.ref 39)⟩, ⟨(kh P "__weakref__"), (.str "__weakref__" 221), (.ref 40)⟩, ⟨(kh P "__doc__"), (.str "__doc__" 222), .none⟩] 4), #[]⟩
noncomputable def o_38 (P : Params) : Obj := ⟨(.type "type"), none, (.cls ⟨"Special", [(.type "object")], [(.ref 38), (.type "object")], 37, "Special", true, [], [], false, none, false⟩), #[none, none, (some (.str "Special" 196)), (some (.str "Special" 204)), (some (.builtin "object.__new__")), (some (.bool true))]⟩
noncomputable def o_43 (P : Params) : Obj := ⟨(.type "dict"), none, (.dict #[⟨(kh P "title"), (.str "title" 229), (.str "empty" 225)⟩] 1), #[]⟩
noncomputable def o_44 (P : Params) : Obj := ⟨(.ref 38), (some 43), .plain, #[]⟩
noncomputable def o_46 (P : Params) : Obj := ⟨(.type "dict"), none, (.dict #[⟨(kh P "title"), (.str "title" 235), (.str "unspecified" 231)⟩] 1), #[]⟩
noncomputable def o_47 (P : Params) : Obj := ⟨(.ref 38), (some 46), .plain, #[]⟩
noncomputable def o_49 (P : Params) : Obj := ⟨(.type "dict"), none, (.dict #[⟨(kh P "title"), (.str "title" 241), (.str "unassigned" 237)⟩] 1), #[]⟩
noncomputable def o_50 (P : Params) : Obj := ⟨(.ref 38), (some 49), .plain, #[]⟩
noncomputable def o_64 (P : Params) : Obj := ⟨(.type "code"), none, (.fields #[(.str "__init__" 255), (.str "Symbol.__init__" 256), (.str "/claim/cut.py" 257), (.int 14 0), (.int 3 0), (.int 0 0), (.int 0 0), (.int 3 0), (.ref 59), (.bool true), (.int 181 0), (.ref 60), .none, (.ref 61), (.ref 62), (.ref 63), (.int 261 0), (.int 14 0), (.str "/claim/cut.py" 262)]), #[]⟩
noncomputable def q_65 : Obj := fnObj ((inCls s_6)[0]!) "Symbol.__init__" none .none .none .none (.str "scheme.data" 194) none (.ref 64) .none
noncomputable def e_65 : Obj := q_65
noncomputable def o_67 (P : Params) : Obj := ⟨(.type "dict"), none, (.dict #[⟨(kh P "__module__"), (.str "__module__" 250), (.str "scheme.data" 194)⟩, ⟨(kh P "__firstlineno__"), (.str "__firstlineno__" 254), (.int 12 253)⟩, ⟨(kh P "__init__"), (.str "__init__" 263), (.ref 65)⟩, ⟨(kh P "__static_attributes__"), (.str "__static_attributes__" 266), (.ref 66)⟩, ⟨(kh P "__dict__"), (.str "__dict__" 268), (.ref 69)⟩, ⟨(kh P "__weakref__"), (.str "__weakref__" 270), (.ref 70)⟩, ⟨(kh P "__doc__"), (.str "__doc__" 271), .none⟩] 4), #[]⟩
noncomputable def o_68 (P : Params) : Obj := ⟨(.type "type"), none, (.cls ⟨"Symbol", [(.type "object")], [(.ref 68), (.type "object")], 67, "Symbol", true, [], [], false, none, false⟩), #[none, none, (some (.str "Symbol" 243)), (some (.str "Symbol" 251)), (some (.builtin "object.__new__")), (some (.bool true))]⟩
noncomputable def o_85 (P : Params) : Obj := ⟨(.type "code"), none, (.fields #[(.str "__init__" 286), (.str "SymbolTable.__init__" 287), (.str "/claim/cut.py" 288), (.int 19 0), (.int 1 0), (.int 0 0), (.int 0 0), (.int 3 0), (.ref 80), (.bool true), (.int 181 0), (.ref 81), .none, (.ref 82), (.ref 83), (.ref 84), (.int 290 0), (.int 19 0), (.str "/claim/cut.py" 291)]), #[]⟩
noncomputable def q_86 : Obj := fnObj ((inCls s_7)[0]!) "SymbolTable.__init__" none .none .none .none (.str "scheme.data" 194) none (.ref 85) .none
noncomputable def e_86 : Obj := q_86
noncomputable def o_92 (P : Params) : Obj := ⟨(.type "code"), none, (.fields #[(.str "symbol" 293), (.str "SymbolTable.symbol" 294), (.str "/claim/cut.py" 295), (.int 23 0), (.int 2 0), (.int 0 0), (.int 0 0), (.int 3 0), (.ref 87), (.bool true), (.int 181 0), (.ref 88), .none, (.ref 89), (.ref 90), (.ref 91), (.int 299 0), (.int 23 0), (.str "/claim/cut.py" 300)]), #[]⟩
noncomputable def q_93 : Obj := fnObj ((inCls s_7)[1]!) "SymbolTable.symbol" none .none .none .none (.str "scheme.data" 194) none (.ref 92) .none
noncomputable def e_93 : Obj := q_93
noncomputable def o_130 (P : Params) : Obj := ⟨(.type "dict"), none, (.dict #[⟨(kh P "__module__"), (.str "__module__" 281), (.str "scheme.data" 194)⟩, ⟨(kh P "__firstlineno__"), (.str "__firstlineno__" 285), (.int 17 284)⟩, ⟨(kh P "__init__"), (.str "__init__" 292), (.ref 86)⟩, ⟨(kh P "symbol"), (.str "symbol" 301), (.ref 93)⟩, ⟨(kh P "fresh"), (.str "fresh" 310), (.ref 100)⟩, ⟨(kh P "by_number"), (.str "by_number" 318), (.ref 107)⟩, ⟨(kh P "find"), (.str "find" 326), (.ref 114)⟩, ⟨(kh P "is_interned"), (.str "is_interned" 334), (.ref 121)⟩, ⟨(kh P "size"), (.str "size" 341), (.ref 128)⟩, ⟨(kh P "__static_attributes__"), (.str "__static_attributes__" 344), (.ref 129)⟩, ⟨(kh P "__dict__"), (.str "__dict__" 346), (.ref 132)⟩, ⟨(kh P "__weakref__"), (.str "__weakref__" 348), (.ref 133)⟩, ⟨(kh P "__doc__"), (.str "__doc__" 349), .none⟩] 4), #[]⟩
noncomputable def o_131 (P : Params) : Obj := ⟨(.type "type"), none, (.cls ⟨"SymbolTable", [(.type "object")], [(.ref 131), (.type "object")], 130, "SymbolTable", true, [], [], false, none, false⟩), #[none, none, (some (.str "SymbolTable" 274)), (some (.str "SymbolTable" 282)), (some (.builtin "object.__new__")), (some (.bool true))]⟩
noncomputable def o_211 (P : Params) : Obj := ⟨(.type "code"), none, (.fields #[(.str "__init__" 453), (.str "Procedure.__init__" 454), (.str "/claim/cut.py" 455), (.int 62 0), (.int 2 0), (.int 0 0), (.int 0 0), (.int 3 0), (.ref 206), (.bool true), (.int 181 0), (.ref 207), .none, (.ref 208), (.ref 209), (.ref 210), (.int 458 0), (.int 62 0), (.str "/claim/cut.py" 459)]), #[]⟩
noncomputable def q_212 : Obj := fnObj ((inCls s_11)[0]!) "Procedure.__init__" none .none .none .none (.str "scheme.data" 194) none (.ref 211) .none
noncomputable def e_212 : Obj := q_212
noncomputable def o_214 (P : Params) : Obj := ⟨(.type "dict"), none, (.dict #[⟨(kh P "__module__"), (.str "__module__" 448), (.str "scheme.data" 194)⟩, ⟨(kh P "__firstlineno__"), (.str "__firstlineno__" 452), (.int 60 451)⟩, ⟨(kh P "__init__"), (.str "__init__" 460), (.ref 212)⟩, ⟨(kh P "__static_attributes__"), (.str "__static_attributes__" 462), (.ref 213)⟩, ⟨(kh P "__dict__"), (.str "__dict__" 464), (.ref 216)⟩, ⟨(kh P "__weakref__"), (.str "__weakref__" 466), (.ref 217)⟩, ⟨(kh P "__doc__"), (.str "__doc__" 467), .none⟩] 4), #[]⟩
noncomputable def o_215 (P : Params) : Obj := ⟨(.type "type"), none, (.cls ⟨"Procedure", [(.type "object")], [(.ref 215), (.type "object")], 214, "Procedure", true, [], [(.ref 236), (.ref 468), (.ref 938), (.ref 957)], false, none, false⟩), #[none, none, (some (.str "Procedure" 441)), (some (.str "Procedure" 449)), (some (.builtin "object.__new__")), (some (.bool true))]⟩
noncomputable def o_235 (P : Params) : Obj := ⟨(.type "dict"), none, (.dict #[⟨(kh P "__module__"), (.str "__module__" 477), (.str "scheme.data" 194)⟩, ⟨(kh P "__firstlineno__"), (.str "__firstlineno__" 481), (.int 64 480)⟩, ⟨(kh P "__init__"), (.str "__init__" 490), (.ref 233)⟩, ⟨(kh P "__static_attributes__"), (.str "__static_attributes__" 492), (.ref 234)⟩, ⟨(kh P "__doc__"), (.str "__doc__" 493), .none⟩] 2), #[]⟩
noncomputable def o_236 (P : Params) : Obj := ⟨(.type "type"), none, (.cls ⟨"Primitive", [(.ref 215)], [(.ref 236), (.ref 215), (.type "object")], 235, "Primitive", true, [], [], false, none, false⟩), #[(some (.ref 220)), none, (some (.str "Primitive" 470)), (some (.str "Primitive" 478)), (some (.builtin "object.__new__")), (some (.bool true))]⟩
noncomputable def o_252 (P : Params) : Obj := ⟨(.type "code"), none, (.fields #[(.str "is_true" 506), (.str "is_true" 507), (.str "/claim/cut.py" 508), (.int 74 0), (.int 1 0), (.int 0 0), (.int 0 0), (.int 3 0), (.ref 247), (.bool true), (.int 181 0), (.ref 248), .none, (.ref 249), (.ref 250), (.ref 251), (.int 510 0), (.int 74 0), (.str "/claim/cut.py" 511)]), #[]⟩
noncomputable def q_253 : Obj := fnObj (s_14) "is_true" none .none .none .none (.str "scheme.data" 194) none (.ref 252) .none
noncomputable def e_253 : Obj := q_253
noncomputable def o_447 (P : Params) : Obj := ⟨(.type "tuple"), none, (.seq #[(.str "apply" 795), (.int 2 796), (.int (-1) 798)] 0), #[]⟩
noncomputable def o_448 (P : Params) : Obj := ⟨(.type "tuple"), none, (.seq #[(.str "values" 799), (.int 0 800), (.int (-1) 802)] 0), #[]⟩
noncomputable def o_449 (P : Params) : Obj := ⟨(.type "tuple"), none, (.seq #[(.str "call-with-values" 803), (.int 2 804), (.int 2 805)] 0), #[]⟩
noncomputable def o_450 (P : Params) : Obj := ⟨(.type "tuple"), none, (.seq #[(.str "%call/cc" 806), (.int 1 807), (.int 1 808)] 0), #[]⟩
noncomputable def o_451 (P : Params) : Obj := ⟨(.type "tuple"), none, (.seq #[(.ref 447), (.ref 448), (.ref 449), (.ref 450)] 0), #[]⟩
noncomputable def o_464 (P : Params) : Obj := ⟨(.type "code"), none, (.fields #[(.str "__init__" 822), (.str "ControlPrimitive.__init__" 823), (.str "/claim/cut.py" 824), (.int 136 0), (.int 2 0), (.int 0 0), (.int 0 0), (.int 3 0), (.ref 459), (.bool true), (.int 181 0), (.ref 460), .none, (.ref 461), (.ref 462), (.ref 463), (.int 827 0), (.int 136 0), (.str "/claim/cut.py" 828)]), #[]⟩
noncomputable def q_465 : Obj := fnObj ((inCls s_32)[0]!) "ControlPrimitive.__init__" none .none .none .none (.str "scheme.control" 785) none (.ref 464) .none
noncomputable def e_465 : Obj := q_465
noncomputable def o_467 (P : Params) : Obj := ⟨(.type "dict"), none, (.dict #[⟨(kh P "__module__"), (.str "__module__" 817), (.str "scheme.control" 785)⟩, ⟨(kh P "__firstlineno__"), (.str "__firstlineno__" 821), (.int 134 820)⟩, ⟨(kh P "__init__"), (.str "__init__" 829), (.ref 465)⟩, ⟨(kh P "__static_attributes__"), (.str "__static_attributes__" 831), (.ref 466)⟩, ⟨(kh P "__doc__"), (.str "__doc__" 832), .none⟩] 2), #[]⟩
noncomputable def o_468 (P : Params) : Obj := ⟨(.type "type"), none, (.cls ⟨"ControlPrimitive", [(.ref 215)], [(.ref 468), (.ref 215), (.type "object")], 467, "ControlPrimitive", true, [], [], false, none, false⟩), #[(some (.ref 452)), none, (some (.str "ControlPrimitive" 810)), (some (.str "ControlPrimitive" 818)), (some (.builtin "object.__new__")), (some (.bool true))]⟩
noncomputable def o_476 (P : Params) : Obj := ⟨(.type "code"), none, (.fields #[(.str "control_row" 835), (.str "control_row" 836), (.str "/claim/cut.py" 837), (.int 139 0), (.int 1 0), (.int 0 0), (.int 0 0), (.int 3 0), (.ref 471), (.bool true), (.int 181 0), (.ref 472), .none, (.ref 473), (.ref 474), (.ref 475), (.int 839 0), (.int 139 0), (.str "/claim/cut.py" 840)]), #[]⟩
noncomputable def q_477 : Obj := fnObj (s_33) "control_row" none .none .none .none (.str "scheme.control" 785) none (.ref 476) .none
noncomputable def e_477 : Obj := q_477
noncomputable def o_483 (P : Params) : Obj := ⟨(.type "code"), none, (.fields #[(.str "control_name" 842), (.str "control_name" 843), (.str "/claim/cut.py" 844), (.int 143 0), (.int 1 0), (.int 0 0), (.int 0 0), (.int 3 0), (.ref 478), (.bool true), (.int 181 0), (.ref 479), .none, (.ref 480), (.ref 481), (.ref 482), (.int 846 0), (.int 143 0), (.str "/claim/cut.py" 847)]), #[]⟩
noncomputable def q_484 : Obj := fnObj (s_34) "control_name" none .none .none .none (.str "scheme.control" 785) none (.ref 483) .none
noncomputable def e_484 : Obj := q_484
noncomputable def o_490 (P : Params) : Obj := ⟨(.type "code"), none, (.fields #[(.str "count_fits" 849), (.str "count_fits" 850), (.str "/claim/cut.py" 851), (.int 145 0), (.int 3 0), (.int 0 0), (.int 0 0), (.int 3 0), (.ref 485), (.bool true), (.int 181 0), (.ref 486), .none, (.ref 487), (.ref 488), (.ref 489), (.int 855 0), (.int 145 0), (.str "/claim/cut.py" 856)]), #[]⟩
noncomputable def q_491 : Obj := fnObj (s_35) "count_fits" none .none .none .none (.str "scheme.control" 785) none (.ref 490) .none
noncomputable def e_491 : Obj := q_491
noncomputable def o_497 (P : Params) : Obj := ⟨(.type "code"), none, (.fields #[(.str "check_control" 858), (.str "check_control" 859), (.str "/claim/cut.py" 860), (.int 147 0), (.int 2 0), (.int 0 0), (.int 0 0), (.int 3 0), (.ref 492), (.bool true), (.int 181 0), (.ref 493), .none, (.ref 494), (.ref 495), (.ref 496), (.int 866 0), (.int 147 0), (.str "/claim/cut.py" 867)]), #[]⟩
noncomputable def q_498 : Obj := fnObj (s_36) "check_control" none .none .none .none (.str "scheme.control" 785) none (.ref 497) .none
noncomputable def e_498 : Obj := q_498
noncomputable def o_525 (P : Params) : Obj := ⟨(.type "code"), none, (.fields #[(.str "parts" 931), (.str "Node.parts" 932), (.str "/claim/cut.py" 933), (.int 185 0), (.int 1 0), (.int 0 0), (.int 0 0), (.int 3 0), (.ref 520), (.bool true), (.int 181 0), (.ref 521), .none, (.ref 522), (.ref 523), (.ref 524), (.int 935 0), (.int 185 0), (.str "/claim/cut.py" 936)]), #[]⟩
noncomputable def q_526 : Obj := fnObj ((inCls s_52)[1]!) "Node.parts" none .none .none .none (.str "scheme.core" 890) none (.ref 525) .none
noncomputable def e_526 : Obj := q_526
noncomputable def o_535 (P : Params) : Obj := ⟨(.type "dict"), none, (.dict #[⟨(kh P "__module__"), (.str "__module__" 923), (.str "scheme.core" 890)⟩, ⟨(kh P "__firstlineno__"), (.str "__firstlineno__" 927), (.int 182 926)⟩, ⟨(kh P "kind"), (.str "kind" 930), (.int (-1) 929)⟩, ⟨(kh P "parts"), (.str "parts" 937), (.ref 526)⟩, ⟨(kh P "with_parts"), (.str "with_parts" 945), (.ref 533)⟩, ⟨(kh P "__static_attributes__"), (.str "__static_attributes__" 946), (.ref 534)⟩, ⟨(kh P "__dict__"), (.str "__dict__" 948), (.ref 537)⟩, ⟨(kh P "__weakref__"), (.str "__weakref__" 950), (.ref 538)⟩, ⟨(kh P "__doc__"), (.str "__doc__" 951), .none⟩] 4), #[]⟩
noncomputable def o_536 (P : Params) : Obj := ⟨(.type "type"), none, (.cls ⟨"Node", [(.type "object")], [(.ref 536), (.type "object")], 535, "Node", true, [], [(.ref 557), (.ref 576), (.ref 595), (.ref 628), (.ref 661), (.ref 708), (.ref 741), (.ref 774), (.ref 807)], false, none, false⟩), #[none, none, (some (.str "Node" 916)), (some (.str "Node" 924)), (some (.builtin "object.__new__")), (some (.bool true))]⟩
noncomputable def o_553 (P : Params) : Obj := ⟨(.type "code"), none, (.fields #[(.str "__init__" 967), (.str "Const.__init__" 968), (.str "/claim/cut.py" 969), (.int 193 0), (.int 2 0), (.int 0 0), (.int 0 0), (.int 3 0), (.ref 548), (.bool true), (.int 181 0), (.ref 549), .none, (.ref 550), (.ref 551), (.ref 552), (.int 972 0), (.int 193 0), (.str "/claim/cut.py" 973)]), #[]⟩
noncomputable def q_554 : Obj := fnObj ((inCls s_53)[1]!) "Const.__init__" none .none .none .none (.str "scheme.core" 890) none (.ref 553) .none
noncomputable def e_554 : Obj := q_554
noncomputable def o_556 (P : Params) : Obj := ⟨(.type "dict"), none, (.dict #[⟨(kh P "__module__"), (.str "__module__" 961), (.str "scheme.core" 890)⟩, ⟨(kh P "__firstlineno__"), (.str "__firstlineno__" 965), (.int 190 964)⟩, ⟨(kh P "kind"), (.str "kind" 966), (.int 0 892)⟩, ⟨(kh P "__init__"), (.str "__init__" 974), (.ref 554)⟩, ⟨(kh P "__static_attributes__"), (.str "__static_attributes__" 976), (.ref 555)⟩, ⟨(kh P "__doc__"), (.str "__doc__" 977), .none⟩] 2), #[]⟩
noncomputable def o_557 (P : Params) : Obj := ⟨(.type "type"), none, (.cls ⟨"Const", [(.ref 536)], [(.ref 557), (.ref 536), (.type "object")], 556, "Const", true, [], [], false, none, false⟩), #[(some (.ref 541)), none, (some (.str "Const" 954)), (some (.str "Const" 962)), (some (.builtin "object.__new__")), (some (.bool true))]⟩
noncomputable def o_572 (P : Params) : Obj := ⟨(.type "code"), none, (.fields #[(.str "__init__" 993), (.str "Local.__init__" 994), (.str "/claim/cut.py" 995), (.int 198 0), (.int 2 0), (.int 0 0), (.int 0 0), (.int 3 0), (.ref 567), (.bool true), (.int 181 0), (.ref 568), .none, (.ref 569), (.ref 570), (.ref 571), (.int 998 0), (.int 198 0), (.str "/claim/cut.py" 999)]), #[]⟩
noncomputable def q_573 : Obj := fnObj ((inCls s_54)[1]!) "Local.__init__" none .none .none .none (.str "scheme.core" 890) none (.ref 572) .none
noncomputable def e_573 : Obj := q_573
noncomputable def o_575 (P : Params) : Obj := ⟨(.type "dict"), none, (.dict #[⟨(kh P "__module__"), (.str "__module__" 987), (.str "scheme.core" 890)⟩, ⟨(kh P "__firstlineno__"), (.str "__firstlineno__" 991), (.int 195 990)⟩, ⟨(kh P "kind"), (.str "kind" 992), (.int 1 894)⟩, ⟨(kh P "__init__"), (.str "__init__" 1000), (.ref 573)⟩, ⟨(kh P "__static_attributes__"), (.str "__static_attributes__" 1002), (.ref 574)⟩, ⟨(kh P "__doc__"), (.str "__doc__" 1003), .none⟩] 2), #[]⟩
noncomputable def o_576 (P : Params) : Obj := ⟨(.type "type"), none, (.cls ⟨"Local", [(.ref 536)], [(.ref 576), (.ref 536), (.type "object")], 575, "Local", true, [], [], false, none, false⟩), #[(some (.ref 560)), none, (some (.str "Local" 980)), (some (.str "Local" 988)), (some (.builtin "object.__new__")), (some (.bool true))]⟩
noncomputable def o_591 (P : Params) : Obj := ⟨(.type "code"), none, (.fields #[(.str "__init__" 1019), (.str "Global.__init__" 1020), (.str "/claim/cut.py" 1021), (.int 203 0), (.int 2 0), (.int 0 0), (.int 0 0), (.int 3 0), (.ref 586), (.bool true), (.int 181 0), (.ref 587), .none, (.ref 588), (.ref 589), (.ref 590), (.int 1024 0), (.int 203 0), (.str "/claim/cut.py" 1025)]), #[]⟩
noncomputable def q_592 : Obj := fnObj ((inCls s_55)[1]!) "Global.__init__" none .none .none .none (.str "scheme.core" 890) none (.ref 591) .none
noncomputable def e_592 : Obj := q_592
noncomputable def o_594 (P : Params) : Obj := ⟨(.type "dict"), none, (.dict #[⟨(kh P "__module__"), (.str "__module__" 1013), (.str "scheme.core" 890)⟩, ⟨(kh P "__firstlineno__"), (.str "__firstlineno__" 1017), (.int 200 1016)⟩, ⟨(kh P "kind"), (.str "kind" 1018), (.int 2 896)⟩, ⟨(kh P "__init__"), (.str "__init__" 1026), (.ref 592)⟩, ⟨(kh P "__static_attributes__"), (.str "__static_attributes__" 1028), (.ref 593)⟩, ⟨(kh P "__doc__"), (.str "__doc__" 1029), .none⟩] 2), #[]⟩
noncomputable def o_595 (P : Params) : Obj := ⟨(.type "type"), none, (.cls ⟨"Global", [(.ref 536)], [(.ref 595), (.ref 536), (.type "object")], 594, "Global", true, [], [], false, none, false⟩), #[(some (.ref 579)), none, (some (.str "Global" 1006)), (some (.str "Global" 1014)), (some (.builtin "object.__new__")), (some (.bool true))]⟩
noncomputable def o_610 (P : Params) : Obj := ⟨(.type "code"), none, (.fields #[(.str "__init__" 1045), (.str "SetGlobal.__init__" 1046), (.str "/claim/cut.py" 1047), (.int 208 0), (.int 3 0), (.int 0 0), (.int 0 0), (.int 3 0), (.ref 605), (.bool true), (.int 181 0), (.ref 606), .none, (.ref 607), (.ref 608), (.ref 609), (.int 1051 0), (.int 208 0), (.str "/claim/cut.py" 1052)]), #[]⟩
noncomputable def q_611 : Obj := fnObj ((inCls s_56)[1]!) "SetGlobal.__init__" none .none .none .none (.str "scheme.core" 890) none (.ref 610) .none
noncomputable def e_611 : Obj := q_611
noncomputable def o_617 (P : Params) : Obj := ⟨(.type "code"), none, (.fields #[(.str "parts" 1054), (.str "SetGlobal.parts" 1055), (.str "/claim/cut.py" 1056), (.int 212 0), (.int 1 0), (.int 0 0), (.int 0 0), (.int 3 0), (.ref 612), (.bool true), (.int 181 0), (.ref 613), .none, (.ref 614), (.ref 615), (.ref 616), (.int 1058 0), (.int 212 0), (.str "/claim/cut.py" 1059)]), #[]⟩
noncomputable def q_618 : Obj := fnObj ((inCls s_56)[2]!) "SetGlobal.parts" none .none .none .none (.str "scheme.core" 890) none (.ref 617) .none
noncomputable def e_618 : Obj := q_618
noncomputable def o_627 (P : Params) : Obj := ⟨(.type "dict"), none, (.dict #[⟨(kh P "__module__"), (.str "__module__" 1039), (.str "scheme.core" 890)⟩, ⟨(kh P "__firstlineno__"), (.str "__firstlineno__" 1043), (.int 205 1042)⟩, ⟨(kh P "kind"), (.str "kind" 1044), (.int 4 900)⟩, ⟨(kh P "__init__"), (.str "__init__" 1053), (.ref 611)⟩, ⟨(kh P "parts"), (.str "parts" 1060), (.ref 618)⟩, ⟨(kh P "with_parts"), (.str "with_parts" 1068), (.ref 625)⟩, ⟨(kh P "__static_attributes__"), (.str "__static_attributes__" 1071), (.ref 626)⟩, ⟨(kh P "__doc__"), (.str "__doc__" 1072), .none⟩] 2), #[]⟩
noncomputable def o_628 (P : Params) : Obj := ⟨(.type "type"), none, (.cls ⟨"SetGlobal", [(.ref 536)], [(.ref 628), (.ref 536), (.type "object")], 627, "SetGlobal", true, [], [], false, none, false⟩), #[(some (.ref 598)), none, (some (.str "SetGlobal" 1032)), (some (.str "SetGlobal" 1040)), (some (.builtin "object.__new__")), (some (.bool true))]⟩
noncomputable def o_643 (P : Params) : Obj := ⟨(.type "code"), none, (.fields #[(.str "__init__" 1088), (.str "If.__init__" 1089), (.str "/claim/cut.py" 1090), (.int 220 0), (.int 4 0), (.int 0 0), (.int 0 0), (.int 3 0), (.ref 638), (.bool true), (.int 181 0), (.ref 639), .none, (.ref 640), (.ref 641), (.ref 642), (.int 1095 0), (.int 220 0), (.str "/claim/cut.py" 1096)]), #[]⟩
noncomputable def q_644 : Obj := fnObj ((inCls s_57)[1]!) "If.__init__" none .none .none .none (.str "scheme.core" 890) none (.ref 643) .none
noncomputable def e_644 : Obj := q_644
noncomputable def o_650 (P : Params) : Obj := ⟨(.type "code"), none, (.fields #[(.str "parts" 1098), (.str "If.parts" 1099), (.str "/claim/cut.py" 1100), (.int 225 0), (.int 1 0), (.int 0 0), (.int 0 0), (.int 3 0), (.ref 645), (.bool true), (.int 181 0), (.ref 646), .none, (.ref 647), (.ref 648), (.ref 649), (.int 1102 0), (.int 225 0), (.str "/claim/cut.py" 1103)]), #[]⟩
noncomputable def q_651 : Obj := fnObj ((inCls s_57)[2]!) "If.parts" none .none .none .none (.str "scheme.core" 890) none (.ref 650) .none
noncomputable def e_651 : Obj := q_651
noncomputable def o_660 (P : Params) : Obj := ⟨(.type "dict"), none, (.dict #[⟨(kh P "__module__"), (.str "__module__" 1082), (.str "scheme.core" 890)⟩, ⟨(kh P "__firstlineno__"), (.str "__firstlineno__" 1086), (.int 217 1085)⟩, ⟨(kh P "kind"), (.str "kind" 1087), (.int 6 904)⟩, ⟨(kh P "__init__"), (.str "__init__" 1097), (.ref 644)⟩, ⟨(kh P "parts"), (.str "parts" 1104), (.ref 651)⟩, ⟨(kh P "with_parts"), (.str "with_parts" 1112), (.ref 658)⟩, ⟨(kh P "__static_attributes__"), (.str "__static_attributes__" 1116), (.ref 659)⟩, ⟨(kh P "__doc__"), (.str "__doc__" 1117), .none⟩] 2), #[]⟩
noncomputable def o_661 (P : Params) : Obj := ⟨(.type "type"), none, (.cls ⟨"If", [(.ref 536)], [(.ref 661), (.ref 536), (.type "object")], 660, "If", true, [], [], false, none, false⟩), #[(some (.ref 631)), none, (some (.str "If" 1075)), (some (.str "If" 1083)), (some (.builtin "object.__new__")), (some (.bool true))]⟩
noncomputable def o_676 (P : Params) : Obj := ⟨(.type "code"), none, (.fields #[(.str "__init__" 1133), (.str "Lambda.__init__" 1134), (.str "/claim/cut.py" 1135), (.int 233 0), (.int 5 0), (.int 0 0), (.int 0 0), (.int 3 0), (.ref 671), (.bool true), (.int 181 0), (.ref 672), .none, (.ref 673), (.ref 674), (.ref 675), (.int 1141 0), (.int 233 0), (.str "/claim/cut.py" 1142)]), #[]⟩
noncomputable def q_677 : Obj := fnObj ((inCls s_58)[1]!) "Lambda.__init__" none .none .none .none (.str "scheme.core" 890) none (.ref 676) .none
noncomputable def e_677 : Obj := q_677
noncomputable def o_683 (P : Params) : Obj := ⟨(.type "code"), none, (.fields #[(.str "parts" 1144), (.str "Lambda.parts" 1145), (.str "/claim/cut.py" 1146), (.int 239 0), (.int 1 0), (.int 0 0), (.int 0 0), (.int 3 0), (.ref 678), (.bool true), (.int 181 0), (.ref 679), .none, (.ref 680), (.ref 681), (.ref 682), (.int 1148 0), (.int 239 0), (.str "/claim/cut.py" 1149)]), #[]⟩
noncomputable def q_684 : Obj := fnObj ((inCls s_58)[2]!) "Lambda.parts" none .none .none .none (.str "scheme.core" 890) none (.ref 683) .none
noncomputable def e_684 : Obj := q_684
noncomputable def o_707 (P : Params) : Obj := ⟨(.type "dict"), none, (.dict #[⟨(kh P "__module__"), (.str "__module__" 1127), (.str "scheme.core" 890)⟩, ⟨(kh P "__firstlineno__"), (.str "__firstlineno__" 1131), (.int 230 1130)⟩, ⟨(kh P "kind"), (.str "kind" 1132), (.int 7 906)⟩, ⟨(kh P "__init__"), (.str "__init__" 1143), (.ref 677)⟩, ⟨(kh P "parts"), (.str "parts" 1150), (.ref 684)⟩, ⟨(kh P "with_parts"), (.str "with_parts" 1158), (.ref 691)⟩, ⟨(kh P "binders"), (.str "binders" 1165), (.ref 698)⟩, ⟨(kh P "takes"), (.str "takes" 1173), (.ref 705)⟩, ⟨(kh P "__static_attributes__"), (.str "__static_attributes__" 1178), (.ref 706)⟩, ⟨(kh P "__doc__"), (.str "__doc__" 1179), .none⟩] 2), #[]⟩
noncomputable def o_708 (P : Params) : Obj := ⟨(.type "type"), none, (.cls ⟨"Lambda", [(.ref 536)], [(.ref 708), (.ref 536), (.type "object")], 707, "Lambda", true, [], [], false, none, false⟩), #[(some (.ref 664)), none, (some (.str "Lambda" 1120)), (some (.str "Lambda" 1128)), (some (.builtin "object.__new__")), (some (.bool true))]⟩
noncomputable def o_723 (P : Params) : Obj := ⟨(.type "code"), none, (.fields #[(.str "__init__" 1195), (.str "Call.__init__" 1196), (.str "/claim/cut.py" 1197), (.int 253 0), (.int 3 0), (.int 0 0), (.int 0 0), (.int 3 0), (.ref 718), (.bool true), (.int 181 0), (.ref 719), .none, (.ref 720), (.ref 721), (.ref 722), (.int 1201 0), (.int 253 0), (.str "/claim/cut.py" 1202)]), #[]⟩
noncomputable def q_724 : Obj := fnObj ((inCls s_59)[1]!) "Call.__init__" none .none .none .none (.str "scheme.core" 890) none (.ref 723) .none
noncomputable def e_724 : Obj := q_724
noncomputable def o_730 (P : Params) : Obj := ⟨(.type "code"), none, (.fields #[(.str "parts" 1204), (.str "Call.parts" 1205), (.str "/claim/cut.py" 1206), (.int 257 0), (.int 1 0), (.int 0 0), (.int 0 0), (.int 3 0), (.ref 725), (.bool true), (.int 181 0), (.ref 726), .none, (.ref 727), (.ref 728), (.ref 729), (.int 1208 0), (.int 257 0), (.str "/claim/cut.py" 1209)]), #[]⟩
noncomputable def q_731 : Obj := fnObj ((inCls s_59)[2]!) "Call.parts" none .none .none .none (.str "scheme.core" 890) none (.ref 730) .none
noncomputable def e_731 : Obj := q_731
noncomputable def o_740 (P : Params) : Obj := ⟨(.type "dict"), none, (.dict #[⟨(kh P "__module__"), (.str "__module__" 1189), (.str "scheme.core" 890)⟩, ⟨(kh P "__firstlineno__"), (.str "__firstlineno__" 1193), (.int 250 1192)⟩, ⟨(kh P "kind"), (.str "kind" 1194), (.int 8 908)⟩, ⟨(kh P "__init__"), (.str "__init__" 1203), (.ref 724)⟩, ⟨(kh P "parts"), (.str "parts" 1210), (.ref 731)⟩, ⟨(kh P "with_parts"), (.str "with_parts" 1218), (.ref 738)⟩, ⟨(kh P "__static_attributes__"), (.str "__static_attributes__" 1221), (.ref 739)⟩, ⟨(kh P "__doc__"), (.str "__doc__" 1222), .none⟩] 2), #[]⟩
noncomputable def o_741 (P : Params) : Obj := ⟨(.type "type"), none, (.cls ⟨"Call", [(.ref 536)], [(.ref 741), (.ref 536), (.type "object")], 740, "Call", true, [], [], false, none, false⟩), #[(some (.ref 711)), none, (some (.str "Call" 1182)), (some (.str "Call" 1190)), (some (.builtin "object.__new__")), (some (.bool true))]⟩
noncomputable def o_756 (P : Params) : Obj := ⟨(.type "code"), none, (.fields #[(.str "__init__" 1238), (.str "Seq.__init__" 1239), (.str "/claim/cut.py" 1240), (.int 265 0), (.int 2 0), (.int 0 0), (.int 0 0), (.int 3 0), (.ref 751), (.bool true), (.int 181 0), (.ref 752), .none, (.ref 753), (.ref 754), (.ref 755), (.int 1243 0), (.int 265 0), (.str "/claim/cut.py" 1244)]), #[]⟩
noncomputable def q_757 : Obj := fnObj ((inCls s_60)[1]!) "Seq.__init__" none .none .none .none (.str "scheme.core" 890) none (.ref 756) .none
noncomputable def e_757 : Obj := q_757
noncomputable def o_763 (P : Params) : Obj := ⟨(.type "code"), none, (.fields #[(.str "parts" 1246), (.str "Seq.parts" 1247), (.str "/claim/cut.py" 1248), (.int 268 0), (.int 1 0), (.int 0 0), (.int 0 0), (.int 3 0), (.ref 758), (.bool true), (.int 181 0), (.ref 759), .none, (.ref 760), (.ref 761), (.ref 762), (.int 1250 0), (.int 268 0), (.str "/claim/cut.py" 1251)]), #[]⟩
noncomputable def q_764 : Obj := fnObj ((inCls s_60)[2]!) "Seq.parts" none .none .none .none (.str "scheme.core" 890) none (.ref 763) .none
noncomputable def e_764 : Obj := q_764
noncomputable def o_773 (P : Params) : Obj := ⟨(.type "dict"), none, (.dict #[⟨(kh P "__module__"), (.str "__module__" 1232), (.str "scheme.core" 890)⟩, ⟨(kh P "__firstlineno__"), (.str "__firstlineno__" 1236), (.int 262 1235)⟩, ⟨(kh P "kind"), (.str "kind" 1237), (.int 9 910)⟩, ⟨(kh P "__init__"), (.str "__init__" 1245), (.ref 757)⟩, ⟨(kh P "parts"), (.str "parts" 1252), (.ref 764)⟩, ⟨(kh P "with_parts"), (.str "with_parts" 1260), (.ref 771)⟩, ⟨(kh P "__static_attributes__"), (.str "__static_attributes__" 1262), (.ref 772)⟩, ⟨(kh P "__doc__"), (.str "__doc__" 1263), .none⟩] 2), #[]⟩
noncomputable def o_774 (P : Params) : Obj := ⟨(.type "type"), none, (.cls ⟨"Seq", [(.ref 536)], [(.ref 774), (.ref 536), (.type "object")], 773, "Seq", true, [], [], false, none, false⟩), #[(some (.ref 744)), none, (some (.str "Seq" 1225)), (some (.str "Seq" 1233)), (some (.builtin "object.__new__")), (some (.bool true))]⟩
noncomputable def o_789 (P : Params) : Obj := ⟨(.type "code"), none, (.fields #[(.str "__init__" 1279), (.str "Fix.__init__" 1280), (.str "/claim/cut.py" 1281), (.int 276 0), (.int 4 0), (.int 0 0), (.int 0 0), (.int 3 0), (.ref 784), (.bool true), (.int 181 0), (.ref 785), .none, (.ref 786), (.ref 787), (.ref 788), (.int 1286 0), (.int 276 0), (.str "/claim/cut.py" 1287)]), #[]⟩
noncomputable def q_790 : Obj := fnObj ((inCls s_61)[1]!) "Fix.__init__" none .none .none .none (.str "scheme.core" 890) none (.ref 789) .none
noncomputable def e_790 : Obj := q_790
noncomputable def o_796 (P : Params) : Obj := ⟨(.type "code"), none, (.fields #[(.str "parts" 1289), (.str "Fix.parts" 1290), (.str "/claim/cut.py" 1291), (.int 281 0), (.int 1 0), (.int 0 0), (.int 0 0), (.int 3 0), (.ref 791), (.bool true), (.int 181 0), (.ref 792), .none, (.ref 793), (.ref 794), (.ref 795), (.int 1293 0), (.int 281 0), (.str "/claim/cut.py" 1294)]), #[]⟩
noncomputable def q_797 : Obj := fnObj ((inCls s_61)[2]!) "Fix.parts" none .none .none .none (.str "scheme.core" 890) none (.ref 796) .none
noncomputable def e_797 : Obj := q_797
noncomputable def o_806 (P : Params) : Obj := ⟨(.type "dict"), none, (.dict #[⟨(kh P "__module__"), (.str "__module__" 1273), (.str "scheme.core" 890)⟩, ⟨(kh P "__firstlineno__"), (.str "__firstlineno__" 1277), (.int 273 1276)⟩, ⟨(kh P "kind"), (.str "kind" 1278), (.int 11 914)⟩, ⟨(kh P "__init__"), (.str "__init__" 1288), (.ref 790)⟩, ⟨(kh P "parts"), (.str "parts" 1295), (.ref 797)⟩, ⟨(kh P "with_parts"), (.str "with_parts" 1303), (.ref 804)⟩, ⟨(kh P "__static_attributes__"), (.str "__static_attributes__" 1307), (.ref 805)⟩, ⟨(kh P "__doc__"), (.str "__doc__" 1308), .none⟩] 2), #[]⟩
noncomputable def o_807 (P : Params) : Obj := ⟨(.type "type"), none, (.cls ⟨"Fix", [(.ref 536)], [(.ref 807), (.ref 536), (.type "object")], 806, "Fix", true, [], [], false, none, false⟩), #[(some (.ref 777)), none, (some (.str "Fix" 1266)), (some (.str "Fix" 1274)), (some (.builtin "object.__new__")), (some (.bool true))]⟩
noncomputable def o_822 (P : Params) : Obj := ⟨(.type "code"), none, (.fields #[(.str "__init__" 1343), (.str "Globals.__init__" 1344), (.str "/claim/cut.py" 1345), (.int 298 0), (.int 2 0), (.int 0 0), (.int 0 0), (.int 3 0), (.ref 817), (.bool true), (.int 181 0), (.ref 818), .none, (.ref 819), (.ref 820), (.ref 821), (.int 1348 0), (.int 298 0), (.str "/claim/cut.py" 1349)]), #[]⟩
noncomputable def q_823 : Obj := fnObj ((inCls s_72)[0]!) "Globals.__init__" none .none .none .none (.str "scheme.interpret" 1311) none (.ref 822) .none
noncomputable def e_823 : Obj := q_823
noncomputable def o_836 (P : Params) : Obj := ⟨(.type "code"), none, (.fields #[(.str "value_of" 1359), (.str "Globals.value_of" 1360), (.str "/claim/cut.py" 1361), (.int 305 0), (.int 2 0), (.int 0 0), (.int 0 0), (.int 3 0), (.ref 831), (.bool true), (.int 181 0), (.ref 832), .none, (.ref 833), (.ref 834), (.ref 835), (.int 1364 0), (.int 305 0), (.str "/claim/cut.py" 1365)]), #[]⟩
noncomputable def q_837 : Obj := fnObj ((inCls s_72)[2]!) "Globals.value_of" none .none .none .none (.str "scheme.interpret" 1311) none (.ref 836) .none
noncomputable def e_837 : Obj := q_837
noncomputable def o_843 (P : Params) : Obj := ⟨(.type "code"), none, (.fields #[(.str "define" 1367), (.str "Globals.define" 1368), (.str "/claim/cut.py" 1369), (.int 310 0), (.int 3 0), (.int 0 0), (.int 0 0), (.int 3 0), (.ref 838), (.bool true), (.int 181 0), (.ref 839), .none, (.ref 840), (.ref 841), (.ref 842), (.int 1373 0), (.int 310 0), (.str "/claim/cut.py" 1374)]), #[]⟩
noncomputable def q_844 : Obj := fnObj ((inCls s_72)[3]!) "Globals.define" none .none .none .none (.str "scheme.interpret" 1311) none (.ref 843) .none
noncomputable def e_844 : Obj := q_844
noncomputable def o_850 (P : Params) : Obj := ⟨(.type "code"), none, (.fields #[(.str "assign" 1376), (.str "Globals.assign" 1377), (.str "/claim/cut.py" 1378), (.int 313 0), (.int 3 0), (.int 0 0), (.int 0 0), (.int 3 0), (.ref 845), (.bool true), (.int 181 0), (.ref 846), .none, (.ref 847), (.ref 848), (.ref 849), (.int 1382 0), (.int 313 0), (.str "/claim/cut.py" 1383)]), #[]⟩
noncomputable def q_851 : Obj := fnObj ((inCls s_72)[4]!) "Globals.assign" none .none .none .none (.str "scheme.interpret" 1311) none (.ref 850) .none
noncomputable def e_851 : Obj := q_851
noncomputable def o_853 (P : Params) : Obj := ⟨(.type "dict"), none, (.dict #[⟨(kh P "__module__"), (.str "__module__" 1338), (.str "scheme.interpret" 1311)⟩, ⟨(kh P "__firstlineno__"), (.str "__firstlineno__" 1342), (.int 296 1341)⟩, ⟨(kh P "__init__"), (.str "__init__" 1350), (.ref 823)⟩, ⟨(kh P "text_of"), (.str "text_of" 1358), (.ref 830)⟩, ⟨(kh P "value_of"), (.str "value_of" 1366), (.ref 837)⟩, ⟨(kh P "define"), (.str "define" 1375), (.ref 844)⟩, ⟨(kh P "assign"), (.str "assign" 1384), (.ref 851)⟩, ⟨(kh P "__static_attributes__"), (.str "__static_attributes__" 1387), (.ref 852)⟩, ⟨(kh P "__dict__"), (.str "__dict__" 1389), (.ref 855)⟩, ⟨(kh P "__weakref__"), (.str "__weakref__" 1391), (.ref 856)⟩, ⟨(kh P "__doc__"), (.str "__doc__" 1392), .none⟩] 4), #[]⟩
noncomputable def o_854 (P : Params) : Obj := ⟨(.type "type"), none, (.cls ⟨"Globals", [(.type "object")], [(.ref 854), (.type "object")], 853, "Globals", true, [], [], false, none, false⟩), #[none, none, (some (.str "Globals" 1331)), (some (.str "Globals" 1339)), (some (.builtin "object.__new__")), (some (.bool true))]⟩
noncomputable def o_871 (P : Params) : Obj := ⟨(.type "code"), none, (.fields #[(.str "__init__" 1407), (.str "Scope.__init__" 1408), (.str "/claim/cut.py" 1409), (.int 319 0), (.int 2 0), (.int 0 0), (.int 0 0), (.int 3 0), (.ref 866), (.bool true), (.int 181 0), (.ref 867), .none, (.ref 868), (.ref 869), (.ref 870), (.int 1412 0), (.int 319 0), (.str "/claim/cut.py" 1413)]), #[]⟩
noncomputable def q_872 : Obj := fnObj ((inCls s_73)[0]!) "Scope.__init__" none .none .none .none (.str "scheme.interpret" 1311) none (.ref 871) .none
noncomputable def e_872 : Obj := q_872
noncomputable def o_878 (P : Params) : Obj := ⟨(.type "code"), none, (.fields #[(.str "put" 1415), (.str "Scope.put" 1416), (.str "/claim/cut.py" 1417), (.int 323 0), (.int 3 0), (.int 0 0), (.int 0 0), (.int 3 0), (.ref 873), (.bool true), (.int 181 0), (.ref 874), .none, (.ref 875), (.ref 876), (.ref 877), (.int 1421 0), (.int 323 0), (.str "/claim/cut.py" 1422)]), #[]⟩
noncomputable def q_879 : Obj := fnObj ((inCls s_73)[1]!) "Scope.put" none .none .none .none (.str "scheme.interpret" 1311) none (.ref 878) .none
noncomputable def e_879 : Obj := q_879
noncomputable def o_881 (P : Params) : Obj := ⟨(.type "dict"), none, (.dict #[⟨(kh P "__module__"), (.str "__module__" 1402), (.str "scheme.interpret" 1311)⟩, ⟨(kh P "__firstlineno__"), (.str "__firstlineno__" 1406), (.int 317 1405)⟩, ⟨(kh P "__init__"), (.str "__init__" 1414), (.ref 872)⟩, ⟨(kh P "put"), (.str "put" 1423), (.ref 879)⟩, ⟨(kh P "__static_attributes__"), (.str "__static_attributes__" 1426), (.ref 880)⟩, ⟨(kh P "__dict__"), (.str "__dict__" 1428), (.ref 883)⟩, ⟨(kh P "__weakref__"), (.str "__weakref__" 1430), (.ref 884)⟩, ⟨(kh P "__doc__"), (.str "__doc__" 1431), .none⟩] 4), #[]⟩
noncomputable def o_882 (P : Params) : Obj := ⟨(.type "type"), none, (.cls ⟨"Scope", [(.type "object")], [(.ref 882), (.type "object")], 881, "Scope", true, [], [], false, none, false⟩), #[none, none, (some (.str "Scope" 1395)), (some (.str "Scope" 1403)), (some (.builtin "object.__new__")), (some (.bool true))]⟩
noncomputable def o_892 (P : Params) : Obj := ⟨(.type "code"), none, (.fields #[(.str "scope_of" 1434), (.str "scope_of" 1435), (.str "/claim/cut.py" 1436), (.int 325 0), (.int 2 0), (.int 0 0), (.int 0 0), (.int 3 0), (.ref 887), (.bool true), (.int 181 0), (.ref 888), .none, (.ref 889), (.ref 890), (.ref 891), (.int 1440 0), (.int 325 0), (.str "/claim/cut.py" 1441)]), #[]⟩
noncomputable def q_893 : Obj := fnObj (s_74) "scope_of" none .none .none .none (.str "scheme.interpret" 1311) none (.ref 892) .none
noncomputable def e_893 : Obj := q_893
noncomputable def o_906 (P : Params) : Obj := ⟨(.type "code"), none, (.fields #[(.str "__init__" 1455), (.str "Frame.__init__" 1456), (.str "/claim/cut.py" 1457), (.int 334 0), (.int 6 0), (.int 0 0), (.int 0 0), (.int 3 0), (.ref 901), (.bool true), (.int 181 0), (.ref 902), .none, (.ref 903), (.ref 904), (.ref 905), (.int 1464 0), (.int 334 0), (.str "/claim/cut.py" 1465)]), #[]⟩
noncomputable def q_907 : Obj := fnObj ((inCls s_75)[0]!) "Frame.__init__" none .none .none .none (.str "scheme.interpret" 1311) none (.ref 906) .none
noncomputable def e_907 : Obj := q_907
noncomputable def o_909 (P : Params) : Obj := ⟨(.type "dict"), none, (.dict #[⟨(kh P "__module__"), (.str "__module__" 1450), (.str "scheme.interpret" 1311)⟩, ⟨(kh P "__firstlineno__"), (.str "__firstlineno__" 1454), (.int 332 1453)⟩, ⟨(kh P "__init__"), (.str "__init__" 1466), (.ref 907)⟩, ⟨(kh P "__static_attributes__"), (.str "__static_attributes__" 1473), (.ref 908)⟩, ⟨(kh P "__dict__"), (.str "__dict__" 1475), (.ref 911)⟩, ⟨(kh P "__weakref__"), (.str "__weakref__" 1477), (.ref 912)⟩, ⟨(kh P "__doc__"), (.str "__doc__" 1478), .none⟩] 4), #[]⟩
noncomputable def o_910 (P : Params) : Obj := ⟨(.type "type"), none, (.cls ⟨"Frame", [(.type "object")], [(.ref 910), (.type "object")], 909, "Frame", true, [], [], false, none, false⟩), #[none, none, (some (.str "Frame" 1443)), (some (.str "Frame" 1451)), (some (.builtin "object.__new__")), (some (.bool true))]⟩
noncomputable def o_927 (P : Params) : Obj := ⟨(.type "code"), none, (.fields #[(.str "__init__" 1493), (.str "Closure.__init__" 1494), (.str "/claim/cut.py" 1495), (.int 343 0), (.int 4 0), (.int 0 0), (.int 0 0), (.int 3 0), (.ref 922), (.bool true), (.int 181 0), (.ref 923), .none, (.ref 924), (.ref 925), (.ref 926), (.int 1500 0), (.int 343 0), (.str "/claim/cut.py" 1501)]), #[]⟩
noncomputable def q_928 : Obj := fnObj ((inCls s_76)[0]!) "Closure.__init__" none .none .none .none (.str "scheme.interpret" 1311) none (.ref 927) .none
noncomputable def e_928 : Obj := q_928
noncomputable def o_934 (P : Params) : Obj := ⟨(.type "code"), none, (.fields #[(.str "takes" 1503), (.str "Closure.takes" 1504), (.str "/claim/cut.py" 1505), (.int 348 0), (.int 2 0), (.int 0 0), (.int 0 0), (.int 3 0), (.ref 929), (.bool true), (.int 181 0), (.ref 930), .none, (.ref 931), (.ref 932), (.ref 933), (.int 1509 0), (.int 348 0), (.str "/claim/cut.py" 1510)]), #[]⟩
noncomputable def q_935 : Obj := fnObj ((inCls s_76)[1]!) "Closure.takes" none .none .none .none (.str "scheme.interpret" 1311) none (.ref 934) .none
noncomputable def e_935 : Obj := q_935
noncomputable def o_937 (P : Params) : Obj := ⟨(.type "dict"), none, (.dict #[⟨(kh P "__module__"), (.str "__module__" 1488), (.str "scheme.interpret" 1311)⟩, ⟨(kh P "__firstlineno__"), (.str "__firstlineno__" 1492), (.int 341 1491)⟩, ⟨(kh P "__init__"), (.str "__init__" 1502), (.ref 928)⟩, ⟨(kh P "takes"), (.str "takes" 1511), (.ref 935)⟩, ⟨(kh P "__static_attributes__"), (.str "__static_attributes__" 1514), (.ref 936)⟩, ⟨(kh P "__doc__"), (.str "__doc__" 1515), .none⟩] 2), #[]⟩
noncomputable def o_938 (P : Params) : Obj := ⟨(.type "type"), none, (.cls ⟨"Closure", [(.ref 215)], [(.ref 938), (.ref 215), (.type "object")], 937, "Closure", true, [], [], false, none, false⟩), #[(some (.ref 915)), none, (some (.str "Closure" 1481)), (some (.str "Closure" 1489)), (some (.builtin "object.__new__")), (some (.bool true))]⟩
noncomputable def o_953 (P : Params) : Obj := ⟨(.type "code"), none, (.fields #[(.str "__init__" 1530), (.str "Continuation.__init__" 1531), (.str "/claim/cut.py" 1532), (.int 353 0), (.int 2 0), (.int 0 0), (.int 0 0), (.int 3 0), (.ref 948), (.bool true), (.int 181 0), (.ref 949), .none, (.ref 950), (.ref 951), (.ref 952), (.int 1535 0), (.int 353 0), (.str "/claim/cut.py" 1536)]), #[]⟩
noncomputable def q_954 : Obj := fnObj ((inCls s_77)[0]!) "Continuation.__init__" none .none .none .none (.str "scheme.interpret" 1311) none (.ref 953) .none
noncomputable def e_954 : Obj := q_954
noncomputable def o_956 (P : Params) : Obj := ⟨(.type "dict"), none, (.dict #[⟨(kh P "__module__"), (.str "__module__" 1525), (.str "scheme.interpret" 1311)⟩, ⟨(kh P "__firstlineno__"), (.str "__firstlineno__" 1529), (.int 351 1528)⟩, ⟨(kh P "__init__"), (.str "__init__" 1537), (.ref 954)⟩, ⟨(kh P "__static_attributes__"), (.str "__static_attributes__" 1539), (.ref 955)⟩, ⟨(kh P "__doc__"), (.str "__doc__" 1540), .none⟩] 2), #[]⟩
noncomputable def o_957 (P : Params) : Obj := ⟨(.type "type"), none, (.cls ⟨"Continuation", [(.ref 215)], [(.ref 957), (.ref 215), (.type "object")], 956, "Continuation", true, [], [], false, none, false⟩), #[(some (.ref 941)), none, (some (.str "Continuation" 1518)), (some (.str "Continuation" 1526)), (some (.builtin "object.__new__")), (some (.bool true))]⟩
noncomputable def o_965 (P : Params) : Obj := ⟨(.type "code"), none, (.fields #[(.str "assigned_locals" 1543), (.str "assigned_locals" 1544), (.str "/claim/cut.py" 1545), (.int 356 0), (.int 1 0), (.int 0 0), (.int 0 0), (.int 3 0), (.ref 960), (.bool true), (.int 181 0), (.ref 961), .none, (.ref 962), (.ref 963), (.ref 964), (.int 1551 0), (.int 356 0), (.str "/claim/cut.py" 1552)]), #[]⟩
noncomputable def q_966 : Obj := fnObj (s_78) "assigned_locals" none .none .none .none (.str "scheme.interpret" 1311) none (.ref 965) .none
noncomputable def e_966 : Obj := q_966
noncomputable def o_979 (P : Params) : Obj := ⟨(.type "code"), none, (.fields #[(.str "__init__" 1566), (.str "BareLibrary.__init__" 1567), (.str "/claim/cut.py" 1568), (.int 368 0), (.int 2 0), (.int 0 0), (.int 0 0), (.int 3 0), (.ref 974), (.bool true), (.int 181 0), (.ref 975), .none, (.ref 976), (.ref 977), (.ref 978), (.int 1571 0), (.int 368 0), (.str "/claim/cut.py" 1572)]), #[]⟩
noncomputable def q_980 : Obj := fnObj ((inCls s_79)[0]!) "BareLibrary.__init__" none .none .none .none (.str "scheme.interpret" 1311) none (.ref 979) .none
noncomputable def e_980 : Obj := q_980
noncomputable def o_986 (P : Params) : Obj := ⟨(.type "code"), none, (.fields #[(.str "title_of" 1574), (.str "BareLibrary.title_of" 1575), (.str "/claim/cut.py" 1576), (.int 371 0), (.int 2 0), (.int 0 0), (.int 0 0), (.int 3 0), (.ref 981), (.bool true), (.int 181 0), (.ref 982), .none, (.ref 983), (.ref 984), (.ref 985), (.int 1579 0), (.int 371 0), (.str "/claim/cut.py" 1580)]), #[]⟩
noncomputable def q_987 : Obj := fnObj ((inCls s_79)[1]!) "BareLibrary.title_of" none .none .none .none (.str "scheme.interpret" 1311) none (.ref 986) .none
noncomputable def e_987 : Obj := q_987
noncomputable def o_996 (P : Params) : Obj := ⟨(.type "dict"), none, (.dict #[⟨(kh P "__module__"), (.str "__module__" 1561), (.str "scheme.interpret" 1311)⟩, ⟨(kh P "__firstlineno__"), (.str "__firstlineno__" 1565), (.int 366 1564)⟩, ⟨(kh P "__init__"), (.str "__init__" 1573), (.ref 980)⟩, ⟨(kh P "title_of"), (.str "title_of" 1581), (.ref 987)⟩, ⟨(kh P "run"), (.str "run" 1590), (.ref 994)⟩, ⟨(kh P "__static_attributes__"), (.str "__static_attributes__" 1592), (.ref 995)⟩, ⟨(kh P "__dict__"), (.str "__dict__" 1594), (.ref 998)⟩, ⟨(kh P "__weakref__"), (.str "__weakref__" 1596), (.ref 999)⟩, ⟨(kh P "__doc__"), (.str "__doc__" 1597), .none⟩] 4), #[]⟩
noncomputable def o_997 (P : Params) : Obj := ⟨(.type "type"), none, (.cls ⟨"BareLibrary", [(.type "object")], [(.ref 997), (.type "object")], 996, "BareLibrary", true, [], [], false, none, false⟩), #[none, none, (some (.str "BareLibrary" 1554)), (some (.str "BareLibrary" 1562)), (some (.builtin "object.__new__")), (some (.bool true))]⟩
noncomputable def o_1014 (P : Params) : Obj := ⟨(.type "code"), none, (.fields #[(.str "__init__" 1612), (.str "Interpreter.__init__" 1613), (.str "/claim/cut.py" 1614), (.int 378 0), (.int 4 0), (.int 0 0), (.int 0 0), (.int 3 0), (.ref 1009), (.bool true), (.int 181 0), (.ref 1010), .none, (.ref 1011), (.ref 1012), (.ref 1013), (.int 1619 0), (.int 378 0), (.str "/claim/cut.py" 1620)]), #[]⟩
noncomputable def q_1015 : Obj := fnObj ((inCls s_80)[0]!) "Interpreter.__init__" none .none .none .none (.str "scheme.interpret" 1311) none (.ref 1014) .none
noncomputable def e_1015 : Obj := q_1015
noncomputable def o_1021 (P : Params) : Obj := ⟨(.type "code"), none, (.fields #[(.str "look" 1622), (.str "Interpreter.look" 1623), (.str "/claim/cut.py" 1624), (.int 389 0), (.int 3 0), (.int 0 0), (.int 0 0), (.int 3 0), (.ref 1016), (.bool true), (.int 181 0), (.ref 1017), .none, (.ref 1018), (.ref 1019), (.ref 1020), (.int 1628 0), (.int 389 0), (.str "/claim/cut.py" 1629)]), #[]⟩
noncomputable def q_1022 : Obj := fnObj ((inCls s_80)[1]!) "Interpreter.look" none .none .none .none (.str "scheme.interpret" 1311) none (.ref 1021) .none
noncomputable def e_1022 : Obj := q_1022
noncomputable def o_1028 (P : Params) : Obj := ⟨(.type "code"), none, (.fields #[(.str "call_next" 1631), (.str "Interpreter.call_next" 1632), (.str "/claim/cut.py" 1633), (.int 396 0), (.int 3 0), (.int 0 0), (.int 0 0), (.int 3 0), (.ref 1023), (.bool true), (.int 181 0), (.ref 1024), .none, (.ref 1025), (.ref 1026), (.ref 1027), (.int 1637 0), (.int 396 0), (.str "/claim/cut.py" 1638)]), #[]⟩
noncomputable def q_1029 : Obj := fnObj ((inCls s_80)[2]!) "Interpreter.call_next" none .none .none .none (.str "scheme.interpret" 1311) none (.ref 1028) .none
noncomputable def e_1029 : Obj := q_1029
noncomputable def o_1035 (P : Params) : Obj := ⟨(.type "code"), none, (.fields #[(.str "give" 1640), (.str "Interpreter.give" 1641), (.str "/claim/cut.py" 1642), (.int 403 0), (.int 2 0), (.int 0 0), (.int 0 0), (.int 3 0), (.ref 1030), (.bool true), (.int 181 0), (.ref 1031), .none, (.ref 1032), (.ref 1033), (.ref 1034), (.int 1645 0), (.int 403 0), (.str "/claim/cut.py" 1646)]), #[]⟩
noncomputable def q_1036 : Obj := fnObj ((inCls s_80)[3]!) "Interpreter.give" none .none .none .none (.str "scheme.interpret" 1311) none (.ref 1035) .none
noncomputable def e_1036 : Obj := q_1036
noncomputable def o_1042 (P : Params) : Obj := ⟨(.type "code"), none, (.fields #[(.str "push" 1648), (.str "Interpreter.push" 1649), (.str "/claim/cut.py" 1650), (.int 410 0), (.int 5 0), (.int 0 0), (.int 0 0), (.int 3 0), (.ref 1037), (.bool true), (.int 181 0), (.ref 1038), .none, (.ref 1039), (.ref 1040), (.ref 1041), (.int 1656 0), (.int 410 0), (.str "/claim/cut.py" 1657)]), #[]⟩
noncomputable def q_1043 : Obj := fnObj ((inCls s_80)[4]!) "Interpreter.push" none .none .none .none (.str "scheme.interpret" 1311) none (.ref 1042) .none
noncomputable def e_1043 : Obj := q_1043
noncomputable def o_1049 (P : Params) : Obj := ⟨(.type "code"), none, (.fields #[(.str "run" 1659), (.str "Interpreter.run" 1660), (.str "/claim/cut.py" 1661), (.int 415 0), (.int 2 0), (.int 0 0), (.int 0 0), (.int 3 0), (.ref 1044), (.bool true), (.int 181 0), (.ref 1045), .none, (.ref 1046), (.ref 1047), (.ref 1048), (.int 1665 0), (.int 415 0), (.str "/claim/cut.py" 1666)]), #[]⟩
noncomputable def q_1050 : Obj := fnObj ((inCls s_80)[5]!) "Interpreter.run" none .none .none .none (.str "scheme.interpret" 1311) none (.ref 1049) .none
noncomputable def e_1050 : Obj := q_1050
noncomputable def o_1056 (P : Params) : Obj := ⟨(.type "code"), none, (.fields #[(.str "finish" 1668), (.str "Interpreter.finish" 1669), (.str "/claim/cut.py" 1670), (.int 422 0), (.int 1 0), (.int 0 0), (.int 0 0), (.int 3 0), (.ref 1051), (.bool true), (.int 181 0), (.ref 1052), .none, (.ref 1053), (.ref 1054), (.ref 1055), (.int 1672 0), (.int 422 0), (.str "/claim/cut.py" 1673)]), #[]⟩
noncomputable def q_1057 : Obj := fnObj ((inCls s_80)[6]!) "Interpreter.finish" none .none .none .none (.str "scheme.interpret" 1311) none (.ref 1056) .none
noncomputable def e_1057 : Obj := q_1057
noncomputable def o_1063 (P : Params) : Obj := ⟨(.type "code"), none, (.fields #[(.str "step" 1675), (.str "Interpreter.step" 1676), (.str "/claim/cut.py" 1677), (.int 427 0), (.int 1 0), (.int 0 0), (.int 0 0), (.int 3 0), (.ref 1058), (.bool true), (.int 181 0), (.ref 1059), .none, (.ref 1060), (.ref 1061), (.ref 1062), (.int 1679 0), (.int 427 0), (.str "/claim/cut.py" 1680)]), #[]⟩
noncomputable def q_1064 : Obj := fnObj ((inCls s_80)[7]!) "Interpreter.step" none .none .none .none (.str "scheme.interpret" 1311) none (.ref 1063) .none
noncomputable def e_1064 : Obj := q_1064
noncomputable def o_1070 (P : Params) : Obj := ⟨(.type "code"), none, (.fields #[(.str "look_at" 1682), (.str "Interpreter.look_at" 1683), (.str "/claim/cut.py" 1684), (.int 438 0), (.int 3 0), (.int 0 0), (.int 0 0), (.int 3 0), (.ref 1065), (.bool true), (.int 181 0), (.ref 1066), .none, (.ref 1067), (.ref 1068), (.ref 1069), (.int 1689 0), (.int 438 0), (.str "/claim/cut.py" 1690)]), #[]⟩
noncomputable def q_1071 : Obj := fnObj ((inCls s_80)[8]!) "Interpreter.look_at" none .none .none .none (.str "scheme.interpret" 1311) none (.ref 1070) .none
noncomputable def e_1071 : Obj := q_1071
noncomputable def o_1077 (P : Params) : Obj := ⟨(.type "code"), none, (.fields #[(.str "look_further" 1692), (.str "Interpreter.look_further" 1693), (.str "/claim/cut.py" 1694), (.int 460 0), (.int 3 0), (.int 0 0), (.int 0 0), (.int 3 0), (.ref 1072), (.bool true), (.int 181 0), (.ref 1073), .none, (.ref 1074), (.ref 1075), (.ref 1076), (.int 1700 0), (.int 460 0), (.str "/claim/cut.py" 1701)]), #[]⟩
noncomputable def q_1078 : Obj := fnObj ((inCls s_80)[9]!) "Interpreter.look_further" none .none .none .none (.str "scheme.interpret" 1311) none (.ref 1077) .none
noncomputable def e_1078 : Obj := q_1078
noncomputable def o_1084 (P : Params) : Obj := ⟨(.type "code"), none, (.fields #[(.str "go_on_with" 1703), (.str "Interpreter.go_on_with" 1704), (.str "/claim/cut.py" 1705), (.int 477 0), (.int 4 0), (.int 0 0), (.int 0 0), (.int 3 0), (.ref 1079), (.bool true), (.int 181 0), (.ref 1080), .none, (.ref 1081), (.ref 1082), (.ref 1083), (.int 1710 0), (.int 477 0), (.str "/claim/cut.py" 1711)]), #[]⟩
noncomputable def q_1085 : Obj := fnObj ((inCls s_80)[10]!) "Interpreter.go_on_with" none .none .none .none (.str "scheme.interpret" 1311) none (.ref 1084) .none
noncomputable def e_1085 : Obj := q_1085
noncomputable def o_1091 (P : Params) : Obj := ⟨(.type "code"), none, (.fields #[(.str "local_value" 1713), (.str "Interpreter.local_value" 1714), (.str "/claim/cut.py" 1715), (.int 482 0), (.int 3 0), (.int 0 0), (.int 0 0), (.int 3 0), (.ref 1086), (.bool true), (.int 181 0), (.ref 1087), .none, (.ref 1088), (.ref 1089), (.ref 1090), (.int 1720 0), (.int 482 0), (.str "/claim/cut.py" 1721)]), #[]⟩
noncomputable def q_1092 : Obj := fnObj ((inCls s_80)[11]!) "Interpreter.local_value" none .none .none .none (.str "scheme.interpret" 1311) none (.ref 1091) .none
noncomputable def e_1092 : Obj := q_1092
noncomputable def o_1098 (P : Params) : Obj := ⟨(.type "code"), none, (.fields #[(.str "closure" 1723), (.str "Interpreter.closure" 1724), (.str "/claim/cut.py" 1725), (.int 488 0), (.int 3 0), (.int 0 0), (.int 0 0), (.int 3 0), (.ref 1093), (.bool true), (.int 181 0), (.ref 1094), .none, (.ref 1095), (.ref 1096), (.ref 1097), (.int 1729 0), (.int 488 0), (.str "/claim/cut.py" 1730)]), #[]⟩
noncomputable def q_1099 : Obj := fnObj ((inCls s_80)[12]!) "Interpreter.closure" none .none .none .none (.str "scheme.interpret" 1311) none (.ref 1098) .none
noncomputable def e_1099 : Obj := q_1099
noncomputable def o_1112 (P : Params) : Obj := ⟨(.type "code"), none, (.fields #[(.str "one_value" 1741), (.str "Interpreter.one_value" 1742), (.str "/claim/cut.py" 1743), (.int 494 0), (.int 2 0), (.int 0 0), (.int 0 0), (.int 3 0), (.ref 1107), (.bool true), (.int 181 0), (.ref 1108), .none, (.ref 1109), (.ref 1110), (.ref 1111), (.int 1746 0), (.int 494 0), (.str "/claim/cut.py" 1747)]), #[]⟩
noncomputable def q_1113 : Obj := fnObj ((inCls s_80)[14]!) "Interpreter.one_value" none .none .none .none (.str "scheme.interpret" 1311) none (.ref 1112) .none
noncomputable def e_1113 : Obj := q_1113
noncomputable def o_1119 (P : Params) : Obj := ⟨(.type "code"), none, (.fields #[(.str "hand_on" 1749), (.str "Interpreter.hand_on" 1750), (.str "/claim/cut.py" 1751), (.int 499 0), (.int 3 0), (.int 0 0), (.int 0 0), (.int 3 0), (.ref 1114), (.bool true), (.int 181 0), (.ref 1115), .none, (.ref 1116), (.ref 1117), (.ref 1118), (.int 1756 0), (.int 499 0), (.str "/claim/cut.py" 1757)]), #[]⟩
noncomputable def q_1120 : Obj := fnObj ((inCls s_80)[15]!) "Interpreter.hand_on" none .none .none .none (.str "scheme.interpret" 1311) none (.ref 1119) .none
noncomputable def e_1120 : Obj := q_1120
noncomputable def o_1126 (P : Params) : Obj := ⟨(.type "code"), none, (.fields #[(.str "assign" 1759), (.str "Interpreter.assign" 1760), (.str "/claim/cut.py" 1761), (.int 515 0), (.int 4 0), (.int 0 0), (.int 0 0), (.int 3 0), (.ref 1121), (.bool true), (.int 181 0), (.ref 1122), .none, (.ref 1123), (.ref 1124), (.ref 1125), (.int 1766 0), (.int 515 0), (.str "/claim/cut.py" 1767)]), #[]⟩
noncomputable def q_1127 : Obj := fnObj ((inCls s_80)[16]!) "Interpreter.assign" none .none .none .none (.str "scheme.interpret" 1311) none (.ref 1126) .none
noncomputable def e_1127 : Obj := q_1127
noncomputable def o_1133 (P : Params) : Obj := ⟨(.type "code"), none, (.fields #[(.str "add_operand" 1769), (.str "Interpreter.add_operand" 1770), (.str "/claim/cut.py" 1771), (.int 524 0), (.int 3 0), (.int 0 0), (.int 0 0), (.int 3 0), (.ref 1128), (.bool true), (.int 181 0), (.ref 1129), .none, (.ref 1130), (.ref 1131), (.ref 1132), (.int 1777 0), (.int 524 0), (.str "/claim/cut.py" 1778)]), #[]⟩
noncomputable def q_1134 : Obj := fnObj ((inCls s_80)[17]!) "Interpreter.add_operand" none .none .none .none (.str "scheme.interpret" 1311) none (.ref 1133) .none
noncomputable def e_1134 : Obj := q_1134
noncomputable def o_1147 (P : Params) : Obj := ⟨(.type "code"), none, (.fields #[(.str "make_call" 1791), (.str "Interpreter.make_call" 1792), (.str "/claim/cut.py" 1793), (.int 542 0), (.int 3 0), (.int 0 0), (.int 0 0), (.int 3 0), (.ref 1142), (.bool true), (.int 181 0), (.ref 1143), .none, (.ref 1144), (.ref 1145), (.ref 1146), (.int 1797 0), (.int 542 0), (.str "/claim/cut.py" 1798)]), #[]⟩
noncomputable def q_1148 : Obj := fnObj ((inCls s_80)[19]!) "Interpreter.make_call" none .none .none .none (.str "scheme.interpret" 1311) none (.ref 1147) .none
noncomputable def e_1148 : Obj := q_1148
noncomputable def o_1154 (P : Params) : Obj := ⟨(.type "code"), none, (.fields #[(.str "enter" 1800), (.str "Interpreter.enter" 1801), (.str "/claim/cut.py" 1802), (.int 557 0), (.int 3 0), (.int 0 0), (.int 0 0), (.int 3 0), (.ref 1149), (.bool true), (.int 181 0), (.ref 1150), .none, (.ref 1151), (.ref 1152), (.ref 1153), (.int 1810 0), (.int 557 0), (.str "/claim/cut.py" 1811)]), #[]⟩
noncomputable def q_1155 : Obj := fnObj ((inCls s_80)[20]!) "Interpreter.enter" none .none .none .none (.str "scheme.interpret" 1311) none (.ref 1154) .none
noncomputable def e_1155 : Obj := q_1155
noncomputable def o_1161 (P : Params) : Obj := ⟨(.type "code"), none, (.fields #[(.str "control" 1813), (.str "Interpreter.control" 1814), (.str "/claim/cut.py" 1815), (.int 569 0), (.int 3 0), (.int 0 0), (.int 0 0), (.int 3 0), (.ref 1156), (.bool true), (.int 181 0), (.ref 1157), .none, (.ref 1158), (.ref 1159), (.ref 1160), (.int 1821 0), (.int 569 0), (.str "/claim/cut.py" 1822)]), #[]⟩
noncomputable def q_1162 : Obj := fnObj ((inCls s_80)[21]!) "Interpreter.control" none .none .none .none (.str "scheme.interpret" 1311) none (.ref 1161) .none
noncomputable def e_1162 : Obj := q_1162
noncomputable def o_1164 (P : Params) : Obj := ⟨(.type "dict"), none, (.dict #[⟨(kh P "__module__"), (.str "__module__" 1607), (.str "scheme.interpret" 1311)⟩, ⟨(kh P "__firstlineno__"), (.str "__firstlineno__" 1611), (.int 376 1610)⟩, ⟨(kh P "__init__"), (.str "__init__" 1621), (.ref 1015)⟩, ⟨(kh P "look"), (.str "look" 1630), (.ref 1022)⟩, ⟨(kh P "call_next"), (.str "call_next" 1639), (.ref 1029)⟩, ⟨(kh P "give"), (.str "give" 1647), (.ref 1036)⟩, ⟨(kh P "push"), (.str "push" 1658), (.ref 1043)⟩, ⟨(kh P "run"), (.str "run" 1667), (.ref 1050)⟩, ⟨(kh P "finish"), (.str "finish" 1674), (.ref 1057)⟩, ⟨(kh P "step"), (.str "step" 1681), (.ref 1064)⟩, ⟨(kh P "look_at"), (.str "look_at" 1691), (.ref 1071)⟩, ⟨(kh P "look_further"), (.str "look_further" 1702), (.ref 1078)⟩, ⟨(kh P "go_on_with"), (.str "go_on_with" 1712), (.ref 1085)⟩, ⟨(kh P "local_value"), (.str "local_value" 1722), (.ref 1092)⟩, ⟨(kh P "closure"), (.str "closure" 1731), (.ref 1099)⟩, ⟨(kh P "primitive"), (.str "primitive" 1740), (.ref 1106)⟩, ⟨(kh P "one_value"), (.str "one_value" 1748), (.ref 1113)⟩, ⟨(kh P "hand_on"), (.str "hand_on" 1758), (.ref 1120)⟩, ⟨(kh P "assign"), (.str "assign" 1768), (.ref 1127)⟩, ⟨(kh P "add_operand"), (.str "add_operand" 1779), (.ref 1134)⟩, ⟨(kh P "add_primitive_operand"), (.str "add_primitive_operand" 1790), (.ref 1141)⟩, ⟨(kh P "make_call"), (.str "make_call" 1799), (.ref 1148)⟩, ⟨(kh P "enter"), (.str "enter" 1812), (.ref 1155)⟩, ⟨(kh P "control"), (.str "control" 1823), (.ref 1162)⟩, ⟨(kh P "__static_attributes__"), (.str "__static_attributes__" 1837), (.ref 1163)⟩, ⟨(kh P "__dict__"), (.str "__dict__" 1839), (.ref 1166)⟩, ⟨(kh P "__weakref__"), (.str "__weakref__" 1841), (.ref 1167)⟩, ⟨(kh P "__doc__"), (.str "__doc__" 1842), .none⟩] 4), #[]⟩
noncomputable def o_1165 (P : Params) : Obj := ⟨(.type "type"), none, (.cls ⟨"Interpreter", [(.type "object")], [(.ref 1165), (.type "object")], 1164, "Interpreter", true, [], [], false, none, false⟩), #[none, none, (some (.str "Interpreter" 1600)), (some (.str "Interpreter" 1608)), (some (.builtin "object.__new__")), (some (.bool true))]⟩
noncomputable def o_1287 (P : Params) : Obj := ⟨(.type "code"), none, (.fields #[(.str "__init__" 1994), (.str "ObjectStore.__init__" 1995), (.str "/claim/cut.py" 1996), (.int 619 0), (.int 2 0), (.int 0 0), (.int 0 0), (.int 3 0), (.ref 1282), (.bool true), (.int 181 0), (.ref 1283), .none, (.ref 1284), (.ref 1285), (.ref 1286), (.int 1999 0), (.int 619 0), (.str "/claim/cut.py" 2000)]), #[]⟩
noncomputable def q_1288 : Obj := fnObj ((inCls s_97)[0]!) "ObjectStore.__init__" none .none .none .none (.str "scheme.objects" 1980) none (.ref 1287) .none
noncomputable def e_1288 : Obj := q_1288
noncomputable def o_1640 (P : Params) : Obj := ⟨(.type "dict"), none, (.dict #[⟨(kh P "__module__"), (.str "__module__" 1989), (.str "scheme.objects" 1980)⟩, ⟨(kh P "__firstlineno__"), (.str "__firstlineno__" 1993), (.int 617 1992)⟩, ⟨(kh P "__init__"), (.str "__init__" 2001), (.ref 1288)⟩, ⟨(kh P "boolean"), (.str "boolean" 2009), (.ref 1295)⟩, ⟨(kh P "is_boolean"), (.str "is_boolean" 2017), (.ref 1302)⟩, ⟨(kh P "is_true"), (.str "is_true" 2025), (.ref 1309)⟩, ⟨(kh P "empty"), (.str "empty" 2032), (.ref 1316)⟩, ⟨(kh P "is_empty"), (.str "is_empty" 2040), (.ref 1323)⟩, ⟨(kh P "unspecified"), (.str "unspecified" 2047), (.ref 1330)⟩, ⟨(kh P "unassigned"), (.str "unassigned" 2054), (.ref 1337)⟩, ⟨(kh P "is_unassigned"), (.str "is_unassigned" 2062), (.ref 1344)⟩, ⟨(kh P "eof"), (.str "eof" 2069), (.ref 1351)⟩, ⟨(kh P "is_eof"), (.str "is_eof" 2077), (.ref 1358)⟩, ⟨(kh P "pair"), (.str "pair" 2086), (.ref 1365)⟩, ⟨(kh P "is_pair"), (.str "is_pair" 2094), (.ref 1372)⟩, ⟨(kh P "car"), (.str "car" 2102), (.ref 1379)⟩, ⟨(kh P "cdr"), (.str "cdr" 2110), (.ref 1386)⟩, ⟨(kh P "set_car"), (.str "set_car" 2119), (.ref 1393)⟩, ⟨(kh P "set_cdr"), (.str "set_cdr" 2128), (.ref 1400)⟩, ⟨(kh P "symbol"), (.str "symbol" 2136), (.ref 1407)⟩, ⟨(kh P "is_symbol"), (.str "is_symbol" 2144), (.ref 1414)⟩, ⟨(kh P "symbol_number"), (.str "symbol_number" 2152), (.ref 1421)⟩, ⟨(kh P "char"), (.str "char" 2160), (.ref 1428)⟩, ⟨(kh P "is_char"), (.str "is_char" 2168), (.ref 1435)⟩, ⟨(kh P "char_code"), (.str "char_code" 2176), (.ref 1442)⟩, ⟨(kh P "string"), (.str "string" 2184), (.ref 1449)⟩, ⟨(kh P "is_string"), (.str "is_string" 2192), (.ref 1456)⟩, ⟨(kh P "string_length"), (.str "string_length" 2200), (.ref 1463)⟩, ⟨(kh P "string_code"), (.str "string_code" 2209), (.ref 1470)⟩, ⟨(kh P "set_string_code"), (.str "set_string_code" 2219), (.ref 1477)⟩, ⟨(kh P "vector"), (.str "vector" 2227), (.ref 1484)⟩, ⟨(kh P "is_vector"), (.str "is_vector" 2235), (.ref 1491)⟩, ⟨(kh P "vector_length"), (.str "vector_length" 2243), (.ref 1498)⟩, ⟨(kh P "vector_item"), (.str "vector_item" 2252), (.ref 1505)⟩, ⟨(kh P "set_vector_item"), (.str "set_vector_item" 2262), (.ref 1512)⟩, ⟨(kh P "number"), (.str "number" 2270), (.ref 1519)⟩, ⟨(kh P "is_number"), (.str "is_number" 2278), (.ref 1526)⟩, ⟨(kh P "number_of"), (.str "number_of" 2286), (.ref 1533)⟩, ⟨(kh P "box"), (.str "box" 2294), (.ref 1540)⟩, ⟨(kh P "unbox"), (.str "unbox" 2302), (.ref 1547)⟩, ⟨(kh P "set_box"), (.str "set_box" 2311), (.ref 1554)⟩, ⟨(kh P "promise"), (.str "promise" 2320), (.ref 1561)⟩, ⟨(kh P "is_promise"), (.str "is_promise" 2328), (.ref 1568)⟩, ⟨(kh P "promise_is_done"), (.str "promise_is_done" 2336), (.ref 1575)⟩, ⟨(kh P "promise_content"), (.str "promise_content" 2344), (.ref 1582)⟩, ⟨(kh P "settle"), (.str "settle" 2353), (.ref 1589)⟩, ⟨(kh P "port"), (.str "port" 2361), (.ref 1596)⟩, ⟨(kh P "is_port"), (.str "is_port" 2369), (.ref 1603)⟩, ⟨(kh P "port_number"), (.str "port_number" 2377), (.ref 1610)⟩, ⟨(kh P "is_procedure"), (.str "is_procedure" 2385), (.ref 1617)⟩, ⟨(kh P "same"), (.str "same" 2394), (.ref 1624)⟩, ⟨(kh P "datum"), (.str "datum" 2402), (.ref 1631)⟩, ⟨(kh P "from_datum"), (.str "from_datum" 2410), (.ref 1638)⟩, ⟨(kh P "__static_attributes__"), (.str "__static_attributes__" 2412), (.ref 1639)⟩, ⟨(kh P "__dict__"), (.str "__dict__" 2414), (.ref 1642)⟩, ⟨(kh P "__weakref__"), (.str "__weakref__" 2416), (.ref 1643)⟩, ⟨(kh P "__doc__"), (.str "__doc__" 2417), .none⟩] 4), #[]⟩
noncomputable def o_1641 (P : Params) : Obj := ⟨(.type "type"), none, (.cls ⟨"ObjectStore", [(.type "object")], [(.ref 1641), (.type "object")], 1640, "ObjectStore", true, [], [], false, none, false⟩), #[none, none, (some (.str "ObjectStore" 1982)), (some (.str "ObjectStore" 1990)), (some (.builtin "object.__new__")), (some (.bool true))]⟩
noncomputable def o_1651 (P : Params) : Obj := ⟨(.type "code"), none, (.fields #[(.str "_law_draw" 2422), (.str "_law_draw" 2423), (.str "/claim/cut.py" 2424), (.int 784 0), (.int 2 0), (.int 0 0), (.int 0 0), (.int 3 0), (.ref 1646), (.bool true), (.int 181 0), (.ref 1647), .none, (.ref 1648), (.ref 1649), (.ref 1650), (.int 2427 0), (.int 784 0), (.str "/claim/cut.py" 2428)]), #[]⟩
noncomputable def q_1652 : Obj := fnObj (s_99) "_law_draw" none .none .none .none (.str "law_nt0264_01" 2420) none (.ref 1651) .none
noncomputable def e_1652 : Obj := q_1652
noncomputable def o_1658 (P : Params) : Obj := ⟨(.type "code"), none, (.fields #[(.str "_law_within" 2430), (.str "_law_within" 2431), (.str "/claim/cut.py" 2432), (.int 789 0), (.int 3 0), (.int 0 0), (.int 0 0), (.int 3 0), (.ref 1653), (.bool true), (.int 181 0), (.ref 1654), .none, (.ref 1655), (.ref 1656), (.ref 1657), (.int 2439 0), (.int 789 0), (.str "/claim/cut.py" 2440)]), #[]⟩
noncomputable def q_1659 : Obj := fnObj (s_100) "_law_within" none .none .none .none (.str "law_nt0264_01" 2420) none (.ref 1658) .none
noncomputable def e_1659 : Obj := q_1659
noncomputable def o_1665 (P : Params) : Obj := ⟨(.type "code"), none, (.fields #[(.str "_law_program" 2442), (.str "_law_program" 2443), (.str "/claim/cut.py" 2444), (.int 805 0), (.int 3 0), (.int 0 0), (.int 0 0), (.int 3 0), (.ref 1660), (.bool true), (.int 181 0), (.ref 1661), .none, (.ref 1662), (.ref 1663), (.ref 1664), (.int 2452 0), (.int 805 0), (.str "/claim/cut.py" 2453)]), #[]⟩
noncomputable def q_1666 : Obj := fnObj (s_101) "_law_program" none .none .none .none (.str "law_nt0264_01" 2420) none (.ref 1665) .none
noncomputable def e_1666 : Obj := q_1666
noncomputable def o_1670 (P : Params) : Obj := ⟨(.type "code"), none, (.fields #[(.str "_law_ran" 2455), (.str "_law_ran" 2456), (.str "/claim/cut.py" 2457), (.int 814 0), (.int 5 0), (.int 0 0), (.int 0 0), (.int 3 0), (.ref 1667), (.bool true), (.int 181 0), (.ref 1668), .none, .none, .none, (.ref 1669), (.int 2458 0), (.int 814 0), (.str "/claim/cut.py" 2459)]), #[]⟩
noncomputable def q_1671 : Obj := fnObj (s_102) "_law_ran" none .none .none .none (.str "law_nt0264_01" 2420) none (.ref 1670) .none
noncomputable def e_1671 : Obj := q_1671
noncomputable def o_1675 (P : Params) : Obj := ⟨(.type "code"), none, (.fields #[(.str "law" 2461), (.str "law" 2462), (.str "/claim/cut.py" 2463), (.int 823 0), (.int 1 0), (.int 0 0), (.int 0 0), (.int 3 0), (.ref 1672), (.bool true), (.int 181 0), (.ref 1673), .none, .none, .none, (.ref 1674), (.int 2464 0), (.int 823 0), (.str "/claim/cut.py" 2465)]), #[]⟩
noncomputable def q_1676 : Obj := fnObj (s_103) "law" none .none .none .none (.str "law_nt0264_01" 2420) none (.ref 1675) .none
noncomputable def e_1676 : Obj := q_1676
noncomputable def K : Params → Frag := fun P => (nat_lit 34, (o_34 P)) :: (nat_lit 35, e_35) :: (nat_lit 37, (o_37 P)) :: (nat_lit 38, (o_38 P)) :: (nat_lit 43, (o_43 P)) :: (nat_lit 44, (o_44 P)) :: (nat_lit 46, (o_46 P)) :: (nat_lit 47, (o_47 P)) :: (nat_lit 49, (o_49 P)) :: (nat_lit 50, (o_50 P)) :: (nat_lit 64, (o_64 P)) :: (nat_lit 65, e_65) :: (nat_lit 67, (o_67 P)) :: (nat_lit 68, (o_68 P)) :: (nat_lit 85, (o_85 P)) :: (nat_lit 86, e_86) :: (nat_lit 92, (o_92 P)) :: (nat_lit 93, e_93) :: (nat_lit 130, (o_130 P)) :: (nat_lit 131, (o_131 P)) :: (nat_lit 211, (o_211 P)) :: (nat_lit 212, e_212) :: (nat_lit 235, (o_235 P)) :: (nat_lit 236, (o_236 P)) :: (nat_lit 252, (o_252 P)) :: (nat_lit 253, e_253) :: (nat_lit 447, (o_447 P)) :: (nat_lit 448, (o_448 P)) :: (nat_lit 449, (o_449 P)) :: (nat_lit 450, (o_450 P)) :: (nat_lit 451, (o_451 P)) :: (nat_lit 464, (o_464 P)) :: (nat_lit 465, e_465) :: (nat_lit 467, (o_467 P)) :: (nat_lit 468, (o_468 P)) :: (nat_lit 476, (o_476 P)) :: (nat_lit 477, e_477) :: (nat_lit 483, (o_483 P)) :: (nat_lit 484, e_484) :: (nat_lit 490, (o_490 P)) :: (nat_lit 491, e_491) :: (nat_lit 497, (o_497 P)) :: (nat_lit 498, e_498) :: (nat_lit 525, (o_525 P)) :: (nat_lit 526, e_526) :: (nat_lit 553, (o_553 P)) :: (nat_lit 554, e_554) :: (nat_lit 556, (o_556 P)) :: (nat_lit 557, (o_557 P)) :: (nat_lit 572, (o_572 P)) :: (nat_lit 573, e_573) :: (nat_lit 575, (o_575 P)) :: (nat_lit 576, (o_576 P)) :: (nat_lit 591, (o_591 P)) :: (nat_lit 592, e_592) :: (nat_lit 594, (o_594 P)) :: (nat_lit 595, (o_595 P)) :: (nat_lit 610, (o_610 P)) :: (nat_lit 611, e_611) :: (nat_lit 617, (o_617 P)) :: (nat_lit 618, e_618) :: (nat_lit 627, (o_627 P)) :: (nat_lit 628, (o_628 P)) :: (nat_lit 643, (o_643 P)) :: (nat_lit 644, e_644) :: (nat_lit 650, (o_650 P)) :: (nat_lit 651, e_651) :: (nat_lit 660, (o_660 P)) :: (nat_lit 661, (o_661 P)) :: (nat_lit 676, (o_676 P)) :: (nat_lit 677, e_677) :: (nat_lit 683, (o_683 P)) :: (nat_lit 684, e_684) :: (nat_lit 707, (o_707 P)) :: (nat_lit 708, (o_708 P)) :: (nat_lit 723, (o_723 P)) :: (nat_lit 724, e_724) :: (nat_lit 730, (o_730 P)) :: (nat_lit 731, e_731) :: (nat_lit 740, (o_740 P)) :: (nat_lit 741, (o_741 P)) :: (nat_lit 756, (o_756 P)) :: (nat_lit 757, e_757) :: (nat_lit 763, (o_763 P)) :: (nat_lit 764, e_764) :: (nat_lit 773, (o_773 P)) :: (nat_lit 774, (o_774 P)) :: (nat_lit 789, (o_789 P)) :: (nat_lit 790, e_790) :: (nat_lit 796, (o_796 P)) :: (nat_lit 797, e_797) :: (nat_lit 806, (o_806 P)) :: (nat_lit 807, (o_807 P)) :: (nat_lit 822, (o_822 P)) :: (nat_lit 823, e_823) :: (nat_lit 836, (o_836 P)) :: (nat_lit 837, e_837) :: (nat_lit 843, (o_843 P)) :: (nat_lit 844, e_844) :: (nat_lit 850, (o_850 P)) :: (nat_lit 851, e_851) :: (nat_lit 853, (o_853 P)) :: (nat_lit 854, (o_854 P)) :: (nat_lit 871, (o_871 P)) :: (nat_lit 872, e_872) :: (nat_lit 878, (o_878 P)) :: (nat_lit 879, e_879) :: (nat_lit 881, (o_881 P)) :: (nat_lit 882, (o_882 P)) :: (nat_lit 892, (o_892 P)) :: (nat_lit 893, e_893) :: (nat_lit 906, (o_906 P)) :: (nat_lit 907, e_907) :: (nat_lit 909, (o_909 P)) :: (nat_lit 910, (o_910 P)) :: (nat_lit 927, (o_927 P)) :: (nat_lit 928, e_928) :: (nat_lit 934, (o_934 P)) :: (nat_lit 935, e_935) :: (nat_lit 937, (o_937 P)) :: (nat_lit 938, (o_938 P)) :: (nat_lit 953, (o_953 P)) :: (nat_lit 954, e_954) :: (nat_lit 956, (o_956 P)) :: (nat_lit 957, (o_957 P)) :: (nat_lit 965, (o_965 P)) :: (nat_lit 966, e_966) :: (nat_lit 979, (o_979 P)) :: (nat_lit 980, e_980) :: (nat_lit 986, (o_986 P)) :: (nat_lit 987, e_987) :: (nat_lit 996, (o_996 P)) :: (nat_lit 997, (o_997 P)) :: (nat_lit 1014, (o_1014 P)) :: (nat_lit 1015, e_1015) :: (nat_lit 1021, (o_1021 P)) :: (nat_lit 1022, e_1022) :: (nat_lit 1028, (o_1028 P)) :: (nat_lit 1029, e_1029) :: (nat_lit 1035, (o_1035 P)) :: (nat_lit 1036, e_1036) :: (nat_lit 1042, (o_1042 P)) :: (nat_lit 1043, e_1043) :: (nat_lit 1049, (o_1049 P)) :: (nat_lit 1050, e_1050) :: (nat_lit 1056, (o_1056 P)) :: (nat_lit 1057, e_1057) :: (nat_lit 1063, (o_1063 P)) :: (nat_lit 1064, e_1064) :: (nat_lit 1070, (o_1070 P)) :: (nat_lit 1071, e_1071) :: (nat_lit 1077, (o_1077 P)) :: (nat_lit 1078, e_1078) :: (nat_lit 1084, (o_1084 P)) :: (nat_lit 1085, e_1085) :: (nat_lit 1091, (o_1091 P)) :: (nat_lit 1092, e_1092) :: (nat_lit 1098, (o_1098 P)) :: (nat_lit 1099, e_1099) :: (nat_lit 1112, (o_1112 P)) :: (nat_lit 1113, e_1113) :: (nat_lit 1119, (o_1119 P)) :: (nat_lit 1120, e_1120) :: (nat_lit 1126, (o_1126 P)) :: (nat_lit 1127, e_1127) :: (nat_lit 1133, (o_1133 P)) :: (nat_lit 1134, e_1134) :: (nat_lit 1147, (o_1147 P)) :: (nat_lit 1148, e_1148) :: (nat_lit 1154, (o_1154 P)) :: (nat_lit 1155, e_1155) :: (nat_lit 1161, (o_1161 P)) :: (nat_lit 1162, e_1162) :: (nat_lit 1164, (o_1164 P)) :: (nat_lit 1165, (o_1165 P)) :: (nat_lit 1287, (o_1287 P)) :: (nat_lit 1288, e_1288) :: (nat_lit 1640, (o_1640 P)) :: (nat_lit 1641, (o_1641 P)) :: (nat_lit 1651, (o_1651 P)) :: (nat_lit 1652, e_1652) :: (nat_lit 1658, (o_1658 P)) :: (nat_lit 1659, e_1659) :: (nat_lit 1665, (o_1665 P)) :: (nat_lit 1666, e_1666) :: (nat_lit 1670, (o_1670 P)) :: (nat_lit 1671, e_1671) :: (nat_lit 1675, (o_1675 P)) :: (nat_lit 1676, e_1676) :: (nat_lit 2, (o_2 P)) :: (nat_lit 3, (o_3 P)) :: (nat_lit 214, (o_214 P)) :: (nat_lit 215, (o_215 P)) :: (nat_lit 535, (o_535 P)) :: (nat_lit 536, (o_536 P)) :: []
end NT
end
section
open PySem PySem.W PySem.Calls PyProof.Rows
namespace NT
inductive KH where
  | nil
  | leaf (o : Obj)
  | node (l r : KH)
noncomputable def KH.l : KH → KH
  | .node l _ => l
  | .leaf _ => .nil
  | .nil => .nil
noncomputable def KH.r : KH → KH
  | .node _ r => r
  | .leaf _ => .nil
  | .nil => .nil
noncomputable def KH.top : KH → Option Obj
  | .leaf o => some o
  | .node _ _ => none
  | .nil => none
noncomputable def bitsN : Nat → Nat → List Bool
  | 0, _ => []
  | f + 1, i => Nat.beq (i % 2) 1 :: bitsN f (i / 2)
noncomputable def kgetP : List Bool → KH → Option Obj
  | [], t => t.top
  | b :: p, t => match b with
    | true => kgetP p t.l
    | false => kgetP p t.r
noncomputable def kputP : List Bool → KH → Obj → KH
  | [], _, o => .leaf o
  | b :: p, t, o => match b with
    | true => .node (kputP p t.l o) t.r
    | false => .node t.l (kputP p t.r o)
noncomputable def gd {α : Type} (b : Bool) (x : α) : Option α := match b with
  | true => some x
  | false => none
theorem gd_some {α : Type} {b : Bool} {x y : α} (h : gd b x = some y) : b = true ∧ x = y := by
  walk_at "e"; cases b with
  | true => walk_at "l"; exact ⟨rfl, Option.some.inj h⟩
  | false => walk_at "e"; cases h
noncomputable def KH.get (t : KH) (i : Nat) : Option Obj := (gd (Nat.blt i 1048576) ()).bind fun zz => kgetP (bitsN 20 i) t
noncomputable def kput (t : KH) (i : Nat) (o : Obj) : KH := kputP (bitsN 20 i) t o
theorem bitsN_len : ∀ f i, (bitsN f i).length = f
  | 0, _ => rfl
  | f + 1, i => congrArg Nat.succ (bitsN_len f (i / 2))
theorem bit_eq {i j : Nat} (h : Nat.beq (i % 2) 1 = Nat.beq (j % 2) 1) (h2 : i / 2 = j / 2) : i = j := by
  have m : i % 2 = j % 2 := by
    walk_at "l"; rcases Nat.mod_two_eq_zero_or_one i with a | a <;> rcases Nat.mod_two_eq_zero_or_one j with b | b <;> rw [a, b] at h ⊢ <;> cases h
  walk_at "l"; rw [← Nat.div_add_mod i 2, ← Nat.div_add_mod j 2, h2, m]
theorem bitsN_inj : ∀ {f i j : Nat}, i < 2 ^ f → j < 2 ^ f → bitsN f i = bitsN f j → i = j
  | 0, i, j, hi, hj, _ => by rw [Nat.lt_one_iff.mp hi, Nat.lt_one_iff.mp hj]
  | f + 1, i, j, hi, hj, h => bit_eq (List.cons.inj h).1 (bitsN_inj (Nat.div_lt_of_lt_mul (by rw [Nat.pow_succ, Nat.mul_comm] at hi; exact hi)) (Nat.div_lt_of_lt_mul (by rw [Nat.pow_succ, Nat.mul_comm] at hj; exact hj)) (List.cons.inj h).2)
theorem kgetP_nil : ∀ q : List Bool, kgetP q .nil = none
  | [] => rfl
  | true :: q => kgetP_nil q
  | false :: q => kgetP_nil q
theorem kgetP_same (o : Obj) : ∀ (p : List Bool) (t : KH), kgetP p (kputP p t o) = some o
  | [], _ => rfl
  | true :: p, t => kgetP_same o p t.l
  | false :: p, t => kgetP_same o p t.r
theorem kgetP_ne (o : Obj) : ∀ (p q : List Bool) (t : KH), p.length = q.length → p ≠ q → kgetP q (kputP p t o) = kgetP q t
  | [], [], _, _, h => absurd rfl h
  | true :: p, true :: q, t, e, h => kgetP_ne o p q t.l (Nat.succ.inj e) fun x => h (congrArg _ x)
  | false :: p, false :: q, t, e, h => kgetP_ne o p q t.r (Nat.succ.inj e) fun x => h (congrArg _ x)
  | true :: p, false :: q, t, _, _ => rfl
  | false :: p, true :: q, t, _, _ => rfl
  | [], _ :: _, _, e, _ => nomatch e
  | _ :: _, [], _, e, _ => nomatch e
theorem blt_lt {i : Nat} (h : Nat.blt i 1048576 = true) : i < 2 ^ 20 := Nat.le_of_ble_eq_true h
theorem kget_nil {i : Nat} {v : Obj} (h : KH.get .nil i = some v) : False := by
  walk_at "e"; obtain ⟨_, _, h⟩ := Option.bind_eq_some_iff.mp h
  rw [kgetP_nil] at h
  walk_at "e"; cases h
theorem kget_same {t : KH} {i : Nat} {o v : Obj} (h : (kput t i o).get i = some v) : v = o := by
  walk_at "e"; obtain ⟨_, _, h⟩ := Option.bind_eq_some_iff.mp h
  walk_at "l"; exact Option.some.inj (h.symm.trans (kgetP_same o _ t))
theorem kget_other {t : KH} {i j : Nat} {o v : Obj} (lt : i < 2 ^ 20) (ne : j ≠ i) (h : (kput t i o).get j = some v) : t.get j = some v := by
  walk_at "e"; obtain ⟨_, h1, h2⟩ := Option.bind_eq_some_iff.mp h
  walk_at "l"; refine Option.bind_eq_some_iff.mpr ⟨(), h1, ?_⟩
  walk_at "l"; exact (kgetP_ne o _ _ t ((bitsN_len 20 i).trans (bitsN_len 20 j).symm) fun e => ne (bitsN_inj lt (blt_lt (gd_some h1).1) e).symm).symm.trans h2
structure SK where
  kt : KH
  n : Nat
  gens : Array GenState
  drawn : Drawn
  toks : Nat
  os : OsState
noncomputable def turnable (a : Nat) : Bool := Nat.beq a 2 || Nat.beq a 3 || Nat.beq a 12 || Nat.beq a 215 || Nat.beq a 270 || Nat.beq a 536
noncomputable def upOk (bs a : Nat) : Bool := Nat.ble bs a || turnable a
noncomputable def goK (T : KH) (n : Nat) : PySem.Step → Option (SK × Thread)
  | .go s' t' => some (⟨T, n, s'.gens, s'.drawn, s'.toks, s'.os⟩, t')
  | .halt _ _ => none
noncomputable def stepK (den : Code → Sem Fin) (p : Program) (w : World) (bs : Nat) : SK → Thread → Option (SK × Thread)
  | ⟨T, n, gens, drawn, toks, os⟩, ⟨cur, code, pos, stack⟩ => match cur with
    | .load a _ k => (T.get a).map fun o => (⟨T, n, gens, drawn, toks, os⟩, ⟨k o, code, pos, stack⟩)
    | .update a _ f k => (T.get a).bind fun o => (alive (f o)).bind fun zz => gd (Nat.blt a 1000000 && upOk bs a) (⟨kput T a (f o), n, gens, drawn, toks, os⟩, ⟨k (), code, pos, stack⟩)
    | .alloc o k => (alive o).bind fun zz => gd (Nat.blt n 1000000) (⟨kput T n o, n + 1, gens, drawn, toks, os⟩, ⟨k n, code, pos, stack⟩)
    | .loadIfAlive a k => match T.get a with
      | some o => some (⟨T, n, gens, drawn, toks, os⟩, ⟨k (some o), code, pos, stack⟩)
      | none => gd (Nat.ble n a) (⟨T, n, gens, drawn, toks, os⟩, ⟨k none, code, pos, stack⟩)
    | c => goK T n (step den p w ⟨{}, gens, drawn, toks, os⟩ ⟨c, code, pos, stack⟩)
structure RepK (s : SK) (σ : Shared) : Prop where
  size : σ.heap.objs.size = s.n
  get : ∀ a o, s.kt.get a = some o → σ.heap.get? a = some o
  gens : σ.gens = s.gens
  drawn : σ.drawn = s.drawn
  toks : σ.toks = s.toks
  os : σ.os = s.os
structure FrK (bs : Nat) (s s' : SK) (σ σ' : Shared) : Prop where
  keep : ∀ a o, upOk bs a = false → σ.heap.get? a = some o → σ'.heap.get? a = some o
  grow : s.n ≤ s'.n
theorem FrK.refl {bs : Nat} {s : SK} {σ : Shared} : FrK bs s s σ σ := ⟨fun zz zz zz e => e, Nat.le_refl _⟩
theorem FrK.trans {bs : Nat} {s s' s'' : SK} {σ σ' σ'' : Shared} (x : FrK bs s s' σ σ') (y : FrK bs s' s'' σ' σ'') : FrK bs s s'' σ σ'' :=
  ⟨fun a o h e => y.keep a o h (x.keep a o h e), Nat.le_trans x.grow y.grow⟩
theorem alive_of {o o' : Obj} (h : alive o = some o') : o.isFreed = false := by
  walk_at "e"; obtain ⟨c, d, dt, sl⟩ := o
  walk_at "l"; cases dt <;> first | rfl | (simp [alive] at h)
theorem rep_turn {s : SK} {σ : Shared} {a : Nat} {f : Obj → Obj} {o o' : Obj} (R : RepK s σ) (h : s.kt.get a = some o) (ha : alive (f o) = some o') (lt : a < 2 ^ 20) : RepK ⟨kput s.kt a (f o), s.n, s.gens, s.drawn, s.toks, s.os⟩ ⟨σ.heap.update a f, σ.gens, σ.drawn, σ.toks, σ.os⟩ :=
  ⟨(by simpa using R.size), fun b v hb => by
    walk_at "e"; by_cases e : b = a
    · walk_at "l"; rw [e] at hb ⊢
      walk_at "l"; rw [kget_same hb]
      walk_at "l"; exact Heap.get?_update_self f (R.get a o h) (alive_of ha)
    · walk_at "l"; exact (Heap.get?_update_other _ f (Ne.symm e)).trans (R.get b v (kget_other lt e hb)), R.gens, R.drawn, R.toks, R.os⟩
theorem rep_push {s : SK} {σ : Shared} {o o' : Obj} (R : RepK s σ) (ha : alive o = some o') (lt : s.n < 2 ^ 20) : RepK ⟨kput s.kt s.n o, s.n + 1, s.gens, s.drawn, s.toks, s.os⟩ ⟨σ.heap.push o, σ.gens, σ.drawn, σ.toks, σ.os⟩ :=
  ⟨(by simpa using R.size), fun b v hb => by
    walk_at "e"; by_cases e : b = s.n
    · rw [e] at hb
      walk_at "l"; rw [kget_same hb, e, ← R.size]
      walk_at "l"; exact Heap.get?_push_size _ (alive_of ha)
    · walk_at "l"; exact Heap.get?_push_of_some _ (R.get b v (kget_other lt e hb)), R.gens, R.drawn, R.toks, R.os⟩
section
variable {den : Code → Sem Fin} {p : Program} {w : World} {bs : Nat}
inductive GoK (den : Code → Sem Fin) (p : Program) (w : World) (bs : Nat) (s s' : SK) (t t' : Thread) (σ : Shared) : Prop
  | mk (σ') : (step den p w σ t = .go σ' t') → (RepK s' σ') → (FrK bs s s' σ σ') → GoK den p w bs s s' t t' σ
theorem small_lt {a : Nat} (h : Nat.blt a 1000000 = true) : a < 2 ^ 20 := Nat.lt_trans (Nat.le_of_ble_eq_true h) (by decide)
theorem load_ok {s s' : SK} {t t' : Thread} {σ : Shared} {a : Nat} {F : Obj → Thread} (h : (s.kt.get a).map (fun o => (s, F o)) = some (s', t')) (R : RepK s σ) (e : ∀ o, σ.heap.get? a = some o → step den p w σ t = .go σ (F o)) : GoK den p w bs s s' t t' σ := by
  walk_at "e"; obtain ⟨o, h1, h2⟩ := Option.map_eq_some_iff.mp h
  walk_at "l"; rw [← (Prod.mk.inj h2).1, ← (Prod.mk.inj h2).2]
  walk_at "l"; exact ⟨σ, e o (R.get a o h1), R, .refl⟩
theorem turn_ev {s s' : SK} {t t' t₁ : Thread} {σ : Shared} {a : Nat} {f : Obj → Obj} (h : ((s.kt.get a).bind fun o => (alive (f o)).bind fun zz => gd (Nat.blt a 1000000 && upOk bs a) ((⟨kput s.kt a (f o), s.n, s.gens, s.drawn, s.toks, s.os⟩ : SK), t₁)) = some (s', t')) (R : RepK s σ)
    (e : (σ.heap.get? a).isSome = true → step den p w σ t = .go ⟨σ.heap.update a f, σ.gens, σ.drawn, σ.toks, σ.os⟩ t₁) : GoK den p w bs s s' t t' σ := by
  walk_at "e"; obtain ⟨o, h1, h⟩ := Option.bind_eq_some_iff.mp h
  walk_at "e"; obtain ⟨o', h2, h⟩ := Option.bind_eq_some_iff.mp h
  have hb := Bool.and_eq_true_iff.mp (gd_some h).1
  have h := Prod.mk.inj (gd_some h).2
  walk_at "l"; rw [← h.1, ← h.2]
  walk_at "l"; exact ⟨_, e (by rw [R.get a o h1]; rfl), rep_turn R h1 h2 (small_lt hb.1), fun b v hu hh => (Heap.get?_update_other _ f (fun q => by rw [← q, hb.2] at hu; cases hu)).trans hh, Nat.le_refl _⟩
theorem push_ok {s s' : SK} {t t' t₁ : Thread} {σ : Shared} {o : Obj} (h : ((alive o).bind fun zz => gd (Nat.blt s.n 1000000) ((⟨kput s.kt s.n o, s.n + 1, s.gens, s.drawn, s.toks, s.os⟩ : SK), t₁)) = some (s', t')) (R : RepK s σ)
    (e : step den p w σ t = .go ⟨σ.heap.push o, σ.gens, σ.drawn, σ.toks, σ.os⟩ t₁) : GoK den p w bs s s' t t' σ := by
  walk_at "e"; obtain ⟨o', h2, h⟩ := Option.bind_eq_some_iff.mp h
  have lt := small_lt (gd_some h).1
  have h := Prod.mk.inj (gd_some h).2
  walk_at "l"; rw [← h.1, ← h.2]
  walk_at "l"; exact ⟨_, e, rep_push R h2 lt, fun b v zz hh => Heap.get?_push_of_some _ hh, Nat.le_succ _⟩
theorem gone {h : Heap} {a : Nat} (le : h.objs.size ≤ a) : h.get? a = none := by
  walk_at "l"; cases q : h.get? a with
  | none => walk_at "l"; rfl
  | some o => walk_at "l"; exact absurd (Heap.lt_size q) (Nat.not_lt.mpr le)
theorem seek_ok {s s' : SK} {t t' : Thread} {σ : Shared} {a : Nat} {F : Option Obj → Thread} (h : (match s.kt.get a with
      | some o => some (s, F (some o))
      | none => gd (Nat.ble s.n a) (s, F none)) = some (s', t')) (R : RepK s σ) (e : step den p w σ t = .go σ (F (σ.heap.get? a))) : GoK den p w bs s s' t t' σ := by
  walk_at "l"; cases q : s.kt.get a with
  | some o =>
    rw [q] at h
    rw [R.get a o q] at e
    have h := Prod.mk.inj (Option.some.inj h)
    walk_at "l"; rw [← h.1, ← h.2]
    walk_at "l"; exact ⟨σ, e, R, .refl⟩
  | none =>
    rw [q] at h
    have h := gd_some h
    rw [gone (by rw [R.size]; exact Nat.le_of_ble_eq_true h.1)] at e
    have h := Prod.mk.inj h.2
    walk_at "l"; rw [← h.1, ← h.2]
    walk_at "l"; exact ⟨σ, e, R, .refl⟩
noncomputable def tagS : Sem Fin → Bool
  | .load .. => true
  | .update .. => true
  | .alloc .. => true
  | .loadIfAlive .. => true
  | _ => false
theorem else_ok {T : KH} {n : Nat} {gens : Array GenState} {drawn : Drawn} {toks : Nat} {os : OsState} {cur : Sem Fin} {code : Code} {pos : Pos} {stack : List Frame} {s' : SK} {t' : Thread} {σ : Shared}
    (h : goK T n (step den p w ⟨{}, gens, drawn, toks, os⟩ ⟨cur, code, pos, stack⟩) = some (s', t')) (R : RepK ⟨T, n, gens, drawn, toks, os⟩ σ)
    (ht : tagS cur = false) : GoK den p w bs ⟨T, n, gens, drawn, toks, os⟩ s' ⟨cur, code, pos, stack⟩ t' σ := by
  walk_at "e"; obtain ⟨H, g, d, tk, o⟩ := σ
  walk_at "e"; obtain ⟨z1, z2, rfl, rfl, rfl, rfl⟩ := R
  walk_at "l"; cases hs : step den p w ⟨{}, g, d, tk, o⟩ ⟨cur, code, pos, stack⟩ with
  | halt x y => rw [hs] at h; cases h
  | go s₀ t₀ =>
    rw [hs] at h
    have h := Prod.mk.inj (Option.some.inj h)
    walk_at "l"; rw [← h.1, ← h.2]
    walk_at "l"; exact ⟨_, step_heap (H := H) (fun a q k e => nomatch (e ▸ ht : tagS (.load a q k) = false)) (fun a q f k e => nomatch (e ▸ ht : tagS (.update a q f k) = false)) (fun o k e => nomatch (e ▸ ht : tagS (.alloc o k) = false)) (fun a k e => nomatch (e ▸ ht : tagS (.loadIfAlive a k) = false)) hs, ⟨z1, z2, rfl, rfl, rfl, rfl⟩, fun zz zz zz e => e, Nat.le_refl _⟩
theorem stepK_spec {s s' : SK} {t t' : Thread} {σ : Shared} (h : stepK den p w bs s t = some (s', t')) (R : RepK s σ) : GoK den p w bs s s' t t' σ := by
  walk_at "e"; obtain ⟨T, n, gens, drawn, toks, os⟩ := s
  walk_at "e"; obtain ⟨cur, code, pos, stack⟩ := t
  walk_at "e"; cases cur with
  | load a q k => walk_at "l"; exact load_ok h R fun o e => by simp only [step, e]
  | update a q f k => walk_at "l"; exact turn_ev h R fun e => by simp only [step, e, if_true]
  | alloc o k => walk_at "l"; exact push_ok h R (by simp only [step, R.size])
  | loadIfAlive a k => walk_at "l"; exact seek_ok (F := fun x => ⟨k x, code, pos, stack⟩) h R (by simp only [step])
  | _ => walk_at "l"; exact else_ok h R rfl
end
noncomputable def then2 {β : Type} (o : Option (SK × Thread)) (f : SK → Thread → Option β) : Option β := match o with
  | some (s, t) => f s t
  | none => none
theorem then2_some {β : Type} {o : Option (SK × Thread)} {f : SK → Thread → Option β} {y : β} (h : then2 o f = some y) : ∃ s t, o = some (s, t) ∧ f s t = some y := by
  walk_at "e"; cases o with
  | none => walk_at "e"; cases h
  | some q => walk_at "l"; exact ⟨q.1, q.2, rfl, h⟩
noncomputable def orGo {β : Type} (o : Option Flow) (a : Flow → Option β) (b : Option β) : Option β := match o with
  | some f => a f
  | none => b
noncomputable def segRunK (tb : String → Option Builtin) (p : Program) (w : World) (bs n₀ : Nat) (ann : Option Value) (b : Nat) : Nat → SK → Thread → Option (Flow × SK × Code × Pos)
  | 0, _, _ => none
  | n + 1, s, t => orGo (endAt b t) (fun f => some (f, s, t.code, t.pos)) ((gd (stepOk n₀ ann t) ()).bind fun zz => then2 (stepK (denote tb) p w bs s t) fun s t => segRunK tb p w bs n₀ ann b n s t)
noncomputable def topGoK (tb : String → Option Builtin) (p : Program) (w : World) (bs n₀ : Nat) (ann : Option Value) : Nat → SK → Thread → Option (SK × Thread)
  | 0, s, t => some (s, t)
  | n + 1, s, t => (gd (!through t) ()).bind fun zz => (gd (stepOk n₀ ann t) ()).bind fun zz => then2 (stepK (denote tb) p w bs s t) fun s t => topGoK tb p w bs n₀ ann n s t
section
variable {tb : String → Option Builtin} {p : Program} {w : World} {bs n₀ : Nat} {ann : Option Value} {b : Nat}
inductive SegK (tb : String → Option Builtin) (p : Program) (w : World) (bs n₀ : Nat) (ann : Option Value) (b n : Nat) (s s' : SK) (t : Thread) (f : Flow) (c : Code) (q : Pos) (σ : Shared) : Prop
  | mk (σ') : (segRun tb p w n₀ ann b n σ t = some (f, σ', c, q)) → (RepK s' σ') → (FrK bs s s' σ σ') → SegK tb p w bs n₀ ann b n s s' t f c q σ
inductive TopK (tb : String → Option Builtin) (p : Program) (w : World) (bs n₀ : Nat) (ann : Option Value) (n : Nat) (s s' : SK) (t t' : Thread) (σ : Shared) : Prop
  | mk (σ') : (topGo tb p w n₀ ann n σ t = some (σ', t')) → (RepK s' σ') → (FrK bs s s' σ σ') → TopK tb p w bs n₀ ann n s s' t t' σ
theorem segRunK_of (n : Nat) : ∀ {s s' : SK} {t : Thread} {f : Flow} {c : Code} {q : Pos} {σ : Shared}, segRunK tb p w bs n₀ ann b n s t = some (f, s', c, q) → RepK s σ → SegK tb p w bs n₀ ann b n s s' t f c q σ := by
  walk_at "l"; induction n with
  | zero => walk_at "l"; intro s s' t f c q σ h; exact nomatch h
  | succ n ih =>
    walk_at "l"; intro s s' t f c q σ h R
    have h : orGo (endAt b t) (fun f => some (f, s, t.code, t.pos)) ((gd (stepOk n₀ ann t) ()).bind fun zz => then2 (stepK (denote tb) p w bs s t) fun s t => segRunK tb p w bs n₀ ann b n s t) = some (f, s', c, q) := h
    walk_at "l"; cases he : endAt b t with
    | some x =>
      rw [he] at h
      walk_at "e"; cases h
      walk_at "l"; exact ⟨σ, by unfold segRun; rw [he], R, .refl⟩
    | none =>
      rw [he] at h
      walk_at "e"; obtain ⟨_, h1, h⟩ := Option.bind_eq_some_iff.mp (show ((gd (stepOk n₀ ann t) ()).bind fun zz => then2 (stepK (denote tb) p w bs s t) fun s t => segRunK tb p w bs n₀ ann b n s t) = some (f, s', c, q) from h)
      walk_at "e"; obtain ⟨s₂, t₂, hs, h⟩ := then2_some h
      walk_at "e"; obtain ⟨σ₂, e₂, R₂, F₂⟩ := stepK_spec hs R
      walk_at "e"; obtain ⟨σ₃, e₃, R₃, F₃⟩ := ih h R₂
      walk_at "l"; refine ⟨σ₃, ?_, R₃, F₂.trans F₃⟩
      walk_at "l"; unfold segRun
      walk_at "l"; rw [he, (gd_some h1).1, e₂]
      walk_at "l"; exact e₃
theorem topGoK_of (n : Nat) : ∀ {s s' : SK} {t t' : Thread} {σ : Shared}, topGoK tb p w bs n₀ ann n s t = some (s', t') → RepK s σ → TopK tb p w bs n₀ ann n s s' t t' σ := by
  walk_at "l"; induction n with
  | zero => walk_at "l"; intro s s' t t' σ h R; walk_at "e"; cases h; walk_at "l"; exact ⟨σ, rfl, R, .refl⟩
  | succ n ih =>
    walk_at "l"; intro s s' t t' σ h R
    walk_at "e"; obtain ⟨_, h0, h⟩ := Option.bind_eq_some_iff.mp h
    walk_at "e"; obtain ⟨_, h1, h⟩ := Option.bind_eq_some_iff.mp h
    walk_at "e"; obtain ⟨s₂, t₂, hs, h⟩ := then2_some h
    walk_at "e"; obtain ⟨σ₂, e₂, R₂, F₂⟩ := stepK_spec hs R
    walk_at "e"; obtain ⟨σ₃, e₃, R₃, F₃⟩ := ih h R₂
    walk_at "l"; refine ⟨σ₃, ?_, R₃, F₂.trans F₃⟩
    have h0 : through t = false := by have := (gd_some h0).1; simpa using this
    walk_at "l"; unfold topGo
    walk_at "l"; rw [h0, (gd_some h1).1, e₂]
    walk_at "l"; exact e₃
end
end NT
end
section
open PySem PySem.W PySem.Calls PyProof.Rows
namespace NT
noncomputable def env0 : Env := { scope := sc0, locals := mainNs, globals := mainNs, cells := [], code := .ref 13, frame := some 14 }
noncomputable def drawn0 : Drawn := boot_drawn
noncomputable def kof : Frag → KH
  | [] => .nil
  | (a, o) :: r => kput (kof r) a o
noncomputable def skOf (L : Frag) (n toks : Nat) (os : OsState) : SK := ⟨kof L, n, #[], drawn0, toks, os⟩
noncomputable def viewK (as : Frag) : Flow × SK × Code × Pos → Flow × Code × Pos × Nat × Array GenState × Drawn × Nat × OsState × List (Option Obj)
  | (f, s, c, p) => (f, c, p, s.n, s.gens, s.drawn, s.toks, s.os, as.map fun q => s.kt.get q.1)
noncomputable def piece (p : Program) (b : List Stmt) (w : World) (os : OsState) (L : Frag) (n toks : Nat) (pos : Pos) (l : List Stmt) (N : Nat) (as : Frag) :=
  (segRunK treeTable p w n 11 (some (.ref 6)) 1 N (skOf L n toks os) (piecesOf l env0 (.body b env0) pos [topFrame ⟨0, 0, 0, 0⟩])).map (viewK as)
end NT
end
section
open PySem PySem.W PySem.Calls PyProof.Rows
namespace NT
noncomputable abbrev Ld := List (Addr × Obj)
noncomputable abbrev PW := PySem.Challenge.pw_nt0264_01
noncomputable def Says (w : World) (kd : Nat) (f : Addr) (args : List Value) (led : Ld) (Ret : Value → Ld → Prop) : Prop :=
  ∀ (p : Program) (loose : List Str) (mean : ExcName → Option Value) (mg mb : Str → Option Value) (dp un : Nat) (gd : Option (List Code)) (cn : Str) (cs : Scope) (a : Addr) (ccd : Value) (cl : List (Str × Addr)) (outer : List Env)
    (A₀ : Around) (base h₀ : Heap) (L : Addr) (m : Str → Option Value) (s : Shared) (Q E : Value → Shared → Prop),
    Below A₀ base outer h₀ → Fr h₀ L s.heap m → (NT.K w.params).In h₀ → News h₀ L s.heap led → Top p loose mean mg mb h₀ → (∃ o, h₀.get? 1 = some o) → cs.kind = .function → dp + kd < recursionLimit → un + 8 * kd < cLine →
    (∀ v led' h' tk', Fr h₀ L h' m → News h₀ L h' led' → Ret v led' → Q v { s with heap := h', toks := tk' }) →
    wpAny (model PW w) (ktrTop dp un gd cn cs L a ccd cl outer) (call (.ref f) args) Q E s
theorem says_use {w : World} {kd : Nat} {f : Addr} {args : List Value} {led : Ld} {Ret : Value → Ld → Prop} (C : Says w kd f args led Ret)
    {p : Program} {loose : List Str} {mean : ExcName → Option Value} {mg mb : Str → Option Value} {dp un : Nat} {gd : Option (List Code)} {cn : Str} {cs : Scope} {a : Addr} {ccd : Value} {cl : List (Str × Addr)} {outer : List Env}
    {A₀ : Around} {base h₀ : Heap} {L : Addr} {m : Str → Option Value} {s : Shared} {Q E : Value → Shared → Prop}
    (B : Below A₀ base outer h₀) (F : Fr h₀ L s.heap m) (X : (NT.K w.params).In h₀) (N : News h₀ L s.heap led) (T : Top p loose mean mg mb h₀) (on : ∃ o, h₀.get? 1 = some o) (hk : cs.kind = .function) (hd : dp + kd < recursionLimit) (hu : un + 8 * kd < cLine)
    (ret : ∀ v led' h' tk', Fr h₀ L h' m → News h₀ L h' led' → Ret v led' → Q v { s with heap := h', toks := tk' }) :
    wpAny (model PW w) (ktrTop dp un gd cn cs L a ccd cl outer) (call (.ref f) args) Q E s :=
  C p loose mean mg mb dp un gd cn cs a ccd cl outer A₀ base h₀ L m s Q E B F X N T on hk hd hu ret
theorem Says.sub {w : World} {kd : Nat} {f : Addr} {args : List Value} {led led₀ : Ld} {Ret : Value → Ld → Prop} (C : Says w kd f args led Ret) (sub : ∀ p ∈ led, p ∈ led₀) : Says w kd f args led₀ Ret := by
  walk_at "l"; intro p loose mean mg mb dp un gd cn cs a ccd cl outer A₀ base h₀ L m s Q E B F X N T on hk hd hu ret
  walk_at "l"; exact says_use C B F X (fun q hq => N q (sub q hq)) T on hk hd hu ret
theorem Says.imp {w : World} {kd kd' : Nat} {f : Addr} {args : List Value} {led : Ld} {Ret Ret' : Value → Ld → Prop} (C : Says w kd f args led Ret) (hkd : kd ≤ kd') (h : ∀ v l, Ret v l → ∃ l', (∀ p ∈ l', p ∈ l) ∧ Ret' v l') : Says w kd' f args led Ret' := by
  walk_at "l"; intro p loose mean mg mb dp un gd cn cs a ccd cl outer A₀ base h₀ L m s Q E B F X N T on hk hd hu ret
  walk_at "l"; refine says_use C B F X N T on hk (by lia) (by lia) fun v l h' tk F' N' R => ?_
  walk_at "e"; obtain ⟨l', a, b⟩ := h v l R
  walk_at "l"; exact ret v l' h' tk F' (fun q hq => N' q (a q hq)) b
theorem memL {α : Type} {p : α} {l : List α} (h : p ∈ l) : List.Mem p l := h
section
variable {prog : Program} {w : World} {A : Around} {E : Value → Shared → Prop} {s : Shared} {h₀ : Heap} {L : Addr} {m : Str → Option Value} {news : Ld}
theorem item_led {value slice : PySem.Expr} {l : Addr} {vs : List Value} {n : Nat} {k : Int} {u : Tok} {v : Value} {Q : Value → Shared → Prop}
    (N : News h₀ L s.heap news) (hm : List.Mem (l, listOf vs.toArray n) news) (h0 : 0 ≤ k) (hhi : k < 2 ^ 63) (hx : vs[k.toNat]? = some v) (h : Q v s)
    (hs : subscripted slice false (.ref l) (.int k u) = operate [.ref l, .int k u] (getItem (.ref l) (.int k u)) := by with_unfolding_all rfl) :
    wpAny (model prog w) A (subscriptTail value slice (.ref l) (.int k u)) Q E s :=
  have hL : s.heap.IsList l vs.toArray := ⟨_, (N _ hm).1, rfl, n, rfl⟩
  tail_any hL.typeIs slot_list_getitem.lookup (wpAny_getItem_list hL h0 hhi (by simpa using hx) h) hs
end
theorem is_led {M : Model} {A : Around} {E : Value → Shared → Prop} {s : Shared} {h₀ : Heap} {L : Addr} {m : Str → Option Value} {news : Ld} {Kf : Frag} {x y : Addr} {o oy : Obj} {Q : Value → Shared → Prop}
    (F : Fr h₀ L s.heap m) (X : Kf.In h₀) (N : News h₀ L s.heap news) (hm : List.Mem (x, o) news) (hy : Kf.lookup y = some oy) (hne : x ≠ y) (hnt : o.cls ≠ .type "tuple") (h : Q (.bool false) s) :
    wpAny M A (compareOp .Is (.ref x) (.ref y)) Q E s := wpAny_is_ref_other hne (N _ hm).1 (X.keeps F.keep _ _ hy) hnt h
end NT
end
section
open PySem PySem.W PySem.Calls PyProof.Rows
namespace NT
noncomputable section
inductive SV
  | none | bool (b : Bool) | int (v : Nat) (k : Int) | str (s : Str) | k (a : Nat) | a (i : Nat) | v (i : Nat) | bi (id : String) | ty (T : String)
inductive SO
  | inst (C d : Nat)
  | dict (es : List (Str × SV)) (n : Nat)
  | list (vs : List SV) (n : Nat)
  | idict (kvs : List ((Nat × Int) × SV))
  | opq (i : Nat)
  | xdict (i : Nat)
  | xset (i : Nat) (k : Nat × Int) (v : SV)
  | nokey (k : Nat × Int)
  | plist (i : Nat) (vs : List SV)
structure SS where
  loc : List (Str × SV)
  led : List (Nat × SO)
  nx : Nat
noncomputable abbrev Facts := List (CmpOp × (Nat × Int) × (Nat × Int) × Bool)
structure Sx where
  K : Frag
  fc : Facts
  ro : List (Nat × SO)
  dk : List (Nat × (Nat × Int) × SV) := []
  ext : List (Nat × List SV × SV) := []
  cl : List (Str × SV) := []
inductive SF
  | next | ret (v : SV)
structure Rec where
  E : Scope → Nat → PySem.Expr → SS → Option (SV × SS)
  T : Scope → Nat → PySem.Expr → SS → Option (Bool × SS)
  A : Scope → Nat → List PySem.Expr → SS → Option (List SV × SS)
  S : Scope → Nat → Stmt → SS → Option (SF × SS)
  B : Scope → Nat → List Stmt → SS → Option (SF × SS)
  C : Nat → SV → List SV → SS → Option (SV × SS)
  L : Scope → Nat → Str → List Stmt → Nat → Nat → SS → Option SS
  M : Scope → Nat → Str → List Stmt → Nat → List SV → SS → Option SS
noncomputable def ck (b : Bool) : Option Unit := match b with | true => some () | false => none
noncomputable def asI : SV → Option (Nat × Int)
  | .int v k => some (v, k)
  | _ => none
noncomputable def asA : SV → Option Nat
  | .a i => some i
  | _ => none
noncomputable def asK : SV → Option Nat
  | .k i => some i
  | _ => none
noncomputable def asZ (a : SV) : Option Int := do
  let (v, k) ← asI a
  ck (Nat.beq v 0)
  some k
noncomputable def soI : SO → Option (Nat × Nat)
  | .inst C d => some (C, d)
  | _ => none
noncomputable def soD : SO → Option (List (Str × SV) × Nat)
  | .dict es n => some (es, n)
  | _ => none
noncomputable def soL : SO → Option (List SV × Nat)
  | .list vs n => some (vs, n)
  | _ => none
noncomputable def one {α : Type} (l : List α) : Option α := match l with
  | [] => none
  | a :: l => match l with
    | [] => some a
    | _ :: _ => none
noncomputable def two {α : Type} (l : List α) : Option (α × α) := match l with
  | [] => none
  | a :: l => (one l).map (a, ·)
noncomputable def refOf : Value → Option Addr
  | .ref a => some a
  | _ => none
noncomputable def asV : SV → Option Nat
  | .v i => some i
  | _ => none
noncomputable def asB : SV → Option Bool
  | .bool b => some b
  | _ => none
noncomputable def isN : SV → Bool
  | .none => true
  | _ => false
noncomputable def has {α : Type} (p : α → Bool) (o : Option α) : Bool := match o with
  | some a => p a
  | none => false
noncomputable def eqS (x y : SV) : Bool := match x with
  | .none => isN y
  | .bool b => has (b == ·) (asB y)
  | .int v k => has (fun q => Nat.beq v q.1 && k == q.2) (asI y)
  | .k b => has (Nat.beq b) (asK y)
  | .a b => has (Nat.beq b) (asA y)
  | .v b => has (Nat.beq b) (asV y)
  | _ => false
noncomputable def eqL : List SV → List SV → Bool
  | [] => fun m => m.isEmpty
  | a :: l => fun m => match m with
    | [] => false
    | b :: m => eqS a b && eqL l m
noncomputable def ofV : Value → Option SV
  | .none => some .none
  | .bool b => some (.bool b)
  | .int i _ => some (.int 0 i)
  | .str s _ => some (.str s)
  | .ref a => some (.k a)
  | .builtin i => some (.bi i)
  | .type T => some (.ty T)
  | _ => none
noncomputable def Sx.obj (X : Sx) (st : SS) (i : Nat) : Option SO := match st.led.lookup i with
  | some o => some o
  | none => X.ro.lookup i
noncomputable def isDbg (x : Str) : Bool := x == ("__debug__" : Str)
noncomputable def builtinOf (x : Str) : Option SV := if x == "len" then some (.bi "len") else if x == "isinstance" then some (.bi "isinstance") else if x == "bool" then some (.ty "bool") else if x == "sorted" then some (.bi "sorted") else if x == "list" then some (.ty "list") else none
noncomputable def evName (X : Sx) (cs : Scope) (x : Str) (st : SS) : Option SV := do
  ck (!isDbg x)
  match cs.names.lookup x with
  | some .local => st.loc.lookup x
  | some .globalImplicit => match nsIn X.K mainGlobals x with
    | some (some v) => ofV v
    | some none => builtinOf x
    | none => none
  | some .cell => X.cl.lookup x
  | _ => none
noncomputable def instOf (X : Sx) (st : SS) (i : Nat) : Option (Nat × Nat × List (Str × SV) × Nat) := do
  let o ← X.obj st i
  let (C, d) ← soI o
  let o ← X.obj st d
  let (es, n) ← soD o
  some (C, d, es, n)
noncomputable def clsVal (X : Sx) (C : Nat) (name : Str) : Option SV := do
  let mc ← typeIn X.K (.ref C)
  ck (readsIn X.K C mc)
  match findCls X.K (.ref C) mc name with
  | some (.val a) => do ck (handedIn a); ofV a
  | _ => none
noncomputable def handS : SV → Bool
  | .bi _ => false
  | _ => true
noncomputable def evAttr (X : Sx) (st : SS) (o : SV) (name : Str) : Option SV := match o with
  | .a i => do
    let (C, _, es, _) ← instOf X st i
    ck (plainGet X.K C name); ck (hasDictIn X.K C)
    let av ← findIn X.K (.ref C) name
    match es.lookup name with
    | some sv => do ck (noGet X.K av); ck (handS sv); some sv
    | none => do
      let a ← av
      ck (specialIn X.K a "__get__" == some none); ck (handedIn a); ck (!copiedNames.contains name)
      ofV a
  | _ => none
noncomputable def putS (x : Str) (sv : SV) : List (Str × SV) → List (Str × SV)
  | [] => [(x, sv)]
  | e :: r => if e.1 == x then (e.1, sv) :: r else e :: putS x sv r
noncomputable def setLed (i : Nat) (o : SO) : List (Nat × SO) → Option (List (Nat × SO))
  | [] => none
  | e :: r => if e.1 == i then some ((i, o) :: r) else (setLed i o r).map (e :: ·)
noncomputable def evSet (X : Sx) (st : SS) (o : SV) (name : Str) (v : SV) : Option SS := match o with
  | .a i => do
    let (C, d, es, n) ← instOf X st i
    ck (findIn X.K (.ref C) "__setattr__" == some (some (.builtin "object.__setattr__")))
    ck (plainOver X.K C)
    ck (takerIn X.K C name == some none); ck (hasDictIn X.K C)
    let es' := putS name v es
    ck (Nat.ble es'.length 1000)
    let led' ← setLed d (.dict es' (if es.any (·.1 == name) then n else n + 1)) st.led
    some { st with led := led' }
  | _ => none
noncomputable def isL : SO → Bool
  | .list _ _ => true
  | .plist _ _ => true
  | _ => false
noncomputable def isList (X : Sx) (st : SS) (i : Nat) : Bool := has isL (X.obj st i)
noncomputable def listMeth (i : Nat) (name : Str) : Option (SV × List SV) :=
  if name == "append" then some (.bi "list.append", [.a i]) else if name == "pop" then some (.bi "list.pop", [.a i]) else none
noncomputable def instMeth (X : Sx) (st : SS) (i : Nat) (name : Str) : Option (SV × List SV) := do
  let (C, _, es, _) ← instOf X st i
  ck (plainGet X.K C name)
  let v ← findIn X.K (.ref C) name
  let v ← v
  let f ← refOf v
  ck (isFn X.K (.ref f)); ck (es.lookup name).isNone
  some (.k f, [.a i])
noncomputable def evMeth (X : Sx) (st : SS) (o : SV) (name : Str) : Option (SV × List SV) := match o with
  | .a i => match isList X st i with
    | true => listMeth i name
    | false => instMeth X st i name
  | .k C => do
    ck (specialIn X.K (.ref C) "__getattribute__" == some (some (.builtin "type.__getattribute__")))
    let v ← clsVal X C name
    some (v, [])
  | _ => none
noncomputable def factOf : Facts → CmpOp → Nat × Int → Nat × Int → Option Bool
  | [], _, _, _ => none
  | (p, a, b, r) :: fs, op, x, y => if p = op ∧ a = x ∧ b = y then some r else factOf fs op x y
noncomputable def cmpInt (fc : Facts) (op : CmpOp) (x y : Nat × Int) : Option Bool :=
  if x.1 = y.1 then match op with
    | .Eq => some (x.2 == y.2)
    | .NotEq => some (x.2 != y.2)
    | .Lt => some (decide (x.2 < y.2))
    | .LtE => some (decide (x.2 ≤ y.2))
    | .Gt => some (decide (y.2 < x.2))
    | .GtE => some (decide (y.2 ≤ x.2))
    | _ => none
  else match op with
    | .Is | .IsNot | .In | .NotIn => none
    | _ => factOf fc op x y
noncomputable def keyIn (fc : Facts) (k : Nat × Int) : List ((Nat × Int) × SV) → Option (Option SV)
  | [] => some none
  | (j, v) :: r => match cmpInt fc .Eq j k with
    | some true => some (some v)
    | some false => keyIn fc k r
    | none => none
noncomputable def dkOf : List (Nat × (Nat × Int) × SV) → Nat → Nat × Int → Option SV
  | [], _, _ => none
  | (i, k, v) :: r, j, x => if i = j ∧ k = x then some v else dkOf r j x
noncomputable def hasO (X : Sx) (o : SO) (k : Nat × Int) : Option Bool := match o with
  | .idict kvs => (keyIn X.fc k kvs).map fun o => o.isSome
  | .xdict i => (dkOf X.dk i k).map fun zz => true
  | .nokey j => if j = k then some false else none
  | _ => none
noncomputable def hasKey (X : Sx) (st : SS) (d : Nat) (k : Nat × Int) : Option Bool := do
  let o ← X.obj st d
  hasO X o k
noncomputable def neL (p : Nat) (vs us : List SV) : Option SV := match us with
  | _ :: _ => none
  | [] => match vs with
    | _ :: _ => some (.bool true)
    | [] => match p with
      | 0 => some (.bool false)
      | _ + 1 => none
noncomputable def soP : SO → Option (Nat × List SV)
  | .plist p vs => some (p, vs)
  | _ => none
noncomputable def listNe (X : Sx) (st : SS) (i j : Nat) : Option SV := do
  let o ← X.obj st i
  let (p, vs) ← soP o
  let o ← X.obj st j
  let (us, _) ← soL o
  neL p vs us
noncomputable def isOp (op : CmpOp) (b : Bool) : Option SV := match op with
  | .Is => some (.bool b)
  | .IsNot => some (.bool !b)
  | _ => none
noncomputable def cmpN (op : CmpOp) (a : SV) : Option SV := match a with
  | .none => isOp op true
  | .a _ => isOp op false
  | .k _ => isOp op false
  | _ => none
noncomputable def isIs : CmpOp → Bool
  | .Is => true
  | _ => false
noncomputable def isNe : CmpOp → Bool
  | .NotEq => true
  | _ => false
noncomputable def inOp (op : CmpOp) (b : Bool) : Option SV := match op with
  | .In => some (.bool b)
  | .NotIn => some (.bool !b)
  | _ => none
noncomputable def cmpA (X : Sx) (st : SS) (op : CmpOp) (a : SV) (j : Nat) : Option SV := match a with
  | .a i => do
    ck (isNe op)
    listNe X st i j
  | .int v k => do
    let b ← hasKey X st j (v, k)
    inOp op b
  | _ => none
noncomputable def cmpK (X : Sx) (st : SS) (op : CmpOp) (a : SV) (b : Nat) : Option SV := do
  ck (isIs op)
  let i ← asA a
  let o ← X.obj st i
  let _ ← soI o
  let _ ← X.K.lookup b
  some (.bool false)
noncomputable def evCmp (X : Sx) (st : SS) (op : CmpOp) (a b : SV) : Option SV := match b with
  | .int u j => do
    let q ← asI a
    (cmpInt X.fc op q (u, j)).map .bool
  | .none => cmpN op a
  | .k b => cmpK X st op a b
  | .a j => cmpA X st op a j
  | _ => none
noncomputable def truth : SV → Option Bool
  | .bool b => some b
  | _ => none
noncomputable def addI (v : Nat) (k : Int) (u : Nat) (j : Int) : Option SV := match v, u with
  | v, 0 => some (.int v (k + j))
  | 0, u => some (.int u (k + j))
  | _, _ => none
noncomputable def listAt (X : Sx) (st : SS) (o : SV) : Option (List SV × Nat) := do
  let i ← asA o
  let o ← X.obj st i
  soL o
noncomputable def addL (X : Sx) (st : SS) (i : Nat) (b : SV) : Option (SV × SS) := do
  let (vs, _) ← listAt X st (.a i)
  let (us, _) ← listAt X st b
  ck (Nat.ble (vs.length + us.length) 1000)
  some (.a st.nx, { st with led := (st.nx, .list (vs ++ us) 0) :: st.led, nx := st.nx + 1 })
noncomputable def evAdd (X : Sx) (a b : SV) (st : SS) : Option (SV × SS) := match a with
  | .int v k => do
    let (u, j) ← asI b
    let s ← addI v k u j
    some (s, st)
  | .a i => addL X st i b
  | _ => none
noncomputable def evBin (X : Sx) (op : Operator) (a b : SV) (st : SS) : Option (SV × SS) := match op with
  | .Add => evAdd X a b st
  | .Sub => do
    let (v, k) ← asI a
    let j ← asZ b
    some (.int v (k - j), st)
  | _ => none
noncomputable def subO (X : Sx) (o : SO) (k : Nat × Int) : Option SV := match o with
  | .xdict j => dkOf X.dk j k
  | .idict kvs => do
    let o ← keyIn X.fc k kvs
    o
  | _ => none
noncomputable def subKey (X : Sx) (st : SS) (o i : SV) : Option SV := do
  let l ← asA o
  let k ← asI i
  let o ← X.obj st l
  subO X o k
noncomputable def tupOf (X : Sx) (t : Nat) : Option (Array Value) := match X.K.lookup t with
  | some ⟨.type "tuple", _, .seq l _, _⟩ => some l
  | _ => none
noncomputable def evSub (X : Sx) (st : SS) (o i : SV) : Option SV := do
  let k ← asZ i
  ck (decide (0 ≤ k) && decide (k < 1000))
  match o with
  | .a l => do
    let (vs, _) ← listAt X st (.a l)
    vs[k.toNat]?
  | .k t => do
    let l ← tupOf X t
    let v ← l.toList[k.toNat]?
    ofV v
  | _ => none
noncomputable def isName : PySem.Expr → Bool
  | .Name .. => true
  | _ => false
noncomputable def isAttr : PySem.Expr → Bool
  | .Attribute .. => true
  | _ => false
noncomputable def plainBase : PySem.Expr → Bool
  | .Name .. => true
  | .Attribute .. => true
  | .Call _ (_ :: _) _ _ => true
  | _ => false
noncomputable def plainEl : PySem.Expr → Bool
  | .Starred .. => false
  | _ => true
noncomputable def plainSl : PySem.Expr → Bool
  | .Slice .. => false
  | _ => true
noncomputable def notComp : PySem.Expr → Bool
  | .ListComp .. | .SetComp .. | .DictComp .. => false
  | _ => true
noncomputable def evArgs (r : Rec) (cs : Scope) (kd : Nat) (args : List PySem.Expr) (st : SS) : Option (List SV × SS) := match args with
  | [] => some ([], st)
  | _ => r.A cs kd args st
noncomputable def eConst (c : Const) (st : SS) : Option (SV × SS) := match c with
  | .none => some (.none, st)
  | .bool b => some (.bool b, st)
  | .int i => some (.int 0 i, st)
  | .str s => some (.str s, st)
  | _ => none
noncomputable def eHead (X : Sx) (r : Rec) (cs : Scope) (kd n : Nat) (pos : Pos) (func : PySem.Expr) (st : SS) : Option (SV × List SV × SS) := match func with
  | .Attribute o name apos => do
    ck (isName o || isAttr o); ck (Nat.beq apos.endLine pos.line && Nat.ble n 20)
    let (ov, st) ← r.E cs kd o st
    let (f, first) ← evMeth X st ov name
    some (f, first, st)
  | .Name x _ => (evName X cs x st).map (·, [], st)
  | _ => none
noncomputable def okHead (X : Sx) (f : SV) (args : List PySem.Expr) (func : PySem.Expr) : Bool := match f with
  | .k a => keepIn X.K (.ref a)
  | .bi _ => isAttr func || (!args.isEmpty && isName func)
  | .ty _ => isName func && Nat.beq args.length 1
  | _ => false
noncomputable def eCall (X : Sx) (r : Rec) (cs : Scope) (kd : Nat) (func : PySem.Expr) (args : List PySem.Expr) (pos : Pos) (st : SS) : Option (SV × SS) := do
  let (f, fst, st) ← eHead X r cs kd args.length pos func st
  ck (args.all plainEl)
  ck (okHead X f args func)
  let (vs, st) ← evArgs r cs kd args st
  r.C kd f (fst ++ vs) st
noncomputable def eBin (X : Sx) (r : Rec) (cs : Scope) (kd : Nat) (l : PySem.Expr) (op : Operator) (rr : PySem.Expr) (st : SS) : Option (SV × SS) := do
  let (a, st) ← r.E cs kd l st
  let (b, st) ← r.E cs kd rr st
  evBin X op a b st
noncomputable def unV (op : UnaryOp) (a : SV) (st : SS) : Option (SV × SS) := match op with
  | .USub => do
    let k ← asZ a
    some (.int 0 (-k), st)
  | .Not => do
    let t ← truth a
    some (.bool !t, st)
  | _ => none
noncomputable def eUn (r : Rec) (cs : Scope) (kd : Nat) (op : UnaryOp) (x : PySem.Expr) (st : SS) : Option (SV × SS) := do
  let (a, st) ← r.E cs kd x st
  unV op a st
noncomputable def neKd (op : CmpOp) (kd : Nat) : Bool := match op with
  | .NotEq => Nat.ble 8 kd
  | _ => true
noncomputable def eCmp (X : Sx) (r : Rec) (cs : Scope) (kd : Nat) (l : PySem.Expr) (op : CmpOp) (rr : PySem.Expr) (st : SS) : Option (SV × SS) := do
  ck (!behindInMarks op rr && neKd op kd)
  let (a, st) ← r.E cs kd l st
  let (b, st) ← r.E cs kd rr st
  let c ← evCmp X st op a b
  some (c, st)
noncomputable def eBool (r : Rec) (cs : Scope) (kd : Nat) (op : BoolOp) (es : List PySem.Expr) (pos : Pos) (st : SS) : Option (SV × SS) := match es with
  | [] => none
  | e :: es => match es with
    | [] => r.E cs kd e st
    | e₂ :: rest => do
      let (v, st) ← r.E cs kd e st
      let c ← truth v
      match op, c with
      | .Or, true => some (v, st)
      | .Or, false => r.E cs kd (.BoolOp .Or (e₂ :: rest) pos) st
      | .And, true => r.E cs kd (.BoolOp .And (e₂ :: rest) pos) st
      | .And, false => some (v, st)
noncomputable def sliceOf (e : PySem.Expr) : Option PySem.Expr := match e with
  | .Slice lo hi st _ => match hi with
    | none => match st with
      | none => lo
      | some _ => none
    | some _ => none
  | _ => none
noncomputable def eSlice (X : Sx) (r : Rec) (cs : Scope) (kd : Nat) (v lo : PySem.Expr) (st : SS) : Option (SV × SS) := do
  ck (isName v)
  let (o, st) ← r.E cs kd v st
  let (k, st) ← r.E cs kd lo st
  let k ← asZ k
  let l ← asA o
  let (vs, _) ← listAt X st (.a l)
  ck (Nat.ble vs.length 1000)
  some (.a st.nx, { st with led := (st.nx, .list ((vs.drop (kms_lo (some k) vs.length)).take (kms_hi none vs.length - kms_lo (some k) vs.length)) 0) :: st.led, nx := st.nx + 1 })
noncomputable def subV (X : Sx) (st : SS) (o k : SV) : Option SV := match evSub X st o k with
  | some x => some x
  | none => subKey X st o k
noncomputable def eSub (X : Sx) (r : Rec) (cs : Scope) (kd : Nat) (v i : PySem.Expr) (st : SS) : Option (SV × SS) := do
  ck (plainSl i)
  let (o, st) ← r.E cs kd v st
  let (k, st) ← r.E cs kd i st
  let x ← subV X st o k
  some (x, st)
noncomputable def eAttr (X : Sx) (r : Rec) (cs : Scope) (kd : Nat) (e : PySem.Expr) (attr : Str) (st : SS) : Option (SV × SS) := do
  ck (plainBase e)
  let (o, st) ← r.E cs kd e st
  let v ← evAttr X st o attr
  some (v, st)
noncomputable def eList (r : Rec) (cs : Scope) (kd : Nat) (es : List PySem.Expr) (st : SS) : Option (SV × SS) := do
  ck (es.all plainEl)
  let (vs, st) ← r.A cs kd es st
  ck (Nat.ble vs.length 1000)
  some (.a st.nx, { st with led := (st.nx, .list vs 0) :: st.led, nx := st.nx + 1 })
noncomputable def stepE (X : Sx) (r : Rec) (cs : Scope) (kd : Nat) (e : PySem.Expr) (st : SS) : Option (SV × SS) := match e with
  | .Constant c _ _ => eConst c st
  | .Name x _ => (evName X cs x st).map (·, st)
  | .Attribute e attr _ => eAttr X r cs kd e attr st
  | .Call func args kws pos => match kws with
    | [] => eCall X r cs kd func args pos st
    | _ => none
  | .BinOp l op rr _ => eBin X r cs kd l op rr st
  | .UnaryOp op x _ => eUn r cs kd op x st
  | .Compare l ops rs _ => match ops, rs with
    | [op], [rr] => eCmp X r cs kd l op rr st
    | _, _ => none
  | .BoolOp op es pos => eBool r cs kd op es pos st
  | .IfExp t b o _ => do
    let (c, st) ← r.T cs kd t st
    match c with
    | true => r.E cs kd b st
    | false => r.E cs kd o st
  | .List es _ => eList r cs kd es st
  | .Dict ks vs _ => match ks, vs with
    | [], [] => some (.a st.nx, { st with led := (st.nx, .idict []) :: st.led, nx := st.nx + 1 })
    | _, _ => none
  | .Subscript v i _ => match sliceOf i with
    | some lo => eSlice X r cs kd v lo st
    | none => eSub X r cs kd v i st
  | _ => none
noncomputable def tCmp (X : Sx) (r : Rec) (cs : Scope) (kd : Nat) (l : PySem.Expr) (op : CmpOp) (rr : PySem.Expr) (st : SS) : Option (Bool × SS) := do
  ck (!behindInMarks op rr && neKd op kd)
  let (a, st) ← r.E cs kd l st
  let (b, st) ← r.E cs kd rr st
  let c ← evCmp X st op a b
  let t ← truth c
  some (t, st)
noncomputable def tChain (X : Sx) (r : Rec) (cs : Scope) (kd : Nat) (l : PySem.Expr) (o1 o2 : CmpOp) (r1 r2 : PySem.Expr) (st : SS) : Option (Bool × SS) := do
  ck (!lastMarks [o1, o2] [r1, r2] && (neKd o1 kd && neKd o2 kd))
  let (a, st) ← r.E cs kd l st
  let (b, st) ← r.E cs kd r1 st
  let c ← evCmp X st o1 a b
  let t ← truth c
  match t with
  | false => some (false, st)
  | true => do
    let (d, st) ← r.E cs kd r2 st
    let c ← evCmp X st o2 b d
    let t ← truth c
    some (t, st)
noncomputable def tPlain (r : Rec) (cs : Scope) (kd : Nat) (e : PySem.Expr) (st : SS) : Option (Bool × SS) := do
  let (v, st) ← r.E cs kd e st
  let t ← truth v
  some (t, st)
noncomputable def tBool (r : Rec) (cs : Scope) (kd : Nat) (op : BoolOp) (es : List PySem.Expr) (pos : Pos) (st : SS) : Option (Bool × SS) := match es with
  | [] => some (match op with | .Or => false | .And => true, st)
  | x :: rest => do
    let (c, st) ← r.T cs kd x st
    match op, c with
    | .Or, true => some (true, st)
    | .Or, false => r.T cs kd (.BoolOp .Or rest pos) st
    | .And, true => r.T cs kd (.BoolOp .And rest pos) st
    | .And, false => some (false, st)
noncomputable def stepT (X : Sx) (r : Rec) (cs : Scope) (kd : Nat) (e : PySem.Expr) (st : SS) : Option (Bool × SS) := match e with
  | .UnaryOp op x _ => match op with
    | .Not => do
      let (a, st) ← r.T cs kd x st
      some (!a, st)
    | _ => none
  | .BoolOp op es pos => tBool r cs kd op es pos st
  | .Compare l ops rs _ => match ops with
    | [] => none
    | op :: ops => match rs with
      | [] => none
      | rr :: rs => match ops with
        | [] => match rs with
          | [] => tCmp X r cs kd l op rr st
          | _ => none
        | o2 :: ops => match ops with
          | _ :: _ => none
          | [] => match rs with
            | [] => none
            | r2 :: rs => match rs with
              | _ :: _ => none
              | [] => tChain X r cs kd l op o2 rr r2 st
  | .Name x p => tPlain r cs kd (.Name x p) st
  | .Attribute v a p => tPlain r cs kd (.Attribute v a p) st
  | .Call f a k p => tPlain r cs kd (.Call f a k p) st
  | _ => none
noncomputable def stepA (r : Rec) (cs : Scope) (kd : Nat) (es : List PySem.Expr) (st : SS) : Option (List SV × SS) := match es with
  | [] => some ([], st)
  | e :: rest => do
    ck (plainEl e)
    let (v, st) ← r.E cs kd e st
    let (vs, st) ← r.A cs kd rest st
    some (v :: vs, st)
noncomputable def stepB (r : Rec) (cs : Scope) (kd : Nat) (b : List Stmt) (st : SS) : Option (SF × SS) := match b with
  | [] => some (.next, st)
  | s :: rest => do
    let (f, st) ← r.S cs kd s st
    match f with
    | .next => r.B cs kd rest st
    | .ret v => some (.ret v, st)
noncomputable def isLocal (cs : Scope) (x : Str) : Bool := match cs.names.lookup x with
  | some .local => true
  | _ => false
noncomputable def svs : List Value → Option (List SV)
  | [] => some []
  | v :: r => do
    let s ← ofV v
    let t ← svs r
    some (s :: t)
noncomputable def putT : List PySem.Expr → List SV → List (Str × SV) → List (Str × SV)
  | .Name x _ :: ts, v :: vs, l => putT ts vs ((x, v) :: l)
  | _, _, l => l
noncomputable def sName (X : Sx) (r : Rec) (cs : Scope) (kd : Nat) (x : Str) (e : PySem.Expr) (st : SS) : Option (SF × SS) := do
    ck (notComp e); ck (isLocal cs x)
    let (v, st) ← r.E cs kd e st
    some (.next, { st with loc := (x, v) :: st.loc })
noncomputable def sAttr (X : Sx) (r : Rec) (cs : Scope) (kd : Nat) (o : PySem.Expr) (attr : Str) (e : PySem.Expr) (st : SS) : Option (SF × SS) := do
    ck (notComp e)
    let (v, st) ← r.E cs kd e st
    let (ov, st) ← r.E cs kd o st
    let st ← evSet X st ov attr v
    some (.next, st)
noncomputable def nameL (cs : Scope) (t : PySem.Expr) : Bool := match t with
  | .Name x _ => isLocal cs x
  | _ => false
noncomputable def isCall : PySem.Expr → Bool
  | .Call .. => true
  | _ => false
noncomputable def sTup (X : Sx) (r : Rec) (cs : Scope) (kd : Nat) (ts : List PySem.Expr) (e : PySem.Expr) (st : SS) : Option (SF × SS) := do
    ck (isCall e)
    ck (ts.all (nameL cs))
    let (v, st) ← r.E cs kd e st
    let t ← asK v
    let l ← tupOf X t
    let vs ← svs l.toList
    ck (Nat.beq ts.length vs.length)
    some (.next, { st with loc := putT ts vs st.loc })
noncomputable def putO (X : Sx) (st : SS) (d a : Nat) (k : Int) (v : SV) (o : SO) : Option (List (Nat × SO)) := match o with
  | .idict kvs => do
    let f ← keyIn X.fc (a, k) kvs
    ck f.isNone
    ck (Nat.ble kvs.length 1000)
    setLed d (.idict (kvs ++ [((a, k), v)])) st.led
  | .xdict j => setLed d (.xset j (a, k) v) st.led
  | .list vs n => do
    ck (Nat.beq a 0)
    ck (decide (0 ≤ k) && decide (k < 1000))
    ck (Nat.blt k.toNat vs.length)
    setLed d (.list (vs.set k.toNat v) n) st.led
  | _ => none
noncomputable def sSub (X : Sx) (r : Rec) (cs : Scope) (kd : Nat) (o i e : PySem.Expr) (st : SS) : Option (SF × SS) := do
    ck (notComp e)
    let (v, st) ← r.E cs kd e st
    let (ov, st) ← r.E cs kd o st
    let (iv, st) ← r.E cs kd i st
    let d ← asA ov
    let (a, k) ← asI iv
    let o ← st.led.lookup d
    let led' ← putO X st d a k v o
    some (.next, { st with led := led' })
noncomputable def sAssign (X : Sx) (r : Rec) (cs : Scope) (kd : Nat) (t e : PySem.Expr) (st : SS) : Option (SF × SS) := match t with
  | .Name x _ => sName X r cs kd x e st
  | .Attribute o attr _ => sAttr X r cs kd o attr e st
  | .Tuple ts _ _ => sTup X r cs kd ts e st
  | .Subscript o i _ => sSub X r cs kd o i e st
  | _ => none
noncomputable def isAdd : Operator → Bool
  | .Add => true
  | _ => false
noncomputable def sAug (X : Sx) (r : Rec) (cs : Scope) (kd : Nat) (o : PySem.Expr) (attr : Str) (op : Operator) (e : PySem.Expr) (st : SS) : Option (SF × SS) := do
    ck (isAdd op)
    let (ov, st) ← r.E cs kd o st
    let old ← evAttr X st ov attr
    let (a, k) ← asI old
    let (v, st) ← r.E cs kd e st
    let (b, j) ← asI v
    let nw ← addI a k b j
    let st ← evSet X st ov attr nw
    some (.next, st)
noncomputable def nameE (e : PySem.Expr) : Option Str := match e with
  | .Name x _ => some x
  | _ => none
noncomputable def callE (e : PySem.Expr) : Option (PySem.Expr × List PySem.Expr × List Keyword) := match e with
  | .Call f a k _ => some (f, a, k)
  | _ => none
noncomputable def forOf (t it : PySem.Expr) (l : List Stmt) : Option (Str × Str × PySem.Expr) := do
  ck l.isEmpty
  let x ← nameE t
  let (f, a, k) ← callE it
  ck k.isEmpty
  let rg ← nameE f
  let n ← one a
  some (x, rg, n)
noncomputable def det : SV → Bool
  | .int _ _ => false
  | .str _ => false
  | _ => true
noncomputable def plainIt : PySem.Expr → Bool
  | .Name .. => true
  | .Attribute .. => true
  | .Call .. => true
  | _ => false
noncomputable def sForL (X : Sx) (r : Rec) (cs : Scope) (kd : Nat) (x : Str) (it : PySem.Expr) (body : List Stmt) (st : SS) : Option (SF × SS) := do
  ck (isLocal cs x); ck (plainIt it)
  let (o, st) ← r.E cs kd it st
  let l ← asA o
  let so ← st.led.lookup l
  let (vs, n) ← soL so
  ck (vs.all det)
  let st ← r.M cs kd x body l vs st
  some (.next, st)
noncomputable def isGl (cs : Scope) (x : Str) : Bool := match cs.names.lookup x with
  | none => false
  | some k => match k with
    | .globalImplicit => true
    | _ => false
noncomputable def noGl (o : Option (Option Value)) : Bool := match o with
  | none => false
  | some o => match o with
    | none => true
    | some _ => false
noncomputable def sFor (X : Sx) (r : Rec) (cs : Scope) (kd : Nat) (x rg : Str) (n : PySem.Expr) (body : List Stmt) (st : SS) : Option (SF × SS) := do
    ck (isLocal cs x); ck (rg == "range"); ck (plainEl n)
    ck (isGl cs rg)
    ck (noGl (nsIn X.K mainGlobals rg))
    let (v, st) ← r.E cs kd n st
    let k ← asZ v
    ck (decide (0 ≤ k) && Builtin.Range.small 0 k 1)
    let st ← r.L cs kd x body 0 k.toNat st
    some (.next, st)
noncomputable def sForV (X : Sx) (r : Rec) (cs : Scope) (kd : Nat) (t it : PySem.Expr) (body orelse : List Stmt) (st : SS) : Option (SF × SS) := do
  ck orelse.isEmpty
  let x ← nameE t
  sForL X r cs kd x it body st
noncomputable def sForU (X : Sx) (r : Rec) (cs : Scope) (kd : Nat) (t it : PySem.Expr) (body orelse : List Stmt) (st : SS) : Option (SF × SS) := match forOf t it orelse with
  | some q => do
    ck (q.2.1 == "range")
    sFor X r cs kd q.1 q.2.1 q.2.2 body st
  | none => sForV X r cs kd t it body orelse st
noncomputable def stepS (X : Sx) (r : Rec) (cs : Scope) (kd : Nat) (s : Stmt) (st : SS) : Option (SF × SS) := match s with
  | .Expr e _ => do
    ck (notComp e)
    let (_, st) ← r.E cs kd e st
    some (.next, st)
  | .Return e _ => match e with
    | some e => do
      let (v, st) ← r.E cs kd e st
      some (.ret v, st)
    | none => none
  | .If t b o _ => do
    let (c, st) ← r.T cs kd t st
    match c with
    | true => r.B cs kd b st
    | false => r.B cs kd o st
  | .Assign ts e _ => match ts with
    | [t] => sAssign X r cs kd t e st
    | _ => none
  | .AugAssign t op e _ => match t with
    | .Attribute o attr _ => sAug X r cs kd o attr op e st
    | _ => none
  | .For t it body orelse _ => sForU X r cs kd t it body orelse st
  | _ => none
noncomputable def stepL (r : Rec) (cs : Scope) (kd : Nat) (x : Str) (body : List Stmt) (i n : Nat) (st : SS) : Option SS := match n with
  | 0 => some st
  | n + 1 => do
    let (f, st) ← r.B cs kd body { st with loc := (x, .int 0 (i : Nat)) :: st.loc }
    match f with
    | .next => r.L cs kd x body (i + 1) n st
    | .ret _ => none
noncomputable def bareA (p : PySem.Arguments) : Bool := p.posonlyargs.isEmpty && p.vararg.isNone && p.kwonlyargs.isEmpty && p.kwarg.isNone
noncomputable def noneV : Value → Bool
  | .none => true
  | _ => false
noncomputable def bindS (p : PySem.Arguments) (dV : Value) (args : List SV) : Option (List (Str × SV)) := do
  ck (bareA p); ck (noneV dV)
  ck (Nat.beq p.args.length args.length)
  let names := p.args.map (·.arg)
  ck ((names.filter fun n => ((names.zip args).lookup n).isNone).isEmpty)
  some (names.filterMap fun n => ((names.zip args).lookup n).map (n, ·))
noncomputable def sfV : SF → SV
  | .ret v => v
  | .next => .none
noncomputable def sameL (o : SO) (p : Option SO) : Bool := (do
  let (us, n) ← soL o
  let p ← p
  let (vs, k) ← soL p
  ck (eqL us vs && Nat.beq n k && us.all det)).isSome
noncomputable def stepM (r : Rec) (cs : Scope) (kd : Nat) (x : Str) (body : List Stmt) (l : Nat) (vs : List SV) (st : SS) : Option SS := match vs with
  | [] => some st
  | v :: vs => do
    let o ← st.led.lookup l
    let (f, st) ← r.B cs kd body { st with loc := (x, v) :: st.loc }
    match f with
    | .next => do
      ck (sameL o (st.led.lookup l))
      r.M cs kd x body l vs st
    | .ret _ => none
noncomputable def pX : PySem.Expr := .Constant .none 0 ⟨0, 0, 0, 0⟩
noncomputable def nth : List Stmt → Nat → Stmt
  | [], _ => .Pass ⟨0, 0, 0, 0⟩
  | s :: _, 0 => s
  | _ :: r, n + 1 => nth r n
noncomputable def nE : List PySem.Expr → Nat → PySem.Expr
  | [], _ => pX
  | e :: _, 0 => e
  | _ :: r, n + 1 => nE r n
noncomputable def compE : List Comprehension → List PySem.Expr
  | [] => []
  | c :: _ => [c.iter, c.target]
noncomputable def optE : Option PySem.Expr → List PySem.Expr
  | none => []
  | some e => [e]
noncomputable def kids : PySem.Expr → List PySem.Expr
  | .Compare l _ r _ => l :: r
  | .ListComp e gs _ _ => e :: compE gs
  | .BinOp l _ r _ => [l, r]
  | .Call f a _ _ => f :: a
  | .Tuple es _ _ => es
  | .List es _ => es
  | .Subscript v i _ => [v, i]
  | .Slice _ h _ _ => optE h
  | .BoolOp _ l _ => l
  | .UnaryOp _ e _ => [e]
  | .IfExp t b o _ => [t, b, o]
  | .Attribute o _ _ => [o]
  | _ => []
noncomputable def sKids : Stmt → List PySem.Expr
  | .Assign ts e _ => e :: ts
  | .If t _ _ _ => [t]
  | .While t _ _ _ => [t]
  | .For t it _ _ _ => [t, it]
  | .Return e _ => optE e
  | _ => []
noncomputable def sBody : Stmt → List Stmt
  | .Assign _ _ _ => []
  | .If _ b _ _ => b
  | .While _ b _ _ => b
  | .For _ _ b _ _ => b
  | .Return _ _ => []
  | _ => []
noncomputable def kid (e : PySem.Expr) (n : Nat) : PySem.Expr := nE (kids e) n
noncomputable def sKid (s : Stmt) (n : Nat) : PySem.Expr := nE (sKids s) n
structure FnI where
  qual : Str
  p : PySem.Arguments
  body : List Stmt
  scope : Scope
  dV : Value
  cdv : Value
noncomputable def fnOfD (o : Obj) : Option FuncData := match o.data with
  | .func d => some d
  | _ => none
noncomputable def stmtsOf : FuncBody → Option (List Stmt)
  | .stmts b => some b
  | _ => none
noncomputable def fnInfoC (K : Frag) (f : Nat) : Option FnI := do
  let o ← K.lookup f
  let d ← fnOfD o
  let body ← stmtsOf d.body
  ck (d.closure.isEmpty)
  ck (Nat.beq d.globals mainGlobals && Nat.beq d.builtins builtinsNs)
  ck (codeIn K d.code d.qualname)
  ck (!d.scope.isCoroutine && !d.scope.isGenerator && d.scope.kind == .function)
  some ⟨d.qualname, d.params, body, d.scope, d.defaults, d.code⟩
noncomputable def fnInfo (K : Frag) (f : Nat) : Option FnI := do
  let I ← fnInfoC K f
  ck (I.scope.names.all fun x => x.2 != .cell)
  some I
noncomputable def callF (X : Sx) (r : Rec) (kd : Nat) (f : Nat) (args : List SV) (st : SS) : Option (SV × SS) := match kd with
  | 0 => none
  | kd + 1 => do
    let I ← fnInfo X.K f
    let binds ← bindS I.p I.dV args
    ck (binds.all fun y => isLocal I.scope y.1)
    let (fl, st') ← r.B I.scope kd I.body { st with loc := binds.reverse }
    some (sfV fl, { st' with loc := st.loc })
noncomputable def callC (X : Sx) (r : Rec) (kd : Nat) (C : Nat) (args : List SV) (st : SS) : Option (SV × SS) := match kd with
  | 0 => none
  | kd + 1 => do
    ck (makesIn X.K C)
    let v ← findIn X.K (.ref C) "__init__"
    let v ← v
    let fI ← refOf v
    ck (isFn X.K (.ref fI))
    let (v, st') ← callF X r kd fI (.a st.nx :: args) { st with led := (st.nx, .inst C (st.nx + 1)) :: (st.nx + 1, .dict [] 0) :: st.led, nx := st.nx + 2 }
    ck (isN v)
    some (.a st.nx, st')
noncomputable def isInst (X : Sx) (st : SS) (v c : SV) : Option Bool := match c with
  | .k C => do
    let i ← asA v
    let (D, _, _, _) ← instOf X st i
    match isIn X.K (.ref D) C with
    | true => some true
    | false => do
      ck (kin_not X.K D C); ck (plainGet X.K D "__class__"); ck (hasDictIn X.K D)
      ck (findIn X.K (.ref D) "__class__" == some (some (.builtin "object.__class__")))
      ck (specialIn X.K (.builtin "object.__class__") "__get__" == some (some (.builtin "getset_descriptor.__get__")))
      ck (takesIn X.K (.builtin "object.__class__") == some true)
      ck (mroIn X.K D (.type "object") == some true)
      some false
  | .ty T => do
    let _ ← asB v
    kitOne X.K (.type "bool") (.type T)
  | _ => none
noncomputable def tupLen (X : Sx) (t : Nat) : Option Nat := (tupOf X t).map (·.size)
noncomputable def extOf : List (Nat × List SV × SV) → Nat → List SV → Option SV
  | [], _, _ => none
  | (f, as, v) :: r, a, args => match Nat.beq f a && eqL as args with
    | true => some v
    | false => extOf r a args
noncomputable def noA : SV → Bool
  | .a _ => false
  | _ => true
noncomputable def unsnoc : List SV → Option (List SV × SV)
  | [] => none
  | [x] => some ([], x)
  | x :: y :: r => (unsnoc (y :: r)).map fun q => (x :: q.1, q.2)
noncomputable def appO (st : SS) (l : Nat) (x : SV) (o : SO) : Option (SV × SS) := match o with
  | .plist i vs => do
    ck (Nat.ble vs.length 1000)
    let led' ← setLed l (.plist i (vs ++ [x])) st.led
    some (.none, { st with led := led' })
  | .list vs n => do
    ck (Nat.ble vs.length 1000)
    let led' ← setLed l (.list (vs ++ [x]) (n + 1)) st.led
    some (.none, { st with led := led' })
  | _ => none
noncomputable def lApp (st : SS) (l : Nat) (x : SV) : Option (SV × SS) := do
  let o ← st.led.lookup l
  appO st l x o
noncomputable def lPop (st : SS) (l : Nat) : Option (SV × SS) := do
  let o ← st.led.lookup l
  let (i, vs) ← soP o
  ck (Nat.ble vs.length 1000)
  let (us, x) ← unsnoc vs
  let led' ← setLed l (.plist i us) st.led
  some (x, { st with led := led' })
noncomputable def noKv : SO → Bool
  | .idict kvs => kvs.isEmpty
  | _ => false
noncomputable def lSorted (X : Sx) (st : SS) (d : Nat) : Option (SV × SS) := do
  let o ← X.obj st d
  ck (noKv o)
  some (.a st.nx, { st with led := (st.nx, .plist 0 []) :: st.led, nx := st.nx + 1 })
noncomputable def lCopy (X : Sx) (st : SS) (i : Nat) : Option (SV × SS) := do
  let (vs, _) ← listAt X st (.a i)
  ck (Nat.ble vs.length 1000)
  some (.a st.nx, { st with led := (st.nx, .list vs (match vs with | [] => 0 | _ => 1)) :: st.led, nx := st.nx + 1 })
noncomputable def biLen (X : Sx) (v : SV) (st : SS) : Option (SV × SS) := match v with
  | .a i => do
    let (vs, _) ← listAt X st (.a i)
    ck (Nat.ble vs.length 1000)
    some (.int 0 vs.length, st)
  | .k t => do
    let n ← tupLen X t
    ck (Nat.ble n 1000)
    some (.int 0 n, st)
  | _ => none
noncomputable def kCall (X : Sx) (r : Rec) (kd a : Nat) (args : List SV) (st : SS) (d : Data) : Option (SV × SS) := match d with
  | .func _ => callF X r kd a args st
  | .cls _ => callC X r kd a args st
  | _ => none
noncomputable def callKn (X : Sx) (r : Rec) (kd a : Nat) (args : List SV) (st : SS) : Option (SV × SS) := match extOf X.ext a args with
  | some v => do
    ck (args.all noA && Nat.ble 10 kd)
    some (v, st)
  | none => do
    let o ← X.K.lookup a
    kCall X r kd a args st o.data
noncomputable def callBi (X : Sx) (id : String) (args : List SV) (st : SS) : Option (SV × SS) :=
  if id == "len" then do
    let v ← one args
    biLen X v st
  else if id == "isinstance" then do
    let q ← two args
    let b ← isInst X st q.1 q.2
    some (.bool b, st)
  else if id == "list.append" then do
    let q ← two args
    let l ← asA q.1
    lApp st l q.2
  else if id == "list.pop" then do
    let v ← one args
    let l ← asA v
    lPop st l
  else if id == "sorted" then do
    let v ← one args
    let l ← asA v
    lSorted X st l
  else none
noncomputable def stepC (X : Sx) (r : Rec) (kd : Nat) (f : SV) (args : List SV) (st : SS) : Option (SV × SS) := match f with
  | .k a => callKn X r kd a args st
  | .bi id => callBi X id args st
  | .ty T => do
    ck (T == "list")
    let v ← one args
    let i ← asA v
    lCopy X st i
  | _ => none
noncomputable def stepR (X : Sx) (r : Rec) : Rec := ⟨stepE X r, stepT X r, stepA r, stepS X r, stepB r, stepC X r, stepL r, stepM r⟩
noncomputable def noR : Rec := ⟨fun zz zz zz zz => none, fun zz zz zz zz => none, fun zz zz zz zz => none, fun zz zz zz zz => none, fun zz zz zz zz => none, fun zz zz zz zz => none, fun zz zz zz zz zz zz zz => none, fun zz zz zz zz zz zz zz => none⟩
noncomputable def recN (X : Sx) : Nat → Rec
  | 0 => noR
  | n + 1 => stepR X (recN X n)
noncomputable def run1 (X : Sx) (kd : Nat) (f : Nat) (args : List SV) (st : SS) : Option (SV × List (Nat × SO) × Nat) := (callF X (recN X 200) kd f args st).map fun r => (r.1, r.2.led, r.2.nx)
end
end NT
end
section
open PySem PySem.W PySem.Calls PyProof.Rows
namespace NT
inductive All2 {α β : Type} (R : α → β → Prop) : List α → List β → Prop
  | nil : All2 R [] []
  | cons {a b l m} : R a b → All2 R l m → All2 R (a :: l) (b :: m)
theorem All2.imp {α β : Type} {R S : α → β → Prop} {l : List α} {m : List β} (h : All2 R l m) (f : ∀ a b, R a b → S a b) : All2 S l m := by
  walk_at "l"; induction h with
  | nil => walk_at "l"; exact .nil
  | cons a _ ih => walk_at "l"; exact .cons (f _ _ a) ih
theorem All2.append {α β : Type} {R : α → β → Prop} {l l' : List α} {m m' : List β} (h : All2 R l m) (h' : All2 R l' m') : All2 R (l ++ l') (m ++ m') := by
  walk_at "l"; induction h with
  | nil => walk_at "l"; exact h'
  | cons a _ ih => walk_at "l"; exact .cons a ih
theorem All2.length {α β : Type} {R : α → β → Prop} {l : List α} {m : List β} (h : All2 R l m) : l.length = m.length := by
  walk_at "l"; induction h with
  | nil => walk_at "l"; rfl
  | cons _ _ ih => walk_at "l"; rw [List.length_cons, List.length_cons, ih]
theorem All2.get {α β : Type} {R : α → β → Prop} {l : List α} {m : List β} (h : All2 R l m) {i : Nat} {a : α} (e : l[i]? = some a) : ∃ b, m[i]? = some b ∧ R a b := by
  walk_at "l"; induction h generalizing i with
  | nil => walk_at "e"; cases e
  | cons r _ ih => walk_at "e"; cases i with
    | zero => walk_at "e"; cases e; walk_at "l"; exact ⟨_, rfl, r⟩
    | succ i => walk_at "l"; exact ih (by simpa using e)
theorem All2.drop {α β : Type} {R : α → β → Prop} {l : List α} {m : List β} (h : All2 R l m) (n : Nat) : All2 R (l.drop n) (m.drop n) := by
  walk_at "l"; induction h generalizing n with
  | nil => walk_at "l"; simp; exact .nil
  | cons a hs ih => walk_at "e"; cases n with
    | zero => walk_at "l"; exact .cons a hs
    | succ n => walk_at "l"; exact ih n
theorem All2.take {α β : Type} {R : α → β → Prop} {l : List α} {m : List β} (h : All2 R l m) (n : Nat) : All2 R (l.take n) (m.take n) := by
  walk_at "l"; induction h generalizing n with
  | nil => walk_at "l"; simp; exact .nil
  | cons a hs ih => walk_at "e"; cases n with
    | zero => walk_at "l"; exact .nil
    | succ n => walk_at "l"; exact .cons a (ih n)
theorem All2.reverse {α β : Type} {R : α → β → Prop} {l : List α} {m : List β} (h : All2 R l m) : All2 R l.reverse m.reverse := by
  walk_at "l"; induction h with
  | nil => walk_at "l"; exact .nil
  | cons a _ ih => walk_at "l"; rw [List.reverse_cons, List.reverse_cons]; exact ih.append (.cons a .nil)
structure Vt where
  I : Nat → Int
  V : Nat → Value
  O : Nat → Obj
  D : Nat → List (Int × Value)
  P : Nat → List Value
noncomputable def Vt.iv (τ : Vt) (v : Nat) (k : Int) : Int := match v with
  | 0 => k
  | n + 1 => τ.I n + k
noncomputable def Vt.pre (τ : Vt) : Nat → List Value
  | 0 => []
  | n + 1 => τ.P n
noncomputable def VR (τ : Vt) (ρ : List Addr) : SV → Value → Prop
  | .none, v => v = .none
  | .bool b, v => v = .bool b
  | .int i k, v => ∃ t, v = .int (τ.iv i k) t
  | .str s, v => ∃ t, v = .str s t
  | .k a, v => v = .ref a
  | .a i, v => ∃ x, ρ[i]? = some x ∧ v = .ref x
  | .v i, v => v = τ.V i
  | .bi id, v => v = .builtin id
  | .ty T, v => v = .type T
noncomputable def Le (ρ ρ' : List Addr) : Prop := ∀ (i : Nat) (x : Addr), ρ[i]? = some x → ρ'[i]? = some x
theorem Le.refl (ρ : List Addr) : Le ρ ρ := fun zz zz h => h
theorem Le.trans {a b c : List Addr} (h : Le a b) (h' : Le b c) : Le a c := fun i x e => h' i x (h i x e)
theorem Le.push {a : List Addr} (l : List Addr) : Le a (a ++ l) := fun i x e => by
  walk_at "l"; rw [List.getElem?_append_left]
  · walk_at "l"; exact e
  · walk_at "e"; obtain ⟨h, _⟩ := List.getElem?_eq_some_iff.mp e; walk_at "l"; exact h
theorem VR.mono {τ : Vt} {ρ ρ' : List Addr} (h : Le ρ ρ') {s : SV} {v : Value} (r : VR τ ρ s v) : VR τ ρ' s v := by
  walk_at "l"; cases s <;> first | exact r | exact r.imp fun x q => ⟨h _ _ q.1, q.2⟩
noncomputable def ER (w : World) (τ : Vt) (ρ : List Addr) (p : Str × SV) (e : DictEntry) : Prop := ∃ t v, e = ⟨PyData.keyHash w.params p.1, .str p.1 t, v⟩ ∧ VR τ ρ p.2 v
noncomputable def OR (w : World) (τ : Vt) (ρ : List Addr) : SO → Obj → Prop
  | .inst C d, o => ∃ x, ρ[d]? = some x ∧ o = instObj C x
  | .dict es n, o => ∃ des, o = dictOf des n ∧ All2 (ER w τ ρ) es des
  | .list vs n, o => ∃ l, o = W.listOf l.toArray n ∧ All2 (VR τ ρ) vs l
  | .idict kvs, o => ∃ rk, o.IsDictOf (intKind PW w) rk ∧ All2 (fun p q => q.1 = τ.iv p.1.1 p.1.2 ∧ VR τ ρ p.2 q.2) kvs rk
  | .opq i, o => o = τ.O i
  | .xdict i, o => o.IsDictOf (intKind PW w) (τ.D i) ∧ (τ.D i).length ≤ 1000
  | .xset i k v, o => ∃ u, o.IsDictOf (intKind PW w) (stored (τ.D i) (τ.iv k.1 k.2) u) ∧ VR τ ρ v u
  | .nokey k, o => ∃ rk, o.IsDictOf (intKind PW w) rk ∧ valueAt rk (τ.iv k.1 k.2) = none
  | .plist i vs, o => ∃ l c, o = W.listOf (τ.pre i ++ l).toArray c ∧ All2 (VR τ ρ) vs l ∧ (τ.pre i).length ≤ 1000000
theorem OR.mono {w : World} {τ : Vt} {ρ ρ' : List Addr} (h : Le ρ ρ') {s : SO} {o : Obj} (r : OR w τ ρ s o) : OR w τ ρ' s o := by
  walk_at "e"; cases s with
  | inst C d => walk_at "l"; exact r.imp fun x q => ⟨h _ _ q.1, q.2⟩
  | dict es n => walk_at "l"; exact r.imp fun x q => ⟨q.1, q.2.imp fun zz zz q => q.imp fun zz q => q.imp fun zz q => ⟨q.1, q.2.mono h⟩⟩
  | list vs n => walk_at "l"; exact r.imp fun x q => ⟨q.1, q.2.imp fun zz zz q => q.mono h⟩
  | idict kvs => walk_at "l"; exact r.imp fun x q => ⟨q.1, q.2.imp fun zz zz q => ⟨q.1, q.2.mono h⟩⟩
  | opq i => walk_at "l"; exact r
  | xdict i => walk_at "l"; exact r
  | xset i k v => walk_at "l"; exact r.imp fun zz q => ⟨q.1, q.2.mono h⟩
  | nokey k => walk_at "l"; exact r
  | plist i vs => walk_at "l"; exact r.imp fun l q => q.imp fun c q => ⟨q.1, q.2.1.imp fun zz zz q => q.mono h, q.2.2⟩
noncomputable abbrev LR (w : World) (τ : Vt) (ρ : List Addr) : List (Nat × SO) → Ld → Prop := All2 fun p q => ρ[p.1]? = some q.1 ∧ OR w τ ρ p.2 q.2
theorem LR.mono {w : World} {τ : Vt} {ρ ρ' : List Addr} (h : Le ρ ρ') {l : List (Nat × SO)} {m : Ld} (r : LR w τ ρ l m) : LR w τ ρ' l m := r.imp fun zz zz q => ⟨h _ _ q.1, q.2.mono h⟩
theorem LR.look {w : World} {τ : Vt} {ρ : List Addr} {l : List (Nat × SO)} {m : Ld} (h : LR w τ ρ l m) {i : Nat} {o : SO} (e : l.lookup i = some o) : ∃ x ob, ρ[i]? = some x ∧ (x, ob) ∈ m ∧ OR w τ ρ o ob := by
  walk_at "l"; induction h with
  | nil => walk_at "e"; cases e
  | @cons a b l m r _ ih =>
    walk_at "e"; obtain ⟨j, oj⟩ := a
    rw [List.lookup_cons] at e
    walk_at "l"; cases q : (i == j) with
    | true =>
      rw [q] at e; walk_at "e"; cases e
      walk_at "l"; rw [eq_of_beq q]
      walk_at "l"; exact ⟨b.1, b.2, r.1, .head _, r.2⟩
    | false =>
      rw [q] at e
      walk_at "e"; obtain ⟨x, ob, h1, h2, h3⟩ := ih e
      walk_at "l"; exact ⟨x, ob, h1, .tail _ h2, h3⟩
structure Gx where
  w : World
  τ : Vt
  X : Sx
  R0 : Ld
  N0 : Ld
  n0 : Nat
  ρ0 : List Addr
noncomputable def cmpOk (op : CmpOp) (a b : Int) (r : Bool) : Prop := match op with
  | .Eq => (a == b) = r
  | .NotEq => (a != b) = r
  | .Lt => decide (a < b) = r
  | .LtE => decide (a ≤ b) = r
  | .Gt => decide (b < a) = r
  | .GtE => decide (b ≤ a) = r
  | _ => False
structure Gx.Ok (g : Gx) : Prop where
  K : g.X.K = NT.K g.w.params
  fc : ∀ op a b r, (op, a, b, r) ∈ g.X.fc → cmpOk op (g.τ.iv a.1 a.2) (g.τ.iv b.1 b.2) r
  V : ∀ i, handedIn (g.τ.V i) = true
  dk : ∀ i k sv, (i, k, sv) ∈ g.X.dk → ∃ v, valueAt (g.τ.D i) (g.τ.iv k.1 k.2) = some v ∧ VR g.τ g.ρ0 sv v
  ext : ∀ fa args sv, (fa, args, sv) ∈ g.X.ext → ∀ vs, All2 (VR g.τ g.ρ0) args vs → ∀ led : Ld, (∀ p ∈ g.R0, p ∈ led) → (∀ p ∈ led, @LT.lt Nat _ 1 p.1) → Says g.w 10 fa vs led (fun r l => VR g.τ g.ρ0 sv r ∧ l = led)
structure Fx where
  p : Program
  loose : List Str
  mean : ExcName → Option Value
  mg : Str → Option Value
  mb : Str → Option Value
  A : Around
  A₀ : Around
  base : Heap
  h₀ : Heap
  outer : List Env
  env : Env
  L : Addr
  E : Value → Shared → Prop
structure COk (g : Gx) (kd : Nat) (f : Fx) : Prop where
  B : Below f.A₀ f.base f.outer f.h₀
  X : g.X.K.In f.h₀
  T : Top f.p f.loose f.mean f.mg f.mb f.h₀
  hA : f.A.frames = some (f.env :: f.outer)
  hf : f.env.frame = some f.L
  hke : f.env.scope.kind = .function
  hh : f.A.handled = none
  hd : f.A.depth + kd < recursionLimit
  hu : f.A.units + 8 * kd < cLine
  env : ∃ cn cs a ccd cl, f.env = envX cn cs f.L a ccd cl
  one : ∃ o, f.h₀.get? 1 = some o
structure FOk (g : Gx) (cs : Scope) (kd : Nat) (f : Fx) : Prop extends COk g kd f where
  envo : ∃ cn a ccd cl, f.env = envX cn cs f.L a ccd cl ∧ ∀ x sv, g.X.cl.lookup x = some sv → cs.names.lookup x = some .cell → ∃ c o v, cl.lookup x = some c ∧ (c, o) ∈ g.R0 ∧ o.data = .cell (some v) ∧ VR g.τ g.ρ0 sv v
  pass : PassesOwn (model PW g.w) f.A f.env f.E
structure SR (g : Gx) (f : Fx) (ρ : List Addr) (st : SS) (m : Str → Option Value) (news : Ld) (h : Heap) : Prop where
  F : Fr f.h₀ f.L h m
  N : News f.h₀ f.L h (news ++ g.R0)
  loc : ∀ x sv, st.loc.lookup x = some sv → ∃ v, m x = some v ∧ VR g.τ ρ sv v
  led : LR g.w g.τ ρ st.led news
  nx : ρ.length = st.nx
  off : ∀ p ∈ news, ∀ q ∈ g.R0, q.1 ≠ p.1
  nd : news.Pairwise fun p q => q.1 ≠ p.1
  up : ∀ i, g.n0 ≤ i → ∀ x, ρ[i]? = some x → ∀ q ∈ g.N0, @LT.lt Nat _ q.1 x
  ro : ∀ i o, g.X.ro.lookup i = some o → ∃ x ob, ρ[i]? = some x ∧ (x, ob) ∈ g.R0 ∧ OR g.w g.τ ρ o ob
  old : ∀ q ∈ g.N0, ∃ o, (q.1, o) ∈ news ++ g.R0
  le : Le g.ρ0 ρ
  low : ∀ p ∈ news ++ g.R0, @LT.lt Nat _ 1 p.1
  ne : g.R0 ≠ []
structure SR0 (g : Gx) (ρ : List Addr) (st : SS) (m : Str → Option Value) (news : Ld) : Prop where
  loc : ∀ x sv, st.loc.lookup x = some sv → ∃ v, m x = some v ∧ VR g.τ ρ sv v
  led : LR g.w g.τ ρ st.led news
  nx : ρ.length = st.nx
  off : ∀ p ∈ news, ∀ q ∈ g.R0, q.1 ≠ p.1
  nd : news.Pairwise fun p q => q.1 ≠ p.1
  up : ∀ i, g.n0 ≤ i → ∀ x, ρ[i]? = some x → ∀ q ∈ g.N0, @LT.lt Nat _ q.1 x
  ro : ∀ i o, g.X.ro.lookup i = some o → ∃ x ob, ρ[i]? = some x ∧ (x, ob) ∈ g.R0 ∧ OR g.w g.τ ρ o ob
  old : ∀ q ∈ g.N0, ∃ o, (q.1, o) ∈ news ++ g.R0
  le : Le g.ρ0 ρ
  low : ∀ p ∈ news ++ g.R0, @LT.lt Nat _ 1 p.1
  ne : g.R0 ≠ []
theorem SR.to0 {g : Gx} {f : Fx} {ρ : List Addr} {st : SS} {m : Str → Option Value} {news : Ld} {h : Heap} (S : SR g f ρ st m news h) : SR0 g ρ st m news := ⟨S.loc, S.led, S.nx, S.off, S.nd, S.up, S.ro, S.old, S.le, S.low, S.ne⟩
theorem SR0.at {g : Gx} {f : Fx} {ρ : List Addr} {st : SS} {m : Str → Option Value} {news : Ld} {h : Heap} (S : SR0 g ρ st m news) (F : Fr f.h₀ f.L h m) (N : News f.h₀ f.L h (news ++ g.R0)) : SR g f ρ st m news h := ⟨F, N, S.loc, S.led, S.nx, S.off, S.nd, S.up, S.ro, S.old, S.le, S.low, S.ne⟩
inductive Aft (g : Gx) (f : Fx) (s : Shared) (ρ : List Addr) (st : SS) (P : List Addr → Prop) (s' : Shared) : Prop
  | mk (ρ' m' news' h tk) : (Le ρ ρ') → (s' = { s with heap := h, toks := tk }) → (SR g f ρ' st m' news' h) → (P ρ') → Aft g f s ρ st P s'
theorem Aft.now {g : Gx} {f : Fx} {s : Shared} {ρ : List Addr} {st : SS} {P : List Addr → Prop} {m : Str → Option Value} {news : Ld} (S : SR g f ρ st m news s.heap) (p : P ρ) : Aft g f s ρ st P s := ⟨ρ, m, news, _, _, .refl _, rfl, S, p⟩
theorem Aft.at {g : Gx} {f : Fx} {s : Shared} {ρ ρ' : List Addr} {st : SS} {P : List Addr → Prop} {m : Str → Option Value} {news : Ld} {h : Heap} {tk : Nat} (le : Le ρ ρ') (S : SR g f ρ' st m news h) (p : P ρ') : Aft g f s ρ st P { s with heap := h, toks := tk } := ⟨ρ', m, news, _, _, le, rfl, S, p⟩
theorem Aft.trans {g : Gx} {f : Fx} {s : Shared} {ρ ρ' : List Addr} {st : SS} {P : List Addr → Prop} {h : Heap} {tk : Nat} {s' : Shared} (le : Le ρ ρ') (r : Aft g f { s with heap := h, toks := tk } ρ' st P s') : Aft g f s ρ st P s' := by
  walk_at "e"; obtain ⟨ρ₂, m, news, h', tk', le', rfl, S, p⟩ := r
  walk_at "l"; exact ⟨ρ₂, m, news, h', tk', le.trans le', rfl, S, p⟩
theorem Aft.imp {g : Gx} {f : Fx} {s : Shared} {ρ : List Addr} {st : SS} {P P' : List Addr → Prop} {s' : Shared} (r : Aft g f s ρ st P s') (i : ∀ ρ', P ρ' → P' ρ') : Aft g f s ρ st P' s' := by
  walk_at "e"; obtain ⟨ρ₂, m, news, h', tk', le', rfl, S, p⟩ := r
  walk_at "l"; exact ⟨ρ₂, m, news, h', tk', le', rfl, S, i _ p⟩
noncomputable abbrev WP (g : Gx) (f : Fx) {α : Type} (t : Sem α) (Q : α → Shared → Prop) (s : Shared) : Prop := wpAny (model PW g.w) f.A t Q f.E s
noncomputable abbrev EG (g : Gx) (f : Fx) (s : Shared) (ρ : List Addr) (st' : SS) (sv : SV) (t : Sem Value) : Prop := WP g f t (fun v s' => Aft g f s ρ st' (fun ρ' => VR g.τ ρ' sv v) s') s
noncomputable abbrev TG (g : Gx) (f : Fx) (s : Shared) (ρ : List Addr) (st' : SS) (b : Bool) (t : Sem Bool) : Prop := WP g f t (fun c s' => Aft g f s ρ st' (fun zz => c = b) s') s
noncomputable abbrev UG (g : Gx) (f : Fx) (s : Shared) (ρ : List Addr) (st' : SS) {α : Type} (t : Sem α) : Prop := WP g f t (fun zz s' => Aft g f s ρ st' (fun zz => True) s') s
noncomputable def FR (τ : Vt) (ρ : List Addr) : SF → Flow → Prop
  | .next, f => f = .next
  | .ret s, f => ∃ v, f = .ret v ∧ VR τ ρ s v
noncomputable abbrev SG (g : Gx) (f : Fx) (s : Shared) (ρ : List Addr) (st' : SS) (fl : SF) (t : Sem Flow) : Prop := WP g f t (fun v s' => Aft g f s ρ st' (fun ρ' => FR g.τ ρ' fl v) s') s
theorem seq {g : Gx} {f : Fx} {s : Shared} {ρ : List Addr} {st₁ : SS} {α : Type} {t : Sem α} {R : α → List Addr → Prop} {Q : α → Shared → Prop}
    (h : WP g f t (fun v s' => Aft g f s ρ st₁ (R v) s') s)
    (k : ∀ v ρ₁ m₁ news₁ h₁ tk₁, Le ρ ρ₁ → SR g f ρ₁ st₁ m₁ news₁ h₁ → R v ρ₁ → Q v { s with heap := h₁, toks := tk₁ }) : WP g f t Q s :=
  wpAny_mono h (fun v s' r => by obtain ⟨ρ₁, m₁, news₁, h₁, tk₁, le, rfl, S, p⟩ := r; exact k v ρ₁ m₁ news₁ h₁ tk₁ le S p) fun zz zz q => q
structure Snd (X : Sx) (r : Rec) : Prop where
  E : ∀ {cs kd e st sv st'}, r.E cs kd e st = some (sv, st') → ∀ {g : Gx} {f : Fx} {ρ m news s}, g.X = X → g.Ok → FOk g cs kd f → SR g f ρ st m news s.heap →
    EG g f s ρ st' sv (eval e f.env)
  T : ∀ {cs kd e st b st'}, r.T cs kd e st = some (b, st') → ∀ {g : Gx} {f : Fx} {ρ m news s}, g.X = X → g.Ok → FOk g cs kd f → SR g f ρ st m news s.heap →
    ∀ {whole : Sem Value}, whole = eval e f.env → TG g f s ρ st' b (PySem.isTrue e f.env whole)
  A : ∀ {cs kd es st l st'}, r.A cs kd es st = some (l, st') → ∀ {g : Gx} {f : Fx} {ρ m news s}, g.X = X → g.Ok → FOk g cs kd f → SR g f ρ st m news s.heap →
    ∀ pos, WP g f (spliced (backTo pos (starEach es f.env))) (fun vs s' => Aft g f s ρ st' (fun ρ' => All2 (VR g.τ ρ') l vs) s') s
  S : ∀ {cs kd x st fl st'}, r.S cs kd x st = some (fl, st') → ∀ {g : Gx} {f : Fx} {ρ m news s}, g.X = X → g.Ok → FOk g cs kd f → SR g f ρ st m news s.heap →
    SG g f s ρ st' fl (exec x f.env)
  B : ∀ {cs kd x st fl st'}, r.B cs kd x st = some (fl, st') → ∀ {g : Gx} {f : Fx} {ρ m news s}, g.X = X → g.Ok → FOk g cs kd f → SR g f ρ st m news s.heap →
    SG g f s ρ st' fl (execs x f.env)
  C : ∀ {kd c args st sv st'}, r.C kd c args st = some (sv, st') → ∀ {g : Gx} {f : Fx} {ρ m news s}, g.X = X → g.Ok → COk g kd f → SR g f ρ st m news s.heap →
    ∀ {fv vs}, VR g.τ ρ c fv → All2 (VR g.τ ρ) args vs → EG g f s ρ st' sv (call fv vs)
  L : ∀ {cs kd x body i n st st'}, r.L cs kd x body i n st = some st' → ∀ {g : Gx} {f : Fx} {ρ m news s}, g.X = X → g.Ok → FOk g cs kd f → isLocal cs x = true → SR0 g ρ st m news →
    ∀ {I tot} {Q : Flow → Shared → Prop}, @LT.lt Nat _ 1 I → (∀ p ∈ news ++ g.R0, p.1 ≠ I) → (∀ s', Aft g f s ρ st' (fun zz => True) s' → Q .next s') → RangeRest PW g.w f.A f.E f.h₀ f.env x body Q s I 0 tot n i m (news ++ g.R0)
  M : ∀ {cs kd x body l vs st st'}, r.M cs kd x body l vs st = some st' → ∀ {g : Gx} {f : Fx} {ρ m news s}, g.X = X → g.Ok → FOk g cs kd f → isLocal cs x = true → SR0 g ρ st m news →
    ∀ {I : Addr} {us : List Value} {ax : Addr} {lo : Obj} {Q : Flow → Shared → Prop}, All2 (VR g.τ ρ) vs us → ρ[l]? = some ax → (ax, lo) ∈ news → @LT.lt Nat _ 1 I → (∀ p ∈ news ++ g.R0, p.1 ≠ I) → (∀ s', Aft g f s ρ st' (fun zz => True) s' → Q .next s') →
    ListRest PW g.w f.A f.E f.h₀ f.env x body Q s I (ax, lo) us m (news ++ g.R0)
end NT
end
section
open PySem PySem.W PySem.Calls PyProof.Rows
namespace NT
theorem bs {α β : Type} {x : Option α} {k : α → Option β} {y : β} (h : x.bind k = some y) : ∃ a, x = some a ∧ k a = some y := Option.bind_eq_some_iff.mp h
theorem ck_t {b : Bool} {u : Unit} (h : ck b = some u) : b = true := by
  walk_at "e"; cases b with
  | true => walk_at "l"; rfl
  | false => walk_at "e"; cases h
theorem asI_ok {a : SV} {q : Nat × Int} (h : asI a = some q) : a = .int q.1 q.2 := by
  walk_at "e"; cases a <;> cases h
  walk_at "l"; rfl
theorem asA_ok {a : SV} {i : Nat} (h : asA a = some i) : a = .a i := by
  walk_at "e"; cases a <;> cases h
  walk_at "l"; rfl
theorem asK_ok {a : SV} {i : Nat} (h : asK a = some i) : a = .k i := by
  walk_at "e"; cases a <;> cases h
  walk_at "l"; rfl
theorem asV_ok {a : SV} {i : Nat} (h : asV a = some i) : a = .v i := by
  walk_at "e"; cases a <;> cases h
  walk_at "l"; rfl
theorem asB_ok {a : SV} {i : Bool} (h : asB a = some i) : a = .bool i := by
  walk_at "e"; cases a <;> cases h
  walk_at "l"; rfl
theorem isN_ok {a : SV} (h : isN a = true) : a = .none := by
  walk_at "e"; cases a <;> cases h
  walk_at "l"; rfl
theorem asZ_ok {a : SV} {k : Int} (h : asZ a = some k) : a = .int 0 k := by
  walk_at "e"; obtain ⟨⟨v, j⟩, h1, h⟩ := bs h
  walk_at "e"; obtain ⟨_, h2, h⟩ := bs h
  walk_at "e"; cases h
  walk_at "l"; rw [asI_ok h1, Nat.eq_of_beq_eq_true (ck_t h2)]
theorem soI_ok {a : SO} {q : Nat × Nat} (h : soI a = some q) : a = .inst q.1 q.2 := by
  walk_at "e"; cases a <;> cases h
  walk_at "l"; rfl
theorem soD_ok {a : SO} {q : List (Str × SV) × Nat} (h : soD a = some q) : a = .dict q.1 q.2 := by
  walk_at "e"; cases a <;> cases h
  walk_at "l"; rfl
theorem soL_ok {a : SO} {q : List SV × Nat} (h : soL a = some q) : a = .list q.1 q.2 := by
  walk_at "e"; cases a <;> cases h
  walk_at "l"; rfl
theorem soP_ok {a : SO} {q : Nat × List SV} (h : soP a = some q) : a = .plist q.1 q.2 := by
  walk_at "e"; cases a <;> cases h
  walk_at "l"; rfl
theorem refOf_ok {a : Value} {x : Addr} (h : refOf a = some x) : a = .ref x := by
  walk_at "e"; cases a <;> cases h
  walk_at "l"; rfl
theorem one_ok {α : Type} {l : List α} {a : α} (h : one l = some a) : l = [a] := by
  walk_at "e"; cases l with
  | nil => walk_at "e"; cases h
  | cons b l => walk_at "e"; cases l with
    | nil => walk_at "e"; cases h; walk_at "l"; rfl
    | cons => walk_at "e"; cases h
theorem two_ok {α : Type} {l : List α} {q : α × α} (h : two l = some q) : l = [q.1, q.2] := by
  walk_at "e"; cases l with
  | nil => walk_at "e"; cases h
  | cons b l =>
    walk_at "e"; obtain ⟨a, h1, h⟩ := Option.map_eq_some_iff.mp h
    walk_at "e"; cases h
    walk_at "l"; rw [one_ok h1]
theorem truth_t {sv : SV} {b : Bool} (e : truth sv = some b) : sv = .bool b := by
  walk_at "e"; cases sv <;> cases e
  walk_at "l"; rfl
theorem has_ok {α : Type} {p : α → Bool} {o : Option α} (h : has p o = true) : ∃ a, o = some a ∧ p a = true := by
  walk_at "e"; cases o with
  | none => walk_at "e"; cases h
  | some a => walk_at "l"; exact ⟨a, rfl, h⟩
theorem ofV_ok {τ : Vt} {ρ : List Addr} {v : Value} {sv : SV} (h : ofV v = some sv) : VR τ ρ sv v := by
  walk_at "l"; cases v <;> cases h <;> first | exact rfl | exact ⟨_, rfl⟩
theorem str_ne {a b : Str} (h : (a == b) = false) : (b == a) = false := by
  walk_at "l"; rw [Bool.eq_false_iff] at h ⊢
  walk_at "l"; exact fun e => h (beq_iff_eq.mpr (eq_of_beq e).symm)
section
variable {w : World} {τ : Vt} {ρ : List Addr}
set_option tactic.hygienic true in
theorem getL_some {name : Str} {es : List (Str × SV)} {des : List DictEntry} (h : All2 (ER w τ ρ) es des) {sv : SV} (e : es.lookup name = some sv) : ∃ v, getL name des = some (some v) ∧ VR τ ρ sv v := by
  walk_at "l"; induction h with
  | nil => walk_at "e"; cases e
  | @cons p d l m r _ ih =>
    walk_at "e"; obtain ⟨k, sk⟩ := p
    walk_at "e"; obtain ⟨t, v, rfl, hv⟩ := r
    rw [List.lookup_cons] at e
    walk_at "l"; unfold getL
    walk_at "l"; cases q : (name == k) with
    | true =>
      rw [q] at e; walk_at "e"; cases e
      have q' := eq_of_beq q
      walk_at "e"; subst q'
      walk_at "l"; exact ⟨v, by simp [Value.isStr], hv⟩
    | false =>
      rw [q] at e
      walk_at "e"; obtain ⟨v', h1, h2⟩ := ih e
      walk_at "l"; refine ⟨v', ?_, h2⟩
      unfold getL at h1
      walk_at "l"; rw [List.find?_cons]
      have : (Value.str k t).isStr name = false := str_ne q
      walk_at "l"; dsimp only
      walk_at "l"; rw [this]
      walk_at "e"; split at h1
      · rename_i e' he'; walk_at "l"; rw [he']; exact h1
      · walk_at "e"; split at h1 <;> simp at h1
theorem getL_none {name : Str} {es : List (Str × SV)} {des : List DictEntry} (h : All2 (ER w τ ρ) es des) (e : es.lookup name = none) : getL name des = some none := by
  have a : ∀ x ∈ des, x.key.isStr name = false ∧ x.refKey = false := by
    walk_at "l"; induction h with
    | nil => walk_at "l"; intro x hx; nomatch hx
    | @cons p d l m r _ ih =>
      walk_at "e"; obtain ⟨k, sk⟩ := p
      walk_at "e"; obtain ⟨t, v, rfl, hv⟩ := r
      rw [List.lookup_cons] at e
      walk_at "l"; cases q : (name == k) with
      | true => rw [q] at e; cases e
      | false =>
        rw [q] at e
        walk_at "l"; intro x hx
        walk_at "e"; rcases List.mem_cons.mp hx with rfl | hx
        · walk_at "l"; exact ⟨str_ne q, rfl⟩
        · walk_at "l"; exact ih e x hx
  walk_at "l"; unfold getL
  walk_at "l"; rw [List.find?_eq_none.mpr (fun x hx => by rw [(a x hx).1]; simp), if_neg]
  walk_at "l"; simp only [List.any_eq_true, not_exists, not_and]
  walk_at "l"; intro x hx; rw [(a x hx).2]; simp
theorem putL_ok {name : Str} {hsh : Int} {v : Value} {sv : SV} {t : Tok} (hh : hsh = PyData.keyHash w.params name) (hv : VR τ ρ sv v) {es : List (Str × SV)} {des : List DictEntry} (h : All2 (ER w τ ρ) es des) :
    All2 (ER w τ ρ) (putS name sv es) (putL name hsh (.str name t) v des) := by
  walk_at "e"; subst hh
  walk_at "l"; induction h with
  | nil => walk_at "l"; exact .cons ⟨t, v, rfl, hv⟩ .nil
  | @cons p d l m r hr ih =>
    walk_at "e"; obtain ⟨k, sk⟩ := p
    walk_at "e"; obtain ⟨t', v', rfl, hv'⟩ := r
    walk_at "l"; unfold putS putL
    have e : (Value.str k t').isStr name = (k == name) := rfl
    walk_at "l"; dsimp only
    walk_at "l"; rw [e]
    walk_at "l"; cases q : (k == name) with
    | true => walk_at "l"; exact .cons ⟨t', v, rfl, hv⟩ hr
    | false => walk_at "l"; exact .cons ⟨t', v', rfl, hv'⟩ ih
theorem putN_ok {name : Str} {es : List (Str × SV)} {des : List DictEntry} (h : All2 (ER w τ ρ) es des) (n : Nat) : putN name des n = if es.any (·.1 == name) then n else n + 1 := by
  walk_at "l"; unfold putN
  have : des.any (·.key.isStr name) = es.any (·.1 == name) := by
    walk_at "l"; induction h with
    | nil => walk_at "l"; rfl
    | @cons p d l m r hr ih =>
      walk_at "e"; obtain ⟨t', v', rfl, hv'⟩ := r
      walk_at "l"; rw [List.any_cons, List.any_cons, ih]; rfl
  walk_at "l"; rw [this]
end
section
variable {g : Gx} {f : Fx} {ρ : List Addr} {st : SS} {m : Str → Option Value} {news : Ld} {h : Heap}
set_option tactic.hygienic true in
theorem obj_ok (S : SR g f ρ st m news h) {i : Nat} {o : SO} (e : g.X.obj st i = some o) : ∃ x ob, ρ[i]? = some x ∧ (x, ob) ∈ news ++ g.R0 ∧ OR g.w g.τ ρ o ob := by
  unfold Sx.obj at e
  walk_at "e"; split at e
  · rename_i o' ho
    walk_at "e"; cases e
    walk_at "e"; obtain ⟨x, ob, a, b, c⟩ := S.led.look ho
    walk_at "l"; exact ⟨x, ob, a, List.mem_append_left _ b, c⟩
  · walk_at "e"; obtain ⟨x, ob, a, b, c⟩ := S.ro _ _ e
    walk_at "l"; exact ⟨x, ob, a, List.mem_append_right _ b, c⟩
theorem instOf_obj {i C d n : Nat} {es : List (Str × SV)} (e : instOf g.X st i = some (C, d, es, n)) : g.X.obj st i = some (.inst C d) ∧ g.X.obj st d = some (.dict es n) := by
  walk_at "e"; obtain ⟨o, h1, e⟩ := bs e
  walk_at "e"; obtain ⟨q, h2, e⟩ := bs e
  walk_at "e"; obtain ⟨p, h3, e⟩ := bs e
  walk_at "e"; obtain ⟨r, h4, e⟩ := bs e
  walk_at "e"; cases e
  walk_at "l"; exact ⟨soI_ok h2 ▸ h1, soD_ok h4 ▸ h3⟩
theorem instOf_ok (S : SR g f ρ st m news h) {i C d n : Nat} {es : List (Str × SV)} (e : instOf g.X st i = some (C, d, es, n)) :
    ∃ x dx des, ρ[i]? = some x ∧ ρ[d]? = some dx ∧ (x, instObj C dx) ∈ news ++ g.R0 ∧ (dx, dictOf des n) ∈ news ++ g.R0 ∧ All2 (ER g.w g.τ ρ) es des := by
  walk_at "e"; obtain ⟨h1, h2⟩ := instOf_obj e
  walk_at "e"; obtain ⟨x, ob, a, b, y, c, rfl⟩ := obj_ok S h1
  walk_at "e"; obtain ⟨x', ob', a', b', des, rfl, c'⟩ := obj_ok S h2
  rw [c] at a'; walk_at "e"; cases a'
  walk_at "l"; exact ⟨x, y, des, a, c, b, b', c'⟩
theorem VR.handed {τ : Vt} (hV : ∀ i, handedIn (τ.V i) = true) {sv : SV} {v : Value} (r : VR τ ρ sv v) (hs : handS sv = true) : handedIn v = true := by
  walk_at "e"; cases sv with
  | none => walk_at "e"; cases r; walk_at "l"; rfl
  | bool => walk_at "e"; cases r; walk_at "l"; rfl
  | int => walk_at "e"; obtain ⟨t, rfl⟩ := r; walk_at "l"; rfl
  | str => walk_at "e"; obtain ⟨t, rfl⟩ := r; walk_at "l"; rfl
  | k => walk_at "e"; cases r; walk_at "l"; rfl
  | a => walk_at "e"; obtain ⟨x, _, rfl⟩ := r; walk_at "l"; rfl
  | v => walk_at "e"; cases r; walk_at "l"; exact hV _
  | bi => walk_at "e"; cases hs
  | ty => walk_at "e"; cases r; walk_at "l"; rfl
set_option tactic.hygienic true in
theorem evName_ok {cs : Scope} {kd : Nat} {x : Str} {sv : SV} {s : Shared} (e : evName g.X cs x st = some sv) (O : FOk g cs kd f) (S : SR g f ρ st m news s.heap) {pos : Pos} {Q : Value → Shared → Prop} (k : ∀ v, VR g.τ ρ sv v → Q v s) : WP g f (eval (.Name x pos) f.env) Q s := by
  walk_at "e"; obtain ⟨cn, a, ccd, cl, he, hcl⟩ := O.envo
  have hk := O.hke
  walk_at "l"; unfold WP
  walk_at "l"; rw [he] at hk ⊢
  unfold evName at e
  simp only [Option.bind_eq_bind, Option.bind_eq_some_iff] at e
  walk_at "e"; obtain ⟨u, h1, e⟩ := e
  have hd : (x == ("__debug__" : Str)) = false := by have := ck_t h1; simpa [isDbg] using this
  walk_at "e"; split at e
  · rename_i hl
    walk_at "e"; obtain ⟨v, hv, r⟩ := S.loc _ _ e
    walk_at "l"; exact nameX_L (cl := cl) S.F hv (k v r) hk hl hd
  · rename_i hl
    walk_at "e"; split at e
    · rename_i v hn
      walk_at "l"; exact nameX_K (cl := cl) S.F O.X (topRead_of O.T) hn (k v (ofV_ok e)) hk hl hd
    · rename_i hn
      unfold builtinOf at e
      walk_at "e"; split at e
      · rename_i hx; walk_at "e"; cases e; cases eq_of_beq hx
        walk_at "l"; exact nameX_B (cl := cl) S.F O.X (topRead_of O.T) hn boot_len (by decide) (k _ rfl) hk hl hd
      · walk_at "e"; split at e
        · rename_i hx; walk_at "e"; cases e; cases eq_of_beq hx
          walk_at "l"; exact nameX_B (cl := cl) S.F O.X (topRead_of O.T) hn boot_isinstance (by decide) (k _ rfl) hk hl hd
        · walk_at "e"; split at e
          · rename_i hx; walk_at "e"; cases e; cases eq_of_beq hx
            walk_at "l"; exact nameX_B (cl := cl) S.F O.X (topRead_of O.T) hn PyProof.Rows.boot_bool (by decide) (k _ rfl) hk hl hd
          · walk_at "e"; split at e
            · rename_i hx; walk_at "e"; cases e; cases eq_of_beq hx
              walk_at "l"; exact nameX_B (cl := cl) S.F O.X (topRead_of O.T) hn PyProof.Rows.boot_sorted (by decide) (k _ rfl) hk hl hd
            · walk_at "e"; split at e
              · rename_i hx; walk_at "e"; cases e; cases eq_of_beq hx
                walk_at "l"; exact nameX_B (cl := cl) S.F O.X (topRead_of O.T) hn PyProof.Rows.boot_list (by decide) (k _ rfl) hk hl hd
              · walk_at "e"; cases e
    · walk_at "e"; cases e
  · rename_i hl
    walk_at "e"; obtain ⟨c, o, v, h2, h3, h4, r⟩ := hcl _ _ e hl
    walk_at "l"; exact nameX_C (cl := cl) S.N h2 (List.mem_append_right _ h3) h4 (k v (r.mono S.le)) hk hl hd
  · walk_at "e"; cases e
theorem instAt_of {x dx : Addr} {C : Nat} {des : List DictEntry} {n : Nat} {L : Addr} {h₀ : Heap} {nw : Ld} (N : News h₀ L h nw) (a : (x, instObj C dx) ∈ nw) (b : (dx, dictOf des n) ∈ nw) : W.InstAt h x (instObj C dx) C (some (dictOf des n)) := InstAt.of_news N a b
set_option tactic.hygienic true in
theorem evAttr_ok {s : Shared} {ov : Value} {o sv : SV} {name : Str} (e : evAttr g.X st o name = some sv) (G : g.Ok) {kd : Nat} (O : COk g kd f) (S : SR g f ρ st m news s.heap) (ho : VR g.τ ρ o ov) {b : Bool} {Q : Value → Shared → Prop} (k : ∀ v, VR g.τ ρ sv v → Q v { s with toks := s.toks + 1 }) : WP g f (getAttr ov name b) Q s := by
  walk_at "e"; cases o with
  | a i =>
    unfold evAttr at e
    simp only [Option.bind_eq_bind, Option.bind_eq_some_iff] at e
    walk_at "e"; obtain ⟨⟨C, d, es, n⟩, h1, e⟩ := e
    dsimp only at e
    walk_at "e"; obtain ⟨_, h2, _, h3, av, h4, e⟩ := e
    walk_at "e"; obtain ⟨x, dx, des, a1, a2, a3, a4, a5⟩ := instOf_ok S h1
    walk_at "e"; obtain ⟨x', a6, rfl⟩ := ho
    rw [a1] at a6; walk_at "e"; cases a6
    walk_at "e"; split at e
    · rename_i sv' hl
      simp only [Option.bind_eq_some_iff] at e
      walk_at "e"; obtain ⟨_, h5, _, h6, e⟩ := e
      walk_at "e"; cases e
      walk_at "e"; obtain ⟨v, h7, h8⟩ := getL_some a5 hl
      walk_at "l"; exact get_own S.F O.X (instAt_of S.N a3 a4) (ck_t h2) (ck_t h3) h4 (ck_t h5) h7 (h8.handed G.V (ck_t h6)) (k v h8)
    · rename_i hl
      simp only [Option.bind_eq_some_iff] at e
      walk_at "e"; obtain ⟨a, rfl, _, h5, _, h6, _, h7, e⟩ := e
      walk_at "l"; exact get_cls S.F O.X (instAt_of S.N a3 a4) (ck_t h2) (ck_t h3) h4 (beq_iff_eq.mp (ck_t h5)) (ck_t h6) (by have := ck_t h7; simpa using this) (getL_none a5 hl) (k a (ofV_ok e))
  | _ => walk_at "e"; cases e
end
section
variable {g : Gx} {f : Fx} {ρ : List Addr} {st : SS} {m : Str → Option Value} {news : Ld} {h : Heap}
theorem SR.heap (S : SR g f ρ st m news h) {h' : Heap} (F : Fr f.h₀ f.L h' m) (N : News f.h₀ f.L h' (news ++ g.R0)) : SR g f ρ st m news h' := ⟨F, N, S.loc, S.led, S.nx, S.off, S.nd, S.up, S.ro, S.old, S.le, S.low, S.ne⟩
theorem SR.store (S : SR g f ρ st m news h) {h' : Heap} {x : Str} {v : Value} {sv : SV} (r : VR g.τ ρ sv v) (F : Fr f.h₀ f.L h' (fun y => if y = x then some v else m y)) (N : News f.h₀ f.L h' (news ++ g.R0)) :
    SR g f ρ { st with loc := (x, sv) :: st.loc } (fun y => if y = x then some v else m y) news h' := by
  walk_at "l"; refine ⟨F, N, ?_, S.led, S.nx, S.off, S.nd, S.up, S.ro, S.old, S.le, S.low, S.ne⟩
  walk_at "l"; intro y sy hy
  dsimp only at hy
  rw [List.lookup_cons] at hy
  walk_at "e"; by_cases e : y = x
  · walk_at "e"; subst e
    rw [beq_self_eq_true] at hy; walk_at "e"; cases hy
    walk_at "l"; exact ⟨v, if_pos rfl, r⟩
  · rw [beq_eq_false_iff_ne.mpr e] at hy
    walk_at "e"; obtain ⟨v', a, b⟩ := S.loc _ _ hy
    walk_at "l"; exact ⟨v', by rw [if_neg e]; exact a, b⟩
theorem old_fst {N0 R0 news news' : Ld} (e : news'.map (·.1) = news.map (·.1)) (h : ∀ q ∈ N0, ∃ o, ((q.1, o) : Addr × Obj) ∈ news ++ R0) : ∀ q ∈ N0, ∃ o, ((q.1, o) : Addr × Obj) ∈ news' ++ R0 := by
  walk_at "l"; intro q hq
  walk_at "e"; obtain ⟨o, ho⟩ := h q hq
  walk_at "e"; rcases List.mem_append.mp ho with ho | ho
  · have : q.1 ∈ news'.map (·.1) := by rw [e]; exact List.mem_map.mpr ⟨_, ho, rfl⟩
    walk_at "e"; obtain ⟨p, hp, e⟩ := List.mem_map.mp this
    walk_at "l"; exact ⟨p.2, List.mem_append_left _ (by rw [← e]; exact hp)⟩
  · walk_at "l"; exact ⟨o, List.mem_append_right _ ho⟩
theorem SR.upd (S : SR g f ρ st m news h) {h' : Heap} {news' : Ld} {led' : List (Nat × SO)} (e : news'.map (·.1) = news.map (·.1)) (R : LR g.w g.τ ρ led' news') (F : Fr f.h₀ f.L h' m) (N : News f.h₀ f.L h' (news' ++ g.R0)) : SR g f ρ { st with led := led' } m news' h' := by
  walk_at "l"; refine ⟨F, N, S.loc, R, S.nx, ?_, ?_, S.up, S.ro, old_fst e S.old, S.le, ?_, S.ne⟩
  · walk_at "l"; intro p hp q hq
    have : p.1 ∈ news.map (·.1) := by rw [← e]; exact List.mem_map.mpr ⟨_, hp, rfl⟩
    walk_at "e"; obtain ⟨p', hp', e'⟩ := List.mem_map.mp this
    walk_at "l"; rw [← e']; exact S.off p' hp' q hq
  · have a : (news.map (·.1)).Pairwise fun p q => q ≠ p := List.pairwise_map.mpr S.nd
    rw [← e] at a
    walk_at "l"; exact List.pairwise_map.mp a
  · walk_at "l"; intro p hp
    walk_at "e"; rcases List.mem_append.mp hp with hp | hp
    · have : p.1 ∈ news.map (·.1) := by rw [← e]; exact List.mem_map.mpr ⟨_, hp, rfl⟩
      walk_at "e"; obtain ⟨p', hp', e'⟩ := List.mem_map.mp this
      walk_at "l"; rw [← e']; exact S.low p' (List.mem_append_left _ hp')
    · walk_at "l"; exact S.low p (List.mem_append_right _ hp)
theorem SR.lowOf (S : SR g f ρ st m news h) {d : Addr} (lt : ∀ p ∈ news ++ g.R0, @LT.lt Nat _ p.1 d) : @LT.lt Nat _ 1 d := by
  walk_at "l"; cases e : g.R0 with
  | nil => walk_at "l"; exact absurd e S.ne
  | cons q l =>
    have hq : q ∈ news ++ g.R0 := List.mem_append_right _ (by rw [e]; exact .head _)
    walk_at "l"; exact Nat.lt_trans (S.low q hq) (lt q hq)
theorem SR.nxt (S : SR g f ρ st m news h) {d : Addr} : (ρ ++ [d])[st.nx]? = some d := by
  walk_at "l"; rw [← S.nx]; simp
theorem SR.push (S : SR g f ρ st m news h) {h' : Heap} {d : Addr} {so : SO} {ob : Obj} (lt : ∀ p ∈ news ++ g.R0, @LT.lt Nat _ p.1 d) (r : OR g.w g.τ (ρ ++ [d]) so ob) (F : Fr f.h₀ f.L h' m) (N : News f.h₀ f.L h' ((d, ob) :: (news ++ g.R0))) :
    SR g f (ρ ++ [d]) { st with led := (st.nx, so) :: st.led, nx := st.nx + 1 } m ((d, ob) :: news) h' := by
  have le : Le ρ (ρ ++ [d]) := .push _
  walk_at "l"; refine ⟨F, N, ?_, .cons ⟨?_, r⟩ (S.led.mono le), ?_, ?_, ?_, ?_, ?_, ?_, S.le.trans le, ?_, S.ne⟩
  · walk_at "l"; intro x sv hx
    walk_at "e"; obtain ⟨v, a, b⟩ := S.loc x sv hx
    walk_at "l"; exact ⟨v, a, b.mono le⟩
  · walk_at "l"; rw [← S.nx]; simp
  · walk_at "l"; rw [List.length_append, S.nx]; rfl
  · walk_at "l"; intro p hp q hq
    walk_at "e"; rcases List.mem_cons.mp hp with rfl | hp
    · walk_at "l"; exact Nat.ne_of_lt (lt q (List.mem_append_right _ hq))
    · walk_at "l"; exact S.off p hp q hq
  · walk_at "l"; exact List.pairwise_cons.mpr ⟨fun q hq => Nat.ne_of_lt (lt q (List.mem_append_left _ hq)), S.nd⟩
  · walk_at "l"; intro i hi x hx q hq
    walk_at "e"; by_cases e : i < ρ.length
    · rw [List.getElem?_append_left e] at hx
      walk_at "l"; exact S.up i hi x hx q hq
    · have e' : i = ρ.length := by
        have := (List.getElem?_eq_some_iff.mp hx).1
        rw [List.length_append] at this
        simp at this; walk_at "l"; lia
      walk_at "e"; subst e'
      rw [List.getElem?_append_right (Nat.le_refl _), Nat.sub_self] at hx
      walk_at "e"; cases hx
      walk_at "e"; obtain ⟨o, ho⟩ := S.old q hq
      walk_at "l"; exact lt (q.1, o) ho
  · walk_at "l"; intro i o ho
    walk_at "e"; obtain ⟨x, ob, a, b, c⟩ := S.ro i o ho
    walk_at "l"; exact ⟨x, ob, le _ _ a, b, c.mono le⟩
  · walk_at "l"; intro q hq
    walk_at "e"; obtain ⟨o, ho⟩ := S.old q hq
    walk_at "l"; exact ⟨o, .tail _ ho⟩
  · walk_at "l"; exact List.forall_mem_cons.mpr ⟨S.lowOf lt, S.low⟩
theorem Upd.appendR {d : Addr} {o o' : Obj} {l l' R : Ld} (u : Upd d o o' l l') (h : ∀ p ∈ R, p.1 ≠ d) : Upd d o o' (l ++ R) (l' ++ R) := by
  walk_at "l"; induction u with
  | head a => walk_at "l"; exact .head fun p hp => (List.mem_append.mp hp).elim (a p) (h p)
  | tail a _ ih => walk_at "l"; exact .tail a ih
theorem setLed_ok {i : Nat} {so' : SO} : ∀ {l l' : List (Nat × SO)}, setLed i so' l = some l' → ∀ {nw : Ld}, LR g.w g.τ ρ l nw → nw.Pairwise (fun p q => q.1 ≠ p.1) → ∃ so x ob, l.lookup i = some so ∧ ρ[i]? = some x ∧ (x, ob) ∈ nw ∧ OR g.w g.τ ρ so ob ∧
    ∀ ob', OR g.w g.τ ρ so' ob' → ∃ nw', Upd x ob ob' nw nw' ∧ LR g.w g.τ ρ l' nw' ∧ nw'.map (·.1) = nw.map (·.1)
  | [], _, h, _, _, _ => by cases h
  | (j, oj) :: r, l', h, _, .cons (b := (x, ob)) (m := mm) hr hs, hd => by
    unfold setLed at h
    walk_at "l"; rw [List.lookup_cons]
    dsimp only at h
    have hd' := List.pairwise_cons.mp hd
    walk_at "l"; cases q : (j == i) with
    | true =>
      rw [q] at h; walk_at "e"; cases h
      have q' := eq_of_beq q
      walk_at "e"; subst q'
      walk_at "l"; rw [beq_self_eq_true]
      walk_at "l"; exact ⟨oj, x, ob, rfl, hr.1, .head _, hr.2, fun ob' r' => ⟨(x, ob') :: mm, .head fun p hp => hd'.1 p hp, .cons ⟨hr.1, r'⟩ hs, rfl⟩⟩
    | false =>
      rw [q] at h
      walk_at "e"; obtain ⟨t, ht, rfl⟩ := Option.map_eq_some_iff.mp h
      walk_at "e"; obtain ⟨so, y, oy, a1, a2, a3, a4, a5⟩ := setLed_ok ht hs hd'.2
      have : (i == j) = false := by
        walk_at "l"; rw [Bool.eq_false_iff] at q ⊢
        walk_at "l"; exact fun e => q (beq_iff_eq.mpr (eq_of_beq e).symm)
      walk_at "l"; rw [this]
      walk_at "l"; refine ⟨so, y, oy, a1, a2, .tail _ a3, a4, fun ob' r' => ?_⟩
      walk_at "e"; obtain ⟨nw', u, v, z⟩ := a5 ob' r'
      walk_at "l"; exact ⟨(x, ob) :: nw', .tail (fun e => hd'.1 _ a3 e.symm) u, .cons hr v, by rw [List.map_cons, List.map_cons, z]⟩
theorem upd_ok (S : SR g f ρ st m news h) {i : Nat} {so' : SO} {led' : List (Nat × SO)} (e : setLed i so' st.led = some led') : ∃ so x ob, st.led.lookup i = some so ∧ ρ[i]? = some x ∧ (x, ob) ∈ news ++ g.R0 ∧ OR g.w g.τ ρ so ob ∧
    ∀ ob', OR g.w g.τ ρ so' ob' → ∃ news', Upd x ob ob' (news ++ g.R0) (news' ++ g.R0) ∧ LR g.w g.τ ρ led' news' ∧ news'.map (·.1) = news.map (·.1) := by
  walk_at "e"; obtain ⟨so, x, ob, a1, a2, a3, a4, a5⟩ := setLed_ok e S.led S.nd
  walk_at "l"; refine ⟨so, x, ob, a1, a2, List.mem_append_left _ a3, a4, fun ob' r => ?_⟩
  walk_at "e"; obtain ⟨nw', u, v, z⟩ := a5 ob' r
  walk_at "l"; exact ⟨nw', Upd.appendR u fun q hq => S.off _ a3 q hq, v, z⟩
theorem evSet_ok {s : Shared} {ov v : Value} {o sv : SV} {name : Str} {st' : SS} (e : evSet g.X st o name sv = some st') (G : g.Ok) {kd : Nat} (O : COk g kd f) (S : SR g f ρ st m news s.heap) (ho : VR g.τ ρ o ov) (hv : VR g.τ ρ sv v) :
    UG g f s ρ st' (setAttr ov name v) := by
  walk_at "e"; cases o with
  | a i =>
    unfold evSet at e
    simp only [Option.bind_eq_bind, Option.bind_eq_some_iff] at e
    walk_at "e"; obtain ⟨⟨C, d, es, n⟩, h1, e⟩ := e
    dsimp only at e
    walk_at "e"; obtain ⟨_, h2, _, h3, _, h4, _, h5, _, h6, led', h7, e⟩ := e
    walk_at "e"; cases e
    walk_at "e"; obtain ⟨x', a6, rfl⟩ := ho
    walk_at "e"; obtain ⟨so, dx, ob, b1, b2, b3, b4, b5⟩ := upd_ok S h7
    walk_at "e"; obtain ⟨x, dx', des', a1, a2, a3, a4, a5⟩ := instOf_ok S h1
    rw [a1] at a6; walk_at "e"; cases a6
    rw [a2] at b2; walk_at "e"; cases b2
    have hso : so = .dict es n := by
      have h8 := (instOf_obj h1).2
      unfold Sx.obj at h8
      rw [b1] at h8
      walk_at "l"; exact Option.some.inj h8
    walk_at "e"; subst hso
    walk_at "e"; obtain ⟨des, rfl, b6⟩ := b4
    walk_at "e"; obtain ⟨news', u, R, z⟩ := b5 (dictOf (putL name (PyData.keyHash g.w.params name) (.str name (s.toks + 1)) v des) (if es.any (·.1 == name) then n else n + 1)) ⟨_, rfl, putL_ok rfl hv b6⟩
    rw [← putN_ok b6 n] at u
    walk_at "l"; refine set_dict S.F O.X S.N (instAt_of S.N a3 b3) rfl (beq_iff_eq.mp (ck_t h2)) (ck_t h3) (beq_iff_eq.mp (ck_t h4)) (ck_t h5) ?_ rfl u ?_ ?_
    · walk_at "l"; cases hl : es.lookup name with
      | some sv' => walk_at "e"; obtain ⟨v', hv', _⟩ := getL_some b6 hl; walk_at "l"; rw [hv']; rfl
      | none => walk_at "l"; rw [getL_none b6 hl]; rfl
    · walk_at "l"; rw [← (putL_ok rfl hv b6 (name := name) (t := s.toks + 1)).length]; exact Nat.le_of_ble_eq_true (ck_t h6)
    · walk_at "l"; intro h' F' N'
      walk_at "l"; exact Aft.at (.refl _) (S.upd z R F' N') trivial
  | _ => walk_at "e"; cases e
theorem isList_ok {h : Heap} (S : SR g f ρ st m news h) {i : Nat} (e : isList g.X st i = true) {x : Addr} (hx : ρ[i]? = some x) : ∃ its n, (x, W.listOf its n) ∈ news ++ g.R0 := by
  walk_at "e"; obtain ⟨o, h1, e⟩ := has_ok e
  walk_at "e"; cases o with
  | list vs n =>
    walk_at "e"; obtain ⟨x', ob, a, b, l, rfl, _⟩ := obj_ok S h1
    rw [hx] at a; walk_at "e"; cases a
    walk_at "l"; exact ⟨_, _, b⟩
  | plist p vs =>
    walk_at "e"; obtain ⟨x', ob, a, b, l, c, rfl, _⟩ := obj_ok S h1
    rw [hx] at a; walk_at "e"; cases a
    walk_at "l"; exact ⟨_, _, b⟩
  | _ => walk_at "e"; cases e
noncomputable abbrev MG (g : Gx) (f : Fx) (s : Shared) (ρ : List Addr) (st : SS) (fv : SV) (first : List SV) (t : Sem (Value × List Value)) : Prop := WP g f t (fun q s' => Aft g f s ρ st (fun ρ' => VR g.τ ρ' fv q.1 ∧ All2 (VR g.τ ρ') first q.2) s') s
theorem listMeth_ok {s : Shared} {i : Nat} {x : Addr} {fv : SV} {first : List SV} {name : Str} (e : listMeth i name = some (fv, first)) (S : SR g f ρ st m news s.heap) (hl : isList g.X st i = true) (hx : ρ[i]? = some x) {pl : Sem Bool} : MG g f s ρ st fv first (getMethod (.ref x) name pl) := by
  walk_at "e"; obtain ⟨its, n, hm⟩ := isList_ok S hl hx
  unfold listMeth at e
  walk_at "e"; split at e
  · rename_i q; walk_at "e"; cases e; cases eq_of_beq q
    walk_at "l"; exact listMethod_K S.N hm PySem.F.slot_list_append PySem.F.type_list_append (Aft.now S ⟨rfl, .cons ⟨x, hx, rfl⟩ .nil⟩)
  · walk_at "e"; split at e
    · rename_i q; walk_at "e"; cases e; cases eq_of_beq q
      walk_at "l"; exact listMethod_K S.N hm PySem.F.slot_list_pop PySem.F.type_list_pop (Aft.now S ⟨rfl, .cons ⟨x, hx, rfl⟩ .nil⟩)
    · walk_at "e"; cases e
theorem instMethG {s : Shared} {i : Nat} {x : Addr} {fv : SV} {first : List SV} {name : Str} (e : instMeth g.X st i name = some (fv, first)) {kd : Nat} (O : COk g kd f) (S : SR g f ρ st m news s.heap) (hx : ρ[i]? = some x) {pl : Sem Bool} {Q : Value × List Value → Shared → Prop}
    (k : ∀ fa, fv = .k fa → first = [.a i] → Q (.ref fa, [.ref x]) s) : WP g f (getMethod (.ref x) name pl) Q s := by
  walk_at "e"; obtain ⟨⟨C, d, es, n⟩, h1, e⟩ := bs e
  walk_at "e"; obtain ⟨_, h2, e⟩ := bs e
  walk_at "e"; obtain ⟨v, hf, e⟩ := bs e
  walk_at "e"; obtain ⟨v', hv, e⟩ := bs e
  walk_at "e"; obtain ⟨fa, hr, e⟩ := bs e
  walk_at "e"; obtain ⟨_, h3, e⟩ := bs e
  walk_at "e"; obtain ⟨_, h4, e⟩ := bs e
  walk_at "e"; cases e
  walk_at "e"; cases hv
  walk_at "e"; cases refOf_ok hr
  walk_at "e"; obtain ⟨y, dx, des, a1, a2, a3, a4, a5⟩ := instOf_ok S h1
  rw [hx] at a1; walk_at "e"; cases a1
  walk_at "l"; exact method_inst S.F O.X (instAt_of S.N a3 a4) (ck_t h2) hf (ck_t h3) (getL_none a5 (Option.isNone_iff_eq_none.mp (ck_t h4))) (k _ rfl rfl)
theorem instMethK {s : Shared} {i fa : Nat} {x : Addr} {name : Str} (e : instMeth g.X st i name = some (.k fa, [.a i])) {kd : Nat} (O : COk g kd f) (S : SR g f ρ st m news s.heap) (hx : ρ[i]? = some x) {pl : Sem Bool} {Q : Value × List Value → Shared → Prop} (k : Q (.ref fa, [.ref x]) s) :
    WP g f (getMethod (.ref x) name pl) Q s := instMethG e O S hx fun zz e zz => by cases e; exact k
theorem instMeth_ok {s : Shared} {i : Nat} {x : Addr} {fv : SV} {first : List SV} {name : Str} (e : instMeth g.X st i name = some (fv, first)) {kd : Nat} (O : COk g kd f) (S : SR g f ρ st m news s.heap) (hx : ρ[i]? = some x) {pl : Sem Bool} : MG g f s ρ st fv first (getMethod (.ref x) name pl) :=
  instMethG e O S hx fun fa e1 e2 => by rw [e1, e2]; exact Aft.now S ⟨rfl, .cons ⟨x, hx, rfl⟩ .nil⟩
theorem evMeth_ok {s : Shared} {ov : Value} {o fv : SV} {first : List SV} {name : Str} (e : evMeth g.X st o name = some (fv, first)) (G : g.Ok) {kd : Nat} (O : COk g kd f) (S : SR g f ρ st m news s.heap) (ho : VR g.τ ρ o ov) {pl : Sem Bool} : MG g f s ρ st fv first (getMethod ov name pl) := by
  walk_at "e"; cases o with
  | a i =>
    walk_at "e"; obtain ⟨x, hx, rfl⟩ := ho
    have e : (match isList g.X st i with | true => listMeth i name | false => instMeth g.X st i name) = some (fv, first) := e
    walk_at "e"; split at e
    · rename_i hl; walk_at "l"; exact listMeth_ok e S hl hx
    · walk_at "l"; exact instMeth_ok e O S hx
  | k C =>
    walk_at "e"; cases ho
    walk_at "e"; obtain ⟨_, h1, e⟩ := bs e
    walk_at "e"; obtain ⟨v, h2, e⟩ := bs e
    walk_at "e"; cases e
    walk_at "e"; obtain ⟨mc, h3, h2⟩ := bs h2
    walk_at "e"; obtain ⟨_, h4, h2⟩ := bs h2
    walk_at "e"; split at h2
    · rename_i a ha
      walk_at "e"; obtain ⟨_, h5, h2⟩ := bs h2
      walk_at "l"; exact method_of_cls S.F O.X (beq_iff_eq.mp (ck_t h1)) (cls_val S.F O.X h3 (ck_t h4) ha (ck_t h5) (Aft.at (.refl _) S ⟨ofV_ok h2, .nil⟩))
    · walk_at "e"; cases h2
  | _ => walk_at "e"; cases e
theorem factOf_ok {op : CmpOp} {x y : Nat × Int} {r : Bool} : ∀ {fs : Facts}, factOf fs op x y = some r → (op, x, y, r) ∈ fs
  | [], h => by cases h
  | (p, a, b, q) :: fs, h => by
    unfold factOf at h
    walk_at "e"; split at h
    · rename_i c; walk_at "e"; obtain ⟨rfl, rfl, rfl⟩ := c; cases h; walk_at "l"; exact .head _
    · walk_at "l"; exact .tail _ (factOf_ok h)
theorem iv_eq {τ : Vt} {a : Nat} {j k : Int} : ((τ.iv a j : Int) = τ.iv a k) ↔ j = k := by
  walk_at "e"; cases a with
  | zero => walk_at "l"; exact Iff.rfl
  | succ n => walk_at "l"; show τ.I n + j = τ.I n + k ↔ _; lia
theorem iv_le {τ : Vt} {a : Nat} {j k : Int} : (τ.iv a j ≤ τ.iv a k) ↔ j ≤ k := by
  walk_at "e"; cases a with
  | zero => walk_at "l"; exact Iff.rfl
  | succ n => walk_at "l"; show τ.I n + j ≤ τ.I n + k ↔ _; lia
theorem iv_lt {τ : Vt} {a : Nat} {j k : Int} : (τ.iv a j < τ.iv a k) ↔ j < k := by
  walk_at "e"; cases a with
  | zero => walk_at "l"; exact Iff.rfl
  | succ n => walk_at "l"; show τ.I n + j < τ.I n + k ↔ _; lia
theorem cmpInt_ok (G : g.Ok) {op : CmpOp} {x y : Nat × Int} {r : Bool} (e : cmpInt g.X.fc op x y = some r) : cmpOk op (g.τ.iv x.1 x.2) (g.τ.iv y.1 y.2) r := by
  unfold cmpInt at e
  walk_at "e"; split at e
  · rename_i hx
    walk_at "l"; rw [hx]
    walk_at "e"; cases op with
    | Eq => walk_at "e"; cases e; walk_at "l"; show (_ == _) = (_ == _); rw [Bool.eq_iff_iff, beq_iff_eq, beq_iff_eq]; exact iv_eq
    | NotEq => walk_at "e"; cases e; walk_at "l"; show (_ != _) = (_ != _); rw [Bool.eq_iff_iff, bne_iff_ne, bne_iff_ne]; exact not_congr iv_eq
    | Lt => walk_at "e"; cases e; walk_at "l"; show decide _ = decide _; exact decide_eq_decide.mpr iv_lt
    | LtE => walk_at "e"; cases e; walk_at "l"; show decide _ = decide _; exact decide_eq_decide.mpr iv_le
    | Gt => walk_at "e"; cases e; walk_at "l"; show decide _ = decide _; exact decide_eq_decide.mpr iv_lt
    | GtE => walk_at "e"; cases e; walk_at "l"; show decide _ = decide _; exact decide_eq_decide.mpr iv_le
    | _ => walk_at "e"; cases e
  · have e : factOf g.X.fc op x y = some r := by
      walk_at "e"; cases op with
      | Is => walk_at "e"; cases e
      | IsNot => walk_at "e"; cases e
      | In => walk_at "e"; cases e
      | NotIn => walk_at "e"; cases e
      | _ => walk_at "l"; exact e
    walk_at "l"; exact G.fc _ _ _ _ (factOf_ok e)
theorem isOp_ok {op : CmpOp} {b : Bool} {c : SV} (e : isOp op b = some c) : (op = .Is ∧ c = .bool b) ∨ (op = .IsNot ∧ c = .bool !b) := by
  walk_at "e"; cases op with
  | Is => walk_at "e"; cases e; walk_at "l"; exact .inl ⟨rfl, rfl⟩
  | IsNot => walk_at "e"; cases e; walk_at "l"; exact .inr ⟨rfl, rfl⟩
  | _ => walk_at "e"; cases e
theorem inOp_ok {op : CmpOp} {b : Bool} {c : SV} (e : inOp op b = some c) : (op = .In ∧ c = .bool b) ∨ (op = .NotIn ∧ c = .bool !b) := by
  walk_at "e"; cases op with
  | In => walk_at "e"; cases e; walk_at "l"; exact .inl ⟨rfl, rfl⟩
  | NotIn => walk_at "e"; cases e; walk_at "l"; exact .inr ⟨rfl, rfl⟩
  | _ => walk_at "e"; cases e
theorem isIs_ok {op : CmpOp} (e : isIs op = true) : op = .Is := by
  walk_at "e"; cases op <;> cases e
  walk_at "l"; rfl
theorem isNe_ok {op : CmpOp} (e : isNe op = true) : op = .NotEq := by
  walk_at "e"; cases op <;> cases e
  walk_at "l"; rfl
theorem cmpN_ok {op : CmpOp} {a c : SV} {s : Shared} {va : Value} (e : cmpN op a = some c) (S : SR g f ρ st m news s.heap) (ha : VR g.τ ρ a va) : EG g f s ρ st c (compareOp op va .none) := by
  walk_at "e"; cases a with
  | none => walk_at "e"; cases ha; walk_at "l"; exact (isOp_ok e).elim (fun q => q.1 ▸ q.2 ▸ is_none_none (Aft.now S rfl)) fun q => q.1 ▸ q.2 ▸ isnot_none_none (Aft.now S rfl)
  | a i => walk_at "e"; obtain ⟨x, _, rfl⟩ := ha; walk_at "l"; exact (isOp_ok e).elim (fun q => q.1 ▸ q.2 ▸ is_ref_none (Aft.now S rfl)) fun q => q.1 ▸ q.2 ▸ isnot_ref_none (Aft.now S rfl)
  | k i => walk_at "e"; cases ha; walk_at "l"; exact (isOp_ok e).elim (fun q => q.1 ▸ q.2 ▸ is_ref_none (Aft.now S rfl)) fun q => q.1 ▸ q.2 ▸ isnot_ref_none (Aft.now S rfl)
  | _ => walk_at "e"; cases e
noncomputable def KeyR (τ : Vt) (ρ : List Addr) (rk : List (Int × Value)) (k : Int) : Option SV → Prop
  | none => ∀ q ∈ rk, q.1 ≠ k
  | some sv => ∃ v, valueAt rk k = some v ∧ VR τ ρ sv v
theorem keyIn_some {τ : Vt} {k : Nat × Int} (hc : ∀ {op x y r}, cmpInt g.X.fc op x y = some r → cmpOk op (τ.iv x.1 x.2) (τ.iv y.1 y.2) r) {kvs : List ((Nat × Int) × SV)} {rk : List (Int × Value)}
    (H : All2 (fun p q => q.1 = τ.iv p.1.1 p.1.2 ∧ VR τ ρ p.2 q.2) kvs rk) : ∀ {o : Option SV}, keyIn g.X.fc k kvs = some o → KeyR τ ρ rk (τ.iv k.1 k.2) o := by
  walk_at "l"; induction H with
  | nil => walk_at "l"; intro o h; walk_at "e"; cases h; walk_at "l"; exact fun q hq => nomatch hq
  | @cons p q l rk hr hs ih =>
    walk_at "l"; intro o h
    walk_at "e"; obtain ⟨j, v⟩ := p
    have h : (match cmpInt g.X.fc .Eq j k with | some true => some (some v) | some false => keyIn g.X.fc k l | none => none) = some o := h
    walk_at "l"; cases e : cmpInt g.X.fc .Eq j k with
    | none => rw [e] at h; cases h
    | some b =>
      rw [e] at h
      have e := hc e
      walk_at "e"; cases b with
      | true =>
        walk_at "e"; cases h
        have e' : (τ.iv j.1 j.2 == τ.iv k.1 k.2) = true := e
        walk_at "l"; refine ⟨q.2, ?_, hr.2⟩
        walk_at "l"; unfold valueAt
        walk_at "l"; rw [List.find?_cons, hr.1, decide_eq_true (beq_iff_eq.mp e')]
        walk_at "l"; rfl
      | false =>
        have e' : (τ.iv j.1 j.2 == τ.iv k.1 k.2) = false := e
        have e'' := beq_eq_false_iff_ne.mp e'
        have ih := ih h
        walk_at "e"; cases o with
        | none => walk_at "l"; exact List.forall_mem_cons.mpr ⟨hr.1 ▸ e'', ih⟩
        | some sv =>
          walk_at "e"; obtain ⟨u, h1, h2⟩ := ih
          walk_at "l"; refine ⟨u, ?_, h2⟩
          walk_at "l"; unfold valueAt at h1 ⊢
          walk_at "l"; rw [List.find?_cons, hr.1, decide_eq_false e'']
          walk_at "l"; exact h1
theorem valueAt_no {rk : List (Int × Value)} {k : Int} (h : ∀ q ∈ rk, q.1 ≠ k) : valueAt rk k = none := by
  walk_at "l"; unfold valueAt
  walk_at "l"; rw [List.find?_eq_none.mpr fun x hx => by simpa using h x hx]
  walk_at "l"; rfl
theorem dkOf_mem {i : Nat} {k : Nat × Int} {sv : SV} : ∀ {l : List (Nat × (Nat × Int) × SV)}, dkOf l i k = some sv → (i, k, sv) ∈ l
  | [], h => by cases h
  | (j, x, v) :: r, h => by
    unfold dkOf at h
    walk_at "e"; split at h
    · rename_i e; walk_at "e"; obtain ⟨rfl, rfl⟩ := e; cases h; walk_at "l"; exact .head _
    · walk_at "l"; exact .tail _ (dkOf_mem h)
set_option tactic.hygienic true in
theorem hasKey_ok {h : Heap} (S : SR g f ρ st m news h) (G : g.Ok) {d : Nat} {k : Nat × Int} {b : Bool} (e : hasKey g.X st d k = some b) {x : Addr} (hx : ρ[d]? = some x) :
    ∃ ob rk, (x, ob) ∈ news ++ g.R0 ∧ ob.IsDictOf (intKind PW g.w) rk ∧ (valueAt rk (g.τ.iv k.1 k.2)).isSome = b := by
  walk_at "e"; obtain ⟨o, h1, e⟩ := bs e
  walk_at "e"; obtain ⟨x', ob, a1, a2, a3⟩ := obj_ok S h1
  rw [hx] at a1; walk_at "e"; cases a1
  walk_at "e"; cases o with
  | idict kvs =>
    walk_at "e"; obtain ⟨o, h2, rfl⟩ := Option.map_eq_some_iff.mp e
    walk_at "e"; obtain ⟨rk, a3, a4⟩ := a3
    walk_at "l"; refine ⟨ob, rk, a2, a3, ?_⟩
    have := keyIn_some (g := g) (ρ := ρ) (fun e => cmpInt_ok G e) a4 h2
    walk_at "e"; cases o with
    | none => walk_at "l"; rw [valueAt_no this]; rfl
    | some sv => walk_at "e"; obtain ⟨v, h3, _⟩ := this; walk_at "l"; rw [h3]; rfl
  | xdict i =>
    walk_at "e"; obtain ⟨o, h2, rfl⟩ := Option.map_eq_some_iff.mp e
    walk_at "e"; obtain ⟨v, h3, _⟩ := G.dk _ _ _ (dkOf_mem h2)
    walk_at "l"; exact ⟨ob, _, a2, a3.1, by rw [h3]; rfl⟩
  | nokey j =>
    have e : (if j = k then some false else none) = some b := e
    walk_at "e"; split at e
    · rename_i q
      walk_at "e"; cases e
      walk_at "e"; cases q
      walk_at "e"; obtain ⟨rk, a3, a4⟩ := a3
      walk_at "l"; exact ⟨ob, rk, a2, a3, by rw [a4]; rfl⟩
    · walk_at "e"; cases e
  | _ => walk_at "e"; cases e
theorem keyAt {s : Shared} {value slice : PySem.Expr} {d : Addr} {o : Obj} {kvs : List (Int × Value)} {k : Int} {key v : Value} {w : World} {A : Around} {E : Value → Shared → Prop} {h₀ : Heap} {L : Addr} {nw : Ld} {Q : Value → Shared → Prop} (N : News h₀ L s.heap nw) (hp : (d, o) ∈ nw) (hd : o.IsDictOf (intKind PW w) kvs) (hkey : (intKind PW w).is k key = true) (hl : valueAt kvs k = some v)
    (h : Q v { s with toks := s.toks + 1 }) (hs : plainSl slice = true) : wpAny (model PW w) A (subscriptTail value slice (.ref d) key) Q E s :=
  have hD := kda_dict N hp hd
  tail_any hD.typeIs slot_dict_getitem.lookup (wpAny_getItem_of hkey hD.mapOf hl h) (by cases slice <;> first | rfl | cases hs)
theorem subKey_ok {s : Shared} {o i c : SV} {vo vi : Value} {value slice : PySem.Expr} (e : subKey g.X st o i = some c) (G : g.Ok) (S : SR g f ρ st m news s.heap) (hs : plainSl slice = true) (ha : VR g.τ ρ o vo) (hb : VR g.τ ρ i vi) :
    EG g f s ρ st c (subscriptTail value slice vo vi) := by
  walk_at "e"; obtain ⟨l, h1, e⟩ := bs e
  walk_at "e"; obtain ⟨k, h2, e⟩ := bs e
  walk_at "e"; obtain ⟨o, h3, e⟩ := bs e
  walk_at "e"; cases asA_ok h1
  walk_at "e"; cases asI_ok h2
  walk_at "e"; obtain ⟨y, hy, rfl⟩ := ha
  walk_at "e"; obtain ⟨t, rfl⟩ := hb
  walk_at "e"; obtain ⟨x', ob, a1, a2, a3⟩ := obj_ok S h3
  rw [hy] at a1; walk_at "e"; cases a1
  walk_at "e"; cases o with
  | xdict j =>
    walk_at "e"; obtain ⟨v, h3, h4⟩ := G.dk _ _ _ (dkOf_mem e)
    walk_at "l"; exact keyAt S.N a2 a3.1 (intKind_is PW g.w _ _) h3 (Aft.at (.refl _) S (h4.mono S.le)) hs
  | idict kvs =>
    walk_at "e"; obtain ⟨rk, a3, a4⟩ := a3
    walk_at "e"; obtain ⟨o, h2, h3⟩ := bs e
    walk_at "e"; cases h3
    walk_at "e"; obtain ⟨v, h4, h5⟩ := keyIn_some (g := g) (ρ := ρ) (fun e => cmpInt_ok G e) a4 h2
    walk_at "l"; exact keyAt S.N a2 a3 (intKind_is PW g.w _ _) h4 (Aft.at (.refl _) S h5) hs
  | _ => walk_at "e"; cases e
theorem listNe_ok {s : Shared} {i j : Nat} {c : SV} (e : listNe g.X st i j = some c) {kd : Nat} (O : COk g kd f) (h8 : 8 ≤ kd) (S : SR g f ρ st m news s.heap) {x y : Addr} (hx : ρ[i]? = some x) (hy : ρ[j]? = some y) :
    EG g f s ρ st c (compareOp .NotEq (.ref x) (.ref y)) := by
  have hu := O.hu
  walk_at "e"; obtain ⟨o1, h1, e1⟩ := bs e
  walk_at "e"; obtain ⟨⟨p, vs⟩, q1, e2⟩ := bs e1
  walk_at "e"; obtain ⟨o2, h2, e3⟩ := bs e2
  walk_at "e"; obtain ⟨⟨us, n⟩, q2, e4⟩ := bs e3
  have e : neL p vs us = some c := e4
  clear e1 e2 e3 e4
  walk_at "e"; cases soP_ok q1
  walk_at "e"; cases soL_ok q2
  walk_at "e"; obtain ⟨x', ob, a1, a2, l, c, rfl, a3, _⟩ := obj_ok S h1
  walk_at "e"; obtain ⟨y', ob', b1, b2, l', rfl, b3⟩ := obj_ok S h2
  rw [hx] at a1; walk_at "e"; cases a1
  rw [hy] at b1; walk_at "e"; cases b1
  walk_at "e"; cases us with
  | cons => walk_at "e"; cases e
  | nil =>
    walk_at "e"; cases b3
    walk_at "e"; cases vs with
    | cons v vs =>
      walk_at "e"; cases e
      walk_at "e"; cases a3 with
      | cons r rs => walk_at "l"; exact PySem.SeqAt.RcNeAt.lists_lengths (S.N.isList a2) (S.N.isList b2) (by simp) (by lia) PW g.w f.E _ (Aft.now S rfl)
    | nil =>
      walk_at "e"; cases a3
      walk_at "e"; cases p with
      | zero =>
        walk_at "e"; cases e
        walk_at "l"; exact ke_ne_ints (xs := []) (ys := []) (S.N.isList a2) (S.N.isList b2) .nil .nil (by lia) (Aft.now S rfl)
      | succ => walk_at "e"; cases e
theorem evCmp_ok {s : Shared} {op : CmpOp} {a b c : SV} {va vb : Value} (e : evCmp g.X st op a b = some c) (G : g.Ok) {kd : Nat} (O : COk g kd f) (hk : neKd op kd = true) (S : SR g f ρ st m news s.heap) (ha : VR g.τ ρ a va) (hb : VR g.τ ρ b vb) :
    EG g f s ρ st c (compareOp op va vb) := by
  walk_at "e"; cases b with
  | int u j =>
    walk_at "e"; obtain ⟨q, h1, e⟩ := bs e
    walk_at "e"; obtain ⟨r, h, rfl⟩ := Option.map_eq_some_iff.mp e
    walk_at "e"; cases asI_ok h1
    walk_at "e"; obtain ⟨t, rfl⟩ := ha
    walk_at "e"; obtain ⟨u, rfl⟩ := hb
    have := cmpInt_ok G h
    walk_at "e"; cases op with
    | Eq => walk_at "l"; exact eq_int (Aft.now S (congrArg _ this))
    | NotEq => walk_at "l"; exact ne_int (Aft.now S (congrArg _ this))
    | Lt => walk_at "l"; exact lt_int (Aft.now S (congrArg _ this))
    | LtE => walk_at "l"; exact le_int (Aft.now S (congrArg _ this))
    | Gt => walk_at "l"; exact gt_int (Aft.now S (congrArg _ this))
    | GtE => walk_at "l"; exact ge_int (Aft.now S (congrArg _ this))
    | _ => walk_at "l"; exact this.elim
  | none => walk_at "e"; cases hb; walk_at "l"; exact cmpN_ok e S ha
  | k b =>
    walk_at "e"; obtain ⟨_, h0, e⟩ := bs e
    walk_at "e"; obtain ⟨i, h1, e⟩ := bs e
    walk_at "e"; obtain ⟨o, h2, e⟩ := bs e
    walk_at "e"; obtain ⟨q, h3, e⟩ := bs e
    walk_at "e"; obtain ⟨ko, h4, e⟩ := bs e
    walk_at "e"; cases e
    walk_at "e"; cases isIs_ok (ck_t h0)
    walk_at "e"; cases asA_ok h1
    walk_at "e"; cases soI_ok h3
    walk_at "e"; obtain ⟨x, hx, rfl⟩ := ha
    walk_at "e"; cases hb
    walk_at "e"; obtain ⟨x', ob, a1, a2, y, a3, rfl⟩ := obj_ok S h2
    rw [hx] at a1; walk_at "e"; cases a1
    have h5 := O.X _ _ h4
    walk_at "l"; refine is_led S.F O.X S.N (memL a2) h4 ?_ (by intro q; cases q) (Aft.now S rfl)
    walk_at "l"; intro q
    have h6 := (S.N _ a2).2.2
    dsimp only at h6
    rw [q, h5] at h6
    walk_at "e"; cases h6
  | a j =>
    walk_at "e"; obtain ⟨y, hy, rfl⟩ := hb
    walk_at "e"; cases a with
    | a i =>
      walk_at "e"; obtain ⟨_, h0, e⟩ := bs e
      walk_at "e"; cases isNe_ok (ck_t h0)
      walk_at "e"; obtain ⟨x, hx, rfl⟩ := ha
      walk_at "l"; exact listNe_ok e O (Nat.le_of_ble_eq_true hk) S hx hy
    | int v k =>
      walk_at "e"; obtain ⟨b, h1, e⟩ := bs e
      walk_at "e"; obtain ⟨t, rfl⟩ := ha
      walk_at "e"; obtain ⟨ob, rk, h2, h3, h4⟩ := hasKey_ok S G h1 hy
      walk_at "l"; exact (inOp_ok e).elim (fun q => q.1 ▸ q.2 ▸ kda_in S.N h2 h3 (beq_eq_false_iff_ne.mpr (Nat.ne_of_gt (S.low _ h2))) (intKind_is PW g.w _ _) b h4 (Aft.at (.refl _) S rfl))
        fun q => q.1 ▸ q.2 ▸ kdg_notin S.N h2 h3 (beq_eq_false_iff_ne.mpr (Nat.ne_of_gt (S.low _ h2))) (intKind_is PW g.w _ _) b h4 (Aft.at (.refl _) S rfl)
    | _ => walk_at "e"; cases e
  | _ => walk_at "e"; cases e
theorem truth_ok {sv : SV} {b : Bool} (e : truth sv = some b) {s : Shared} {v : Value} (r : VR g.τ ρ sv v) {Q : Bool → Shared → Prop} (k : Q b s) : WP g f (truthy v) Q s := by
  walk_at "e"; cases sv <;> cases e
  walk_at "e"; cases r
  walk_at "l"; exact wpAny_truthy_bool k
theorem addI_ok {τ : Vt} {v u : Nat} {k j : Int} {sv : SV} (e : addI v k u j = some sv) (t : Tok) : VR τ ρ sv (.int (τ.iv v k + τ.iv u j) t) := by
  unfold addI at e
  walk_at "e"; split at e
  · walk_at "e"; cases e
    walk_at "l"; refine ⟨t, ?_⟩
    walk_at "l"; congr 1
    walk_at "e"; cases v with
    | zero => walk_at "l"; rfl
    | succ n => walk_at "l"; show τ.I n + k + j = τ.I n + (k + j); lia
  · walk_at "e"; cases e
    walk_at "l"; refine ⟨t, ?_⟩
    walk_at "l"; congr 1
    walk_at "e"; cases u with
    | zero => walk_at "l"; rfl
    | succ n => walk_at "l"; show k + (τ.I n + j) = τ.I n + (k + j); lia
  · walk_at "e"; cases e
theorem listAt_ok {h : Heap} (S : SR g f ρ st m news h) {i n : Nat} {vs : List SV} (e : listAt g.X st (.a i) = some (vs, n)) : ∃ x l, ρ[i]? = some x ∧ (x, W.listOf l.toArray n) ∈ news ++ g.R0 ∧ All2 (VR g.τ ρ) vs l := by
  walk_at "e"; obtain ⟨o, h1, h2⟩ := bs (show (g.X.obj st i).bind soL = some (vs, n) from e)
  walk_at "e"; cases soL_ok h2
  walk_at "e"; obtain ⟨x, ob, a, b, l, rfl, c⟩ := obj_ok S h1
  walk_at "l"; exact ⟨x, l, a, b, c⟩
theorem line_of {n : Nat} (h : Nat.ble n 1000 = true) : n ≤ sizeLine := by
  have := Nat.le_of_ble_eq_true h
  walk_at "l"; rw [sizeLine_eq]; lia
theorem evBin_ok {s : Shared} {op : Operator} {a b c : SV} {va vb : Value} {st' : SS} (e : evBin g.X op a b st = some (c, st')) (G : g.Ok) (S : SR g f ρ st m news s.heap) (ha : VR g.τ ρ a va) (hb : VR g.τ ρ b vb) :
    EG g f s ρ st' c (binaryOp op va vb) := by
  walk_at "e"; cases op with
  | Add => walk_at "e"; cases a with
    | int v k =>
      walk_at "e"; obtain ⟨q, h1, e⟩ := bs e
      walk_at "e"; obtain ⟨r, h, e⟩ := bs e
      walk_at "e"; cases e
      walk_at "e"; cases asI_ok h1
      walk_at "e"; obtain ⟨t, rfl⟩ := ha
      walk_at "e"; obtain ⟨u, rfl⟩ := hb
      walk_at "l"; exact add_int (Aft.at (.refl _) S (addI_ok h _))
    | a i =>
      walk_at "e"; obtain ⟨⟨vs, n⟩, h1, e⟩ := bs e
      walk_at "e"; obtain ⟨⟨us, k⟩, h2, e⟩ := bs e
      walk_at "e"; obtain ⟨_, h3, e⟩ := bs e
      walk_at "e"; cases e
      walk_at "e"; obtain ⟨j, hj, _⟩ := bs h2
      walk_at "e"; cases asA_ok hj
      walk_at "e"; obtain ⟨x, l, a1, a2, a3⟩ := listAt_ok S h1
      walk_at "e"; obtain ⟨y, l', b1, b2, b3⟩ := listAt_ok S h2
      walk_at "e"; obtain ⟨x', a4, rfl⟩ := ha
      walk_at "e"; obtain ⟨y', b4, rfl⟩ := hb
      rw [a1] at a4; walk_at "e"; cases a4
      rw [b1] at b4; walk_at "e"; cases b4
      walk_at "l"; refine kmk_add_lit S.F S.N (S.N.isList a2) (S.N.isList b2) rfl ?_ ?_
      · walk_at "l"; intro D h' F' N' lt
        have le : Le ρ (ρ ++ [D]) := .push _
        walk_at "l"; refine Aft.at le (S.push (so := .list (vs ++ us) 0) lt ⟨_, rfl, (a3.append b3).imp fun zz zz q => q.mono le⟩ F' N') ⟨D, ?_, rfl⟩
        walk_at "l"; rw [← S.nx]; simp
      · walk_at "l"; dsimp only; rw [← a3.length, ← b3.length]; exact line_of (ck_t h3)
    | _ => walk_at "e"; cases e
  | Sub =>
    walk_at "e"; obtain ⟨⟨v, k⟩, h1, e⟩ := bs e
    walk_at "e"; obtain ⟨j, h2, e⟩ := bs e
    walk_at "e"; cases e
    walk_at "e"; cases asI_ok h1
    walk_at "e"; cases asZ_ok h2
    walk_at "e"; obtain ⟨t, rfl⟩ := ha
    walk_at "e"; obtain ⟨u, rfl⟩ := hb
    walk_at "l"; refine sub_int (Aft.at (.refl _) S ⟨s.toks, ?_⟩)
    walk_at "l"; congr 1
    walk_at "e"; cases v with
    | zero => walk_at "l"; rfl
    | succ n => walk_at "l"; show g.τ.I n + k - j = g.τ.I n + (k - j); lia
  | _ => walk_at "e"; cases e
set_option tactic.hygienic true in
theorem tupOf_ok {X : Sx} {t : Nat} {l : Array Value} (e : tupOf X t = some l) : ∃ d n sl, X.K.lookup t = some ⟨.type "tuple", d, .seq l n, sl⟩ := by
  unfold tupOf at e
  walk_at "e"; split at e
  · rename_i d l n sl hl
    walk_at "e"; cases e
    walk_at "l"; exact ⟨d, n, sl, hl⟩
  · walk_at "e"; cases e
theorem evSub_ok {s : Shared} {o i c : SV} {vo vi : Value} {value slice : PySem.Expr} (e : evSub g.X st o i = some c) (G : g.Ok) {kd : Nat} (O : COk g kd f) (S : SR g f ρ st m news s.heap) (hs : plainSl slice = true) (ha : VR g.τ ρ o vo) (hb : VR g.τ ρ i vi) {Q : Value → Shared → Prop} (k : ∀ v, VR g.τ ρ c v → Q v s) :
    WP g f (subscriptTail value slice vo vi) Q s := by
  walk_at "e"; obtain ⟨j, h0, e1⟩ := bs e
  walk_at "e"; obtain ⟨_, h2, e0⟩ := bs e1
  clear e e1
  walk_at "e"; cases asZ_ok h0
  have h3 := ck_t h2
  rw [Bool.and_eq_true, decide_eq_true_eq, decide_eq_true_eq] at h3
  walk_at "e"; obtain ⟨t, rfl⟩ := hb
  have ei : g.τ.iv 0 j = j := rfl
  walk_at "l"; rw [ei]
  walk_at "e"; cases o with
  | a l =>
    walk_at "e"; obtain ⟨⟨vs, n⟩, h1, e⟩ := bs e0
    walk_at "e"; obtain ⟨x, l', a1, a2, a3⟩ := listAt_ok S h1
    walk_at "e"; obtain ⟨x', a4, rfl⟩ := ha
    rw [a1] at a4; walk_at "e"; cases a4
    walk_at "e"; obtain ⟨v, hv, r⟩ := a3.get e
    walk_at "l"; exact item_led S.N (memL a2) h3.1 (Int.lt_trans h3.2 (by decide)) hv (k v r) (by cases slice <;> first | rfl | cases hs)
  | k t =>
    walk_at "e"; obtain ⟨l, hl, e1⟩ := bs e0
    walk_at "e"; obtain ⟨v, h4, e2⟩ := bs e1
    walk_at "e"; cases ha
    walk_at "e"; obtain ⟨d, n, sl, hl⟩ := tupOf_ok hl
    have hlt : j.toNat < l.toList.length := (List.getElem?_eq_some_iff.mp h4).1
    walk_at "l"; refine topTup_K (l := l.toList) (j := j.toNat) S.F O.X (by simpa using hl) (Int.le_trans (by decide) h3.1) (Int.lt_trans h3.2 (by decide)) ?_ h4 (k v (ofV_ok e2)) (by cases slice <;> first | rfl | cases hs)
    walk_at "l"; unfold seqIndex?
    have : ¬ j < 0 := by lia
    have h5 : j < (l.toList.length : Int) := by lia
    walk_at "l"; simp only [this, if_false, h3.1, h5, decide_true, Bool.and_self, if_true]
  | _ => walk_at "e"; cases e0
end
end NT
end
section
open PySem PySem.W PySem.Calls PyProof.Rows
namespace NT
theorem plain_star {e : PySem.Expr} {rest : List PySem.Expr} {env : Env} (h : plainEl e = true) : starEach (e :: rest) env = (false, eval e env) :: starEach rest env := by
  walk_at "l"; cases e <;> first | rfl | cases h
theorem plain_any {pos : Pos} {env : Env} : ∀ {es : List PySem.Expr}, es.all plainEl = true → ((backTo pos (starEach es env)).any fun x => x.1) = false
  | [], _ => rfl
  | e :: rest, h => by
    rw [List.all_cons, Bool.and_eq_true] at h
    walk_at "l"; rw [plain_star h.1]
    have := plain_any (pos := pos) (env := env) h.2
    walk_at "l"; simpa [backTo] using this
section
variable {g : Gx} {f : Fx} {ρ : List Addr} {st st' : SS} {m : Str → Option Value} {news : Ld} {s : Shared} {r : Rec} {cs : Scope} {kd : Nat}
theorem In_now (O : COk g kd f) {h : Heap} (S : SR g f ρ st m news h) : g.X.K.In h := O.X.keeps S.F.keep
theorem callK {c : SV} {fst : List SV} {args : List PySem.Expr} {vs : List SV} {st₁ : SS} {fv : Value} {fs : List Value} {pos : Pos} {func : PySem.Expr} (H : Snd g.X r) (G : g.Ok) (O : FOk g cs kd f) (S : SR g f ρ st m news s.heap) (hp : args.all plainEl = true)
    (hk : okHead g.X c args func = true) (hb : isName func = true → fst = [])
    (hA : evArgs r cs kd args st = some (vs, st₁)) (hf : VR g.τ ρ c fv) (hfs : All2 (VR g.τ ρ) fst fs) {Q : Value → Shared → Prop}
    (k : ∀ ρ₁ m₁ news₁ h₁ tk₁ us, Le ρ ρ₁ → SR g f ρ₁ st₁ m₁ news₁ h₁ → All2 (VR g.τ ρ₁) (fst ++ vs) us → VR g.τ ρ₁ c fv → WP g f (call fv us) Q { s with heap := h₁, toks := tk₁ }) :
    WP g f (callWith pos fv fs (backTo pos (starEach args f.env)) []) Q s := by
  have run : ∀ e rest, args = e :: rest → ∀ pos, WP g f (spliced (backTo pos (starEach args f.env))) (fun us s₁ => g.X.K.In s₁.heap ∧ WP g f (call fv (fs ++ us)) Q s₁) s := fun e rest he pos => by
    walk_at "e"; subst he
    walk_at "l"; exact seq (H.A hA rfl G O S pos) fun us ρ₁ m₁ news₁ h₁ tk₁ le S₁ ru =>
      ⟨In_now O.toCOk S₁, k ρ₁ m₁ news₁ h₁ tk₁ _ le S₁ ((hfs.imp fun zz zz q => q.mono le).append ru) (hf.mono le)⟩
  have none : args = [] → WP g f (call fv fs) Q s := fun e => by
    walk_at "e"; subst e
    walk_at "e"; cases hA
    have := k ρ m news s.heap s.toks fs (.refl _) S (by rw [List.append_nil]; exact hfs) hf
    walk_at "l"; exact this
  walk_at "e"; cases c with
  | k a =>
    walk_at "e"; cases args with
    | nil =>
      walk_at "e"; cases hf
      walk_at "l"; exact callWith_K0 (In_now O.toCOk S) hk (by rw [List.append_nil]; exact none rfl)
    | cons e rest =>
      rw [List.all_cons, Bool.and_eq_true] at hp
      walk_at "e"; cases hf
      walk_at "l"; exact callWith_K O.X hk (run _ _ rfl pos) (plain_star hp.1) (plain_any hp.2)
  | bi id =>
    walk_at "e"; cases hf
    walk_at "e"; cases args with
    | nil => walk_at "l"; exact callWith_method0 (none rfl)
    | cons e rest =>
      rw [List.all_cons, Bool.and_eq_true] at hp
      walk_at "l"; exact callWith_method1 (wpAny_mono (run _ _ rfl pos) (fun zz zz q => q.2) fun zz zz q => q) (plain_star hp.1) (plain_any hp.2)
  | ty T =>
    walk_at "e"; cases hf
    have hk' : (isName func && Nat.beq args.length 1) = true := hk
    rw [Bool.and_eq_true] at hk'
    walk_at "e"; cases hb hk'.1
    walk_at "e"; cases hfs
    walk_at "e"; cases args with
    | nil => walk_at "e"; cases hk'.2
    | cons e rest =>
      walk_at "e"; cases rest with
      | cons => walk_at "e"; cases hk'.2
      | nil =>
        rw [List.all_cons, Bool.and_eq_true] at hp
        walk_at "l"; exact Pv.callWith_type1 (wpAny_mono (run _ _ rfl pos) (fun zz zz q => q.2) fun zz zz q => q) (plain_star hp.1) rfl
  | _ => walk_at "e"; cases hk
theorem not_both {e : PySem.Expr} {u : Unit} (h : ck (isName e || isAttr e) = some u) : (∃ x p, e = .Name x p) ∨ ∃ v x p, e = .Attribute v x p := by
  have h := ck_t h
  walk_at "e"; cases e with
  | Name x p => walk_at "l"; exact .inl ⟨x, p, rfl⟩
  | Attribute v x p => walk_at "l"; exact .inr ⟨v, x, p, rfl⟩
  | _ => walk_at "e"; cases h
theorem meth_eq {o : PySem.Expr} {name : Str} {apos pos : Pos} {args : List PySem.Expr} {env : Env} (ho : (∃ x p, o = .Name x p) ∨ ∃ v x p, o = .Attribute v x p) (hp : args.all plainEl = true) (hn : args.length < 30) (hl : (apos.endLine == pos.line) = true) :
    eval ((o.Attribute name apos).Call args [] pos) env = (do
      let ov ← eval o env
      standAt apos.atName
      let x ← holding [ov] (getMethod ov name (do return (← importBound o env).getD true))
      match x with
      | (f, first) => callWith pos f first (backTo pos (starEach args env)) []) := by
  have e1 : methodCallForm (args.length + 0) (backTo pos (starEach args env)) [] = true := by
    have := plain_any (pos := pos) (env := env) hp
    unfold methodCallForm
    rw [List.any_eq_false] at this
    simp only [Bool.and_eq_true, decide_eq_true_eq, List.all_eq_true]
    exact ⟨⟨fun x hx => by have := this x hx; simpa using this, fun x hx => (nomatch hx)⟩, hn⟩
  have e0 : attributeBase o name env (eval o env) = eval o env := by
    rcases ho with ⟨x, p, rfl⟩ | ⟨v, x, p, rfl⟩ <;> rfl
  show (do let ov ← attributeBase o name env (eval o env); standAt apos.atName; methodCall o name apos pos env ov (args.length + 0) (backTo pos (starEach args env)) []) = _
  rw [e0]
  unfold methodCall calleeOf methodCallPos
  simp only [e1, hl, Bool.not_true, Bool.false_or, if_true]
  rfl
theorem eConst_ok {c : Const} {k : Nat} {pos : Pos} {sv : SV} (h : eConst c st = some (sv, st')) (S : SR g f ρ st m news s.heap) : EG g f s ρ st' sv (eval (.Constant c k pos) f.env) := by
  walk_at "e"; cases c with
  | none => walk_at "e"; cases h; walk_at "l"; exact wpAny_Constant_none (Aft.now S rfl)
  | bool b => walk_at "e"; cases h; walk_at "l"; exact Constant_bool (Aft.now S rfl)
  | int i => walk_at "e"; cases h; walk_at "l"; exact wpAny_Constant_int (Aft.at (.refl _) S ⟨_, rfl⟩)
  | str s => walk_at "e"; cases h; walk_at "l"; exact Constant_str (Aft.at (.refl _) S ⟨_, rfl⟩)
  | _ => walk_at "e"; cases h
theorem eAttr_ok (H : Snd g.X r) {e : PySem.Expr} {attr : Str} {pos : Pos} {sv : SV} (h : eAttr g.X r cs kd e attr st = some (sv, st')) (G : g.Ok) (O : FOk g cs kd f) (S : SR g f ρ st m news s.heap) : EG g f s ρ st' sv (eval (.Attribute e attr pos) f.env) := by
  walk_at "e"; obtain ⟨_, h1, h⟩ := bs h
  walk_at "e"; obtain ⟨⟨o, st₁⟩, h2, h⟩ := bs h
  walk_at "e"; obtain ⟨v, h3, h⟩ := bs h
  walk_at "e"; cases h
  walk_at "l"; refine Attribute_any_ (seq (H.E h2 rfl G O S) fun v ρ₁ m₁ news₁ h₁ tk₁ le S₁ rv => ?_) ?_
  · walk_at "l"; exact evAttr_ok h3 G O.toCOk (s := { s with heap := h₁, toks := tk₁ }) S₁ rv fun v rv => Aft.at le S₁ rv
  · have h1 := ck_t h1
    walk_at "e"; cases e with
    | Name => walk_at "l"; rfl
    | Attribute => walk_at "l"; rfl
    | Call a b c d => walk_at "e"; cases b with
      | nil => walk_at "e"; cases h1
      | cons => walk_at "l"; cases a <;> rfl
    | _ => walk_at "e"; cases h1
theorem eCallK (H : Snd g.X r) {func : PySem.Expr} {args : List PySem.Expr} {pos : Pos} {c : SV} {fst vs : List SV} {st₁ st₂ : SS} (h1 : eHead g.X r cs kd args.length pos func st = some (c, fst, st₁)) (h2 : args.all plainEl = true) (h3 : okHead g.X c args func = true)
    (h4 : evArgs r cs kd args st₁ = some (vs, st₂)) (G : g.Ok) (O : FOk g cs kd f) (S : SR g f ρ st m news s.heap) {Q : Value → Shared → Prop}
    (k : ∀ fv ρ₁ m₁ news₁ h₁ tk₁ us, Le ρ ρ₁ → SR g f ρ₁ st₂ m₁ news₁ h₁ → All2 (VR g.τ ρ₁) (fst ++ vs) us → VR g.τ ρ₁ c fv → WP g f (call fv us) Q { s with heap := h₁, toks := tk₁ }) :
    WP g f (eval (.Call func args [] pos) f.env) Q s := by
  walk_at "e"; cases func with
  | Attribute o name apos =>
    walk_at "e"; obtain ⟨_, h5, h1⟩ := bs h1
    walk_at "e"; obtain ⟨_, h8, h1⟩ := bs h1
    walk_at "e"; obtain ⟨⟨ov, st₃⟩, h6, h1⟩ := bs h1
    walk_at "e"; obtain ⟨⟨c', first⟩, h7, h1⟩ := bs h1
    walk_at "e"; cases h1
    have h9 := ck_t h8
    rw [Bool.and_eq_true] at h9
    walk_at "l"; refine MethodCall_ (pl := do return (← importBound o f.env).getD true) (seq (H.E h6 rfl G O S) fun v ρ₁ m₁ news₁ h₁ tk₁ le S₁ rv => ?_) ?_
    · walk_at "l"; refine seq (s := { s with heap := h₁, toks := tk₁ }) (evMeth_ok h7 G O.toCOk S₁ rv) fun q ρ₂ m₂ news₂ h₂ tk₂ le₂ S₂ rq => ?_
      walk_at "l"; exact callK (s := { s with heap := h₂, toks := tk₂ }) H G O S₂ h2 h3 (fun e => by cases e) h4 rq.1 rq.2 fun ρ₃ m₃ news₃ h₃ tk₃ us le₃ S₃ ra rc => k _ ρ₃ m₃ news₃ h₃ tk₃ us ((le.trans le₂).trans le₃) S₃ ra rc
    · walk_at "l"; exact meth_eq (not_both h5) h2 (by have := Nat.le_of_ble_eq_true h9.2; lia) (beq_iff_eq.mpr (Nat.eq_of_beq_eq_true h9.1))
  | Name x xp =>
    walk_at "e"; obtain ⟨v, hv, e⟩ := Option.map_eq_some_iff.mp h1
    walk_at "e"; cases e
    walk_at "l"; refine Call_ (evName_ok hv O S fun v rv => ?_) rfl
    walk_at "l"; exact callK H G O S h2 h3 (fun zz => rfl) h4 rv .nil fun ρ₃ m₃ news₃ h₃ tk₃ us le₃ S₃ ra rc => k _ ρ₃ m₃ news₃ h₃ tk₃ us le₃ S₃ ra rc
  | _ => walk_at "e"; cases h1
theorem eCall_ok (H : Snd g.X r) {func : PySem.Expr} {args : List PySem.Expr} {pos : Pos} {sv : SV} (h : eCall g.X r cs kd func args pos st = some (sv, st')) (G : g.Ok) (O : FOk g cs kd f) (S : SR g f ρ st m news s.heap) : EG g f s ρ st' sv (eval (.Call func args [] pos) f.env) := by
  walk_at "e"; obtain ⟨⟨c, fst, st₁⟩, h1, k1⟩ := bs h
  walk_at "e"; obtain ⟨_, h2, k2⟩ := bs k1
  walk_at "e"; obtain ⟨_, h3, k3⟩ := bs k2
  walk_at "e"; obtain ⟨⟨vs, st₂⟩, h4, k4⟩ := bs k3
  walk_at "l"; exact eCallK H h1 (ck_t h2) (ck_t h3) h4 G O S fun fv ρ₁ m₁ news₁ h₁ tk₁ us le S₁ ra rc =>
    wpAny_mono (H.C k4 rfl G O.toCOk (s := { s with heap := h₁, toks := tk₁ }) S₁ rc ra) (fun zz zz q => q.trans le) fun zz zz q => q
theorem eBin_ok (H : Snd g.X r) {l rr : PySem.Expr} {op : Operator} {pos : Pos} {sv : SV} (h : eBin g.X r cs kd l op rr st = some (sv, st')) (G : g.Ok) (O : FOk g cs kd f) (S : SR g f ρ st m news s.heap) : EG g f s ρ st' sv (eval (.BinOp l op rr pos) f.env) := by
  walk_at "e"; obtain ⟨⟨a, st₁⟩, h1, h⟩ := bs h
  walk_at "e"; obtain ⟨⟨b, st₂⟩, h2, h⟩ := bs h
  walk_at "l"; refine wpAny_BinOp (seq (H.E h1 rfl G O S) fun v ρ₁ m₁ news₁ h₁ tk₁ le S₁ rv => ?_)
  walk_at "l"; refine seq (s := { s with heap := h₁, toks := tk₁ }) (H.E h2 rfl G O S₁) fun u ρ₂ m₂ news₂ h₂ tk₂ le₂ S₂ ru => ?_
  walk_at "l"; exact wpAny_mono (evBin_ok (s := { s with heap := h₂, toks := tk₂ }) h G S₂ (rv.mono le₂) ru) (fun zz zz q => (q.trans le₂).trans le) fun zz zz q => q
theorem eUn_ok (H : Snd g.X r) {x : PySem.Expr} {op : UnaryOp} {pos : Pos} {sv : SV} (h : eUn r cs kd op x st = some (sv, st')) (G : g.Ok) (O : FOk g cs kd f) (S : SR g f ρ st m news s.heap) : EG g f s ρ st' sv (eval (.UnaryOp op x pos) f.env) := by
  walk_at "e"; obtain ⟨⟨a, st₁⟩, h1, h⟩ := bs h
  walk_at "l"; refine UnaryOp_ (seq (H.E h1 rfl G O S) fun v ρ₁ m₁ news₁ h₁ tk₁ le S₁ rv => ?_)
  walk_at "e"; cases op with
  | USub =>
    walk_at "e"; obtain ⟨k, h2, h3⟩ := bs h
    walk_at "e"; cases h3
    rw [asZ_ok h2] at rv
    walk_at "e"; obtain ⟨t, rfl⟩ := rv
    walk_at "l"; exact neg_int (Aft.at le S₁ ⟨_, rfl⟩)
  | Not =>
    walk_at "e"; obtain ⟨t, h2, h3⟩ := bs h
    walk_at "e"; cases h3
    rw [truth_t h2] at rv
    walk_at "e"; cases rv
    walk_at "l"; exact not_of (wpAny_truthy_bool (Aft.at le S₁ rfl))
  | _ => walk_at "e"; cases h
theorem and_t {a b : Bool} {u : Unit} (h : ck (a && b) = some u) : a = true ∧ b = true := Bool.and_eq_true _ _ ▸ ck_t h
theorem eCmp_ok (H : Snd g.X r) {l rr : PySem.Expr} {op : CmpOp} {pos : Pos} {sv : SV} (h : eCmp g.X r cs kd l op rr st = some (sv, st')) (G : g.Ok) (O : FOk g cs kd f) (S : SR g f ρ st m news s.heap) : EG g f s ρ st' sv (eval (.Compare l [op] [rr] pos) f.env) := by
  walk_at "e"; obtain ⟨_, h0, h⟩ := bs h
  have hq := and_t h0
  walk_at "e"; obtain ⟨⟨a, st₁⟩, h1, h⟩ := bs h
  walk_at "e"; obtain ⟨⟨b, st₂⟩, h2, h⟩ := bs h
  walk_at "e"; obtain ⟨c, h3, h⟩ := bs h
  walk_at "e"; cases h
  walk_at "l"; refine wpAny_Compare1 (seq (H.E h1 rfl G O S) fun v ρ₁ m₁ news₁ h₁ tk₁ le S₁ rv => ?_) (Bool.not_eq_true' _ ▸ hq.1)
  walk_at "l"; refine seq (s := { s with heap := h₁, toks := tk₁ }) (H.E h2 rfl G O S₁) fun u ρ₂ m₂ news₂ h₂ tk₂ le₂ S₂ ru => ?_
  walk_at "l"; exact wpAny_mono (evCmp_ok (s := { s with heap := h₂, toks := tk₂ }) h3 G O.toCOk hq.2 S₂ (rv.mono le₂) ru) (fun zz zz q => (q.trans le₂).trans le) fun zz zz q => q
theorem eBool_ok (H : Snd g.X r) {op : BoolOp} {es : List PySem.Expr} {pos : Pos} {sv : SV} (h : eBool r cs kd op es pos st = some (sv, st')) (G : g.Ok) (O : FOk g cs kd f) (S : SR g f ρ st m news s.heap) : EG g f s ρ st' sv (eval (.BoolOp op es pos) f.env) := by
  walk_at "e"; cases es with
  | nil => walk_at "e"; cases h
  | cons e es =>
    walk_at "e"; cases es with
    | nil => walk_at "l"; exact BoolOp_one (H.E h rfl G O S)
    | cons e₂ rest =>
      walk_at "e"; obtain ⟨⟨a, st₁⟩, h1, h⟩ := bs h
      walk_at "e"; obtain ⟨t, h2, h⟩ := bs h
      walk_at "e"; cases op <;> cases t
      · walk_at "e"; cases h
        walk_at "l"; refine BoolOp_and (seq (H.E h1 rfl G O S) fun v ρ₁ m₁ news₁ h₁ tk₁ le S₁ rv => ?_)
        walk_at "l"; exact truth_ok h2 rv (ite_neg (by decide) (Aft.at le S₁ rv))
      · walk_at "l"; refine BoolOp_and (seq (H.E h1 rfl G O S) fun v ρ₁ m₁ news₁ h₁ tk₁ le S₁ rv => ?_)
        walk_at "l"; exact truth_ok h2 rv (ite_pos rfl (wpAny_mono (H.E h rfl G O (s := { s with heap := h₁, toks := tk₁ }) S₁) (fun zz zz q => q.trans le) fun zz zz q => q))
      · walk_at "l"; refine BoolOp_or (seq (H.E h1 rfl G O S) fun v ρ₁ m₁ news₁ h₁ tk₁ le S₁ rv => ?_)
        walk_at "l"; exact truth_ok h2 rv (ite_neg (by decide) (wpAny_mono (H.E h rfl G O (s := { s with heap := h₁, toks := tk₁ }) S₁) (fun zz zz q => q.trans le) fun zz zz q => q))
      · walk_at "e"; cases h
        walk_at "l"; refine BoolOp_or (seq (H.E h1 rfl G O S) fun v ρ₁ m₁ news₁ h₁ tk₁ le S₁ rv => ?_)
        walk_at "l"; exact truth_ok h2 rv (ite_pos rfl (Aft.at le S₁ rv))
theorem eList_ok (H : Snd g.X r) {es : List PySem.Expr} {pos : Pos} {sv : SV} (h : eList r cs kd es st = some (sv, st')) (G : g.Ok) (O : FOk g cs kd f) (S : SR g f ρ st m news s.heap) : EG g f s ρ st' sv (eval (.List es pos) f.env) := by
  walk_at "e"; obtain ⟨_, h0, h⟩ := bs h
  walk_at "e"; obtain ⟨⟨vs, st₁⟩, h1, h⟩ := bs h
  walk_at "e"; obtain ⟨_, h2, h⟩ := bs h
  walk_at "e"; cases h
  walk_at "l"; refine List_ (seq (H.A h1 rfl G O S _) fun v ρ₁ m₁ news₁ h₁ tk₁ le S₁ rv => ?_)
  walk_at "l"; refine newList_K (s := { s with heap := h₁, toks := tk₁ }) S₁.F S₁.N ?_ (rv.length ▸ line_of (ck_t h2))
  walk_at "l"; intro D h' F' N' lt
  have le' : Le ρ₁ (ρ₁ ++ [D]) := .push _
  walk_at "l"; exact Aft.at (le.trans le') (S₁.push (so := .list vs 0) lt ⟨_, rfl, rv.imp fun zz zz q => q.mono le'⟩ F' N') ⟨D, S₁.nxt, rfl⟩
theorem isName_ok {e : PySem.Expr} {u : Unit} (h : ck (isName e) = some u) : ∃ x p, e = .Name x p := by
  have h := ck_t h
  walk_at "e"; cases e with
  | Name x p => walk_at "l"; exact ⟨x, p, rfl⟩
  | _ => walk_at "e"; cases h
theorem eSlice_ok (H : Snd g.X r) {v lo : PySem.Expr} {pos sp : Pos} {sv : SV} (h : eSlice g.X r cs kd v lo st = some (sv, st')) (G : g.Ok) (O : FOk g cs kd f) (S : SR g f ρ st m news s.heap) : EG g f s ρ st' sv (eval (.Subscript v (.Slice (some lo) none none sp) pos) f.env) := by
  walk_at "e"; obtain ⟨_, h0, h⟩ := bs h
  walk_at "e"; obtain ⟨⟨a, st₁⟩, h1, h⟩ := bs h
  walk_at "e"; obtain ⟨⟨b, st₂⟩, h2, h⟩ := bs h
  walk_at "e"; obtain ⟨k, h5, h⟩ := bs h
  walk_at "e"; obtain ⟨l, h6, h⟩ := bs h
  walk_at "e"; obtain ⟨⟨vs, n⟩, h3, h⟩ := bs h
  walk_at "e"; obtain ⟨_, h4, h⟩ := bs h
  walk_at "e"; cases h
  walk_at "e"; obtain ⟨x, xp, rfl⟩ := isName_ok h0
  walk_at "l"; refine Subscript_ (seq (H.E h1 rfl G O S) fun v ρ₁ m₁ news₁ h₁ tk₁ le S₁ rv => ?_)
  walk_at "l"; refine wpAny_Slice (evalPart_some_step (seq (s := { s with heap := h₁, toks := tk₁ }) (H.E h2 rfl G O S₁) fun u ρ₂ m₂ news₂ h₂ tk₂ le₂ S₂ ru => evalPart_none_step (evalPart_none_step ?_)))
  rw [asA_ok h6] at rv
  rw [asZ_ok h5] at ru
  walk_at "e"; obtain ⟨y, l', a1, a2, a3⟩ := listAt_ok S₂ h3
  walk_at "e"; obtain ⟨y', a4, rfl⟩ := rv.mono le₂
  rw [a1] at a4; walk_at "e"; cases a4
  walk_at "e"; obtain ⟨t, rfl⟩ := ru
  have hz := line_of (ck_t h4)
  walk_at "l"; refine kms_slice_lit (s := { s with heap := h₂, toks := tk₂ }) S₂.F S₂.N (S₂.N.isList a2) (IsPart.int _ _) IsPart.none rfl ?_ rfl (fun zz => rfl) (by rw [List.size_toArray, ← a3.length]; exact hz)
  walk_at "l"; intro D h' F' N' lt
  have le' : Le ρ₂ (ρ₂ ++ [D]) := .push _
  walk_at "l"; refine Aft.at ((le.trans le₂).trans le') (S₂.push (so := .list _ 0) lt ⟨_, rfl, ?_⟩ F' N') ⟨D, S₂.nxt, rfl⟩
  walk_at "l"; unfold kms_pick
  walk_at "l"; dsimp only
  walk_at "l"; rw [a3.length]
  walk_at "l"; exact ((a3.drop _).take _).imp fun zz zz q => q.mono le'
theorem eSub_ok (H : Snd g.X r) {v i : PySem.Expr} {pos : Pos} {sv : SV} (h : eSub g.X r cs kd v i st = some (sv, st')) (G : g.Ok) (O : FOk g cs kd f) (S : SR g f ρ st m news s.heap) : EG g f s ρ st' sv (eval (.Subscript v i pos) f.env) := by
  walk_at "e"; obtain ⟨_, h0, h⟩ := bs h
  walk_at "e"; obtain ⟨⟨a, st₁⟩, h1, h⟩ := bs h
  walk_at "e"; obtain ⟨⟨b, st₂⟩, h2, h⟩ := bs h
  walk_at "e"; obtain ⟨c, h3, h⟩ := bs h
  walk_at "e"; cases h
  walk_at "l"; refine Subscript_ (seq (H.E h1 rfl G O S) fun v ρ₁ m₁ news₁ h₁ tk₁ le S₁ rv => ?_)
  walk_at "l"; refine seq (s := { s with heap := h₁, toks := tk₁ }) (H.E h2 rfl G O S₁) fun u ρ₂ m₂ news₂ h₂ tk₂ le₂ S₂ ru => ?_
  have h3 : (match evSub g.X st' a b with | some x => some x | none => subKey g.X st' a b) = some sv := h3
  walk_at "l"; cases h4 : evSub g.X st' a b with
  | some =>
    rw [h4] at h3
    walk_at "e"; cases h3
    walk_at "l"; exact evSub_ok (s := { s with heap := h₂, toks := tk₂ }) h4 G O.toCOk S₂ (ck_t h0) (rv.mono le₂) ru fun v rv => Aft.at (le.trans le₂) S₂ rv
  | none =>
    rw [h4] at h3
    walk_at "l"; exact wpAny_mono (subKey_ok (s := { s with heap := h₂, toks := tk₂ }) h3 G S₂ (ck_t h0) (rv.mono le₂) ru) (fun zz zz q => (q.trans le₂).trans le) fun zz zz q => q
theorem sliceOf_ok {i lo : PySem.Expr} (h : sliceOf i = some lo) : ∃ p, i = .Slice (some lo) none none p := by
  walk_at "e"; cases i with
  | Slice a b c p => walk_at "e"; cases b with
    | some => walk_at "e"; cases h
    | none => walk_at "e"; cases c with
      | some => walk_at "e"; cases h
      | none => walk_at "e"; cases h; walk_at "l"; exact ⟨_, rfl⟩
  | _ => walk_at "e"; cases h
theorem E_step (H : Snd g.X r) {e : PySem.Expr} {sv : SV} (h : stepE g.X r cs kd e st = some (sv, st')) (G : g.Ok) (O : FOk g cs kd f) (S : SR g f ρ st m news s.heap) : EG g f s ρ st' sv (eval e f.env) := by
  walk_at "e"; cases e with
  | Constant c k pos => walk_at "l"; exact eConst_ok h S
  | Name x pos =>
    walk_at "e"; obtain ⟨v, hv, e⟩ := Option.map_eq_some_iff.mp h
    walk_at "e"; cases e
    walk_at "l"; exact evName_ok hv O S fun v r => Aft.now S r
  | Attribute e attr pos => walk_at "l"; exact eAttr_ok H h G O S
  | Call func args kws pos => walk_at "e"; cases kws with
    | nil => walk_at "l"; exact eCall_ok H h G O S
    | cons => walk_at "e"; cases h
  | BinOp l op rr pos => walk_at "l"; exact eBin_ok H h G O S
  | UnaryOp op x pos => walk_at "l"; exact eUn_ok H h G O S
  | Compare l ops rs pos => walk_at "e"; cases ops with
    | nil => walk_at "e"; cases h
    | cons op ops => walk_at "e"; cases ops with
      | cons => walk_at "e"; cases h
      | nil => walk_at "e"; cases rs with
        | nil => walk_at "e"; cases h
        | cons rr rs => walk_at "e"; cases rs with
          | cons => walk_at "e"; cases h
          | nil => walk_at "l"; exact eCmp_ok H h G O S
  | BoolOp op es pos => walk_at "l"; exact eBool_ok H h G O S
  | IfExp t b o pos =>
    walk_at "e"; obtain ⟨⟨c, st₁⟩, h1, h⟩ := bs h
    walk_at "l"; refine IfExp_ (seq (H.T h1 rfl G O S rfl) fun v ρ₁ m₁ news₁ h₁ tk₁ le S₁ rv => ?_)
    walk_at "e"; subst rv
    walk_at "e"; cases v with
    | true => walk_at "l"; exact ite_pos rfl (wpAny_mono (H.E h rfl G O (s := { s with heap := h₁, toks := tk₁ }) S₁) (fun zz zz q => q.trans le) fun zz zz q => q)
    | false => walk_at "l"; exact ite_neg (by decide) (wpAny_mono (H.E h rfl G O (s := { s with heap := h₁, toks := tk₁ }) S₁) (fun zz zz q => q.trans le) fun zz zz q => q)
  | List es pos => walk_at "l"; exact eList_ok H h G O S
  | Dict ks vs pos => walk_at "e"; cases ks with
    | cons => walk_at "e"; cases h
    | nil => walk_at "e"; cases vs with
      | cons => walk_at "e"; cases h
      | nil =>
        walk_at "e"; cases h
        walk_at "l"; refine newDict_K S.F S.N O.T.nolimit ?_
        walk_at "l"; intro D h' o F' N' lt _ _ _ hi _
        have le' : Le ρ (ρ ++ [D]) := .push _
        walk_at "l"; exact Aft.at le' (S.push (so := .idict []) lt ⟨_, hi, .nil⟩ F' N') ⟨D, S.nxt, rfl⟩
  | Subscript v i pos =>
    have h : (match sliceOf i with | some lo => eSlice g.X r cs kd v lo st | none => eSub g.X r cs kd v i st) = some (sv, st') := h
    walk_at "l"; cases hs : sliceOf i with
    | some lo =>
      rw [hs] at h
      walk_at "e"; obtain ⟨p, rfl⟩ := sliceOf_ok hs
      walk_at "l"; exact eSlice_ok H h G O S
    | none =>
      rw [hs] at h
      walk_at "l"; exact eSub_ok H h G O S
  | _ => walk_at "e"; cases h
end
end NT
end
section
open PySem PySem.W PySem.Calls PyProof.Rows
namespace NT
section
variable {g : Gx} {f : Fx} {ρ : List Addr} {st st' : SS} {m : Str → Option Value} {news : Ld} {s : Shared} {r : Rec} {cs : Scope} {kd : Nat}
theorem tCmp_ok (H : Snd g.X r) {l rr : PySem.Expr} {op : CmpOp} {pos : Pos} {b : Bool} (h : tCmp g.X r cs kd l op rr st = some (b, st')) (G : g.Ok) (O : FOk g cs kd f) (S : SR g f ρ st m news s.heap) {whole : Sem Value} : TG g f s ρ st' b (PySem.isTrue (.Compare l [op] [rr] pos) f.env whole) := by
  walk_at "e"; obtain ⟨_, h0, h⟩ := bs h
  have hq := and_t h0
  walk_at "e"; obtain ⟨⟨a, st₁⟩, h1, h⟩ := bs h
  walk_at "e"; obtain ⟨⟨b, st₂⟩, h2, h⟩ := bs h
  walk_at "e"; obtain ⟨c, h3, h⟩ := bs h
  walk_at "e"; obtain ⟨t, h4, h⟩ := bs h
  walk_at "e"; cases h
  walk_at "l"; refine wpAny_isTrue_Compare1 (seq (H.E h1 rfl G O S) fun v ρ₁ m₁ news₁ h₁ tk₁ le S₁ rv => ?_) (Bool.not_eq_true' _ ▸ hq.1)
  walk_at "l"; refine seq (s := { s with heap := h₁, toks := tk₁ }) (H.E h2 rfl G O S₁) fun u ρ₂ m₂ news₂ h₂ tk₂ le₂ S₂ ru => ?_
  walk_at "l"; exact seq (s := { s with heap := h₂, toks := tk₂ }) (evCmp_ok h3 G O.toCOk hq.2 S₂ (rv.mono le₂) ru) fun z ρ₃ m₃ news₃ h₃ tk₃ le₃ S₃ rz => truth_ok h4 rz (Aft.at ((le.trans le₂).trans le₃) S₃ rfl)
theorem tChain_ok (H : Snd g.X r) {l r1 r2 : PySem.Expr} {o1 o2 : CmpOp} {pos : Pos} {b : Bool} (h : tChain g.X r cs kd l o1 o2 r1 r2 st = some (b, st')) (G : g.Ok) (O : FOk g cs kd f) (S : SR g f ρ st m news s.heap) {whole : Sem Value} : TG g f s ρ st' b (PySem.isTrue (.Compare l [o1, o2] [r1, r2] pos) f.env whole) := by
  walk_at "e"; obtain ⟨_, h0, h⟩ := bs h
  have hq := and_t h0
  have hq2 := Bool.and_eq_true _ _ ▸ hq.2
  walk_at "e"; obtain ⟨⟨a, st₁⟩, h1, h⟩ := bs h
  walk_at "e"; obtain ⟨⟨b, st₂⟩, h2, h⟩ := bs h
  walk_at "e"; obtain ⟨c, h3, h⟩ := bs h
  walk_at "e"; obtain ⟨t, h4, h⟩ := bs h
  walk_at "l"; refine isTrue_chain (seq (H.E h1 rfl G O S) fun v ρ₁ m₁ news₁ h₁ tk₁ le S₁ rv => test_link ?_) (Bool.not_eq_true' _ ▸ hq.1)
  walk_at "l"; refine seq (s := { s with heap := h₁, toks := tk₁ }) (H.E h2 rfl G O S₁) fun u ρ₂ m₂ news₂ h₂ tk₂ le₂ S₂ ru => ?_
  walk_at "l"; refine seq (s := { s with heap := h₂, toks := tk₂ }) (evCmp_ok h3 G O.toCOk hq2.1 S₂ (rv.mono le₂) ru) fun z ρ₃ m₃ news₃ h₃ tk₃ le₃ S₃ rz => ?_
  walk_at "l"; refine truth_ok h4 rz ?_
  walk_at "e"; cases t with
  | false =>
    walk_at "e"; cases h
    walk_at "l"; exact ite_neg (by decide) (Aft.at ((le.trans le₂).trans le₃) S₃ rfl)
  | true =>
    walk_at "e"; obtain ⟨⟨d, st₃⟩, h5, h⟩ := bs h
    walk_at "e"; obtain ⟨c2, h6, h⟩ := bs h
    walk_at "e"; obtain ⟨t2, h7, h⟩ := bs h
    walk_at "e"; cases h
    walk_at "l"; refine ite_pos rfl (test_last (seq (s := { s with heap := h₃, toks := tk₃ }) (H.E h5 rfl G O S₃) fun u2 ρ₄ m₄ news₄ h₄ tk₄ le₄ S₄ ru2 => ?_))
    walk_at "l"; exact seq (s := { s with heap := h₄, toks := tk₄ }) (evCmp_ok h6 G O.toCOk hq2.2 S₄ ((ru.mono le₃).mono le₄) ru2) fun z2 ρ₅ m₅ news₅ h₅ tk₅ le₅ S₅ rz2 => truth_ok h7 rz2 (Aft.at (((le.trans le₂).trans le₃).trans (le₄.trans le₅)) S₅ rfl)
theorem tBool_ok (H : Snd g.X r) {op : BoolOp} {es : List PySem.Expr} {pos : Pos} {b : Bool} (h : tBool r cs kd op es pos st = some (b, st')) (G : g.Ok) (O : FOk g cs kd f) (S : SR g f ρ st m news s.heap) {whole : Sem Value} : TG g f s ρ st' b (PySem.isTrue (.BoolOp op es pos) f.env whole) := by
  have onE : ∀ {op rest ρ₁ m₁ news₁ h₁ tk₁ st₁}, Le ρ ρ₁ → SR g f ρ₁ st₁ m₁ news₁ h₁ → r.T cs kd (.BoolOp op rest pos) st₁ = some (b, st') → WP g f (PySem.isTrue (.BoolOp op rest pos) f.env whole) (fun c s' => Aft g f s ρ st' (fun zz => c = b) s') { s with heap := h₁, toks := tk₁ } :=
    fun {op rest ρ₁ m₁ news₁ h₁ tk₁ st₁} le S₁ h => wpAny_mono (show WP g f (PySem.isTrue (.BoolOp op rest pos) f.env whole) _ _ from H.T h rfl G O (s := { s with heap := h₁, toks := tk₁ }) S₁ (whole := eval (.BoolOp op rest pos) f.env) rfl) (fun zz zz q => q.trans le) fun zz zz q => q
  walk_at "e"; cases es with
  | nil => walk_at "e"; cases op with
    | Or => walk_at "e"; cases h; walk_at "l"; exact isTrue_or_nil (Aft.now S rfl)
    | And => walk_at "e"; cases h; walk_at "l"; exact isTrue_and_nil (Aft.now S rfl)
  | cons x rest =>
    walk_at "e"; obtain ⟨⟨c, st₁⟩, h1, h⟩ := bs h
    walk_at "e"; cases op with
    | Or =>
      walk_at "l"; refine isTrue_or (seq (H.T h1 rfl G O S rfl) fun v ρ₁ m₁ news₁ h₁ tk₁ le S₁ rv => ?_)
      walk_at "e"; subst rv
      walk_at "e"; cases v with
      | true => walk_at "e"; cases h; walk_at "l"; exact ite_pos rfl (Aft.at le S₁ rfl)
      | false => walk_at "l"; exact ite_neg (by decide) (onE le S₁ h)
    | And =>
      walk_at "l"; refine isTrue_and (seq (H.T h1 rfl G O S rfl) fun v ρ₁ m₁ news₁ h₁ tk₁ le S₁ rv => ?_)
      walk_at "e"; subst rv
      walk_at "e"; cases v with
      | true => walk_at "l"; exact ite_pos rfl (onE le S₁ h)
      | false => walk_at "e"; cases h; walk_at "l"; exact ite_neg (by decide) (Aft.at le S₁ rfl)
theorem tPlain_ok (H : Snd g.X r) {e : PySem.Expr} {b : Bool} (h : tPlain r cs kd e st = some (b, st')) (G : g.Ok) (O : FOk g cs kd f) (S : SR g f ρ st m news s.heap) (he : PySem.isTrue e f.env (eval e f.env) = (do let v ← eval e f.env; standAt e.pos; holding [v] (truthy v))) : TG g f s ρ st' b (PySem.isTrue e f.env (eval e f.env)) := by
  walk_at "e"; obtain ⟨⟨a, st₁⟩, h1, h⟩ := bs h
  walk_at "e"; obtain ⟨t, h2, h⟩ := bs h
  walk_at "e"; cases h
  walk_at "l"; exact isTrue_plain (seq (H.E h1 rfl G O S) fun v ρ₁ m₁ news₁ h₁ tk₁ le S₁ rv => truth_ok h2 rv (Aft.at le S₁ rfl)) he
theorem T_step (H : Snd g.X r) {e : PySem.Expr} {b : Bool} (h : stepT g.X r cs kd e st = some (b, st')) (G : g.Ok) (O : FOk g cs kd f) (S : SR g f ρ st m news s.heap) {whole : Sem Value} (hw : whole = eval e f.env) : TG g f s ρ st' b (PySem.isTrue e f.env whole) := by
  walk_at "e"; cases e with
  | UnaryOp op x pos => walk_at "e"; cases op with
    | Not =>
      walk_at "e"; obtain ⟨⟨c, st₁⟩, h1, h⟩ := bs h
      walk_at "e"; cases h
      walk_at "l"; refine isTrue_not (seq (H.T h1 rfl G O S rfl) fun v ρ₁ m₁ news₁ h₁ tk₁ le S₁ rv => ?_)
      walk_at "e"; subst rv
      walk_at "l"; exact Aft.at le S₁ rfl
    | _ => walk_at "e"; cases h
  | BoolOp op es pos => walk_at "l"; exact tBool_ok H h G O S
  | Compare l ops rs pos =>
    walk_at "e"; cases ops with
    | nil => walk_at "e"; cases h
    | cons op ops => walk_at "e"; cases rs with
      | nil => walk_at "e"; cases h
      | cons rr rs => walk_at "e"; cases ops with
        | nil => walk_at "e"; cases rs with
          | nil => walk_at "l"; exact tCmp_ok H h G O S
          | cons => walk_at "e"; cases h
        | cons o2 ops => walk_at "e"; cases ops with
          | cons => walk_at "e"; cases h
          | nil => walk_at "e"; cases rs with
            | nil => walk_at "e"; cases h
            | cons r2 rs => walk_at "e"; cases rs with
              | cons => walk_at "e"; cases h
              | nil => walk_at "l"; exact tChain_ok H h G O S
  | Name x p => walk_at "e"; subst hw; walk_at "l"; exact tPlain_ok H h G O S rfl
  | Attribute v a p => walk_at "e"; subst hw; walk_at "l"; exact tPlain_ok H h G O S rfl
  | Call fn a k p => walk_at "e"; subst hw; walk_at "l"; exact tPlain_ok H h G O S rfl
  | _ => walk_at "e"; cases h
theorem A_step (H : Snd g.X r) {es : List PySem.Expr} {l : List SV} (h : stepA r cs kd es st = some (l, st')) (G : g.Ok) (O : FOk g cs kd f) (S : SR g f ρ st m news s.heap) (pos : Pos) :
    WP g f (spliced (backTo pos (starEach es f.env))) (fun vs s' => Aft g f s ρ st' (fun ρ' => All2 (VR g.τ ρ') l vs) s') s := by
  walk_at "e"; cases es with
  | nil =>
    walk_at "e"; cases h
    walk_at "l"; exact args_nil (Aft.now S .nil)
  | cons =>
    walk_at "e"; obtain ⟨_, h0, h⟩ := bs h
    walk_at "e"; obtain ⟨⟨a, st₁⟩, h1, h⟩ := bs h
    walk_at "e"; obtain ⟨⟨b, st₂⟩, h2, h⟩ := bs h
    walk_at "e"; cases h
    walk_at "l"; refine args_cons (seq (H.E h1 rfl G O S) fun v ρ₁ m₁ news₁ h₁ tk₁ le S₁ rv => ?_) (plain_star (ck_t h0))
    walk_at "l"; refine seq (s := { s with heap := h₁, toks := tk₁ }) (H.A h2 rfl G O S₁ pos) fun u ρ₂ m₂ news₂ h₂ tk₂ le₂ S₂ ru => ?_
    walk_at "l"; exact Aft.at (le.trans le₂) S₂ (.cons (rv.mono le₂) ru)
theorem B_step (H : Snd g.X r) {es : List Stmt} {l : SF} (h : stepB r cs kd es st = some (l, st')) (G : g.Ok) (O : FOk g cs kd f) (S : SR g f ρ st m news s.heap) :
    SG g f s ρ st' l (execs es f.env) := by
  walk_at "e"; cases es with
  | nil =>
    walk_at "e"; cases h
    walk_at "l"; exact wpAny_execs_nil (Aft.now S rfl)
  | cons =>
    walk_at "e"; obtain ⟨⟨a, st₁⟩, h1, h⟩ := bs h
    dsimp only at h
    walk_at "l"; refine wpAny_execs_cons (seq (H.S h1 rfl G O S) fun v ρ₁ m₁ news₁ h₁ tk₁ le S₁ rv => ?_)
    walk_at "e"; cases a with
    | next =>
      walk_at "e"; cases rv
      walk_at "l"; exact wpAny_mono (H.B h rfl G O (s := { s with heap := h₁, toks := tk₁ }) S₁) (fun zz zz q => q.trans le) fun zz zz q => q
    | ret =>
      walk_at "e"; cases h
      walk_at "e"; obtain ⟨v', rfl, rv⟩ := rv
      walk_at "l"; exact Aft.at le S₁ ⟨v', rfl, rv⟩
theorem swaps_no {e : PySem.Expr} {t : Option PySem.Expr} {n : Nat} {env : Env} (h : notComp e = true) : swapsWith e t n env = pure false := by
  walk_at "l"; cases e <;> first | rfl | cases h
theorem isLocal_ok {x : Str} (h : isLocal cs x = true) : cs.names.lookup x = some .local := by
  unfold isLocal at h
  walk_at "l"; cases q : cs.names.lookup x with
  | none => rw [q] at h; cases h
  | some k => rw [q] at h; walk_at "l"; cases k <;> first | rfl | cases h
theorem storeW (O : FOk g cs kd f) (S : SR g f ρ st m news s.heap) {x : Str} {v : Value} {sv : SV} (hl : isLocal cs x = true) (rv : VR g.τ ρ sv v) : UG g f s ρ { st with loc := (x, sv) :: st.loc } (storeName f.env x v) := by
  walk_at "e"; obtain ⟨cn, a, ccd, cl, he, _⟩ := O.envo
  have hk := O.hke
  walk_at "l"; unfold UG WP
  walk_at "l"; rw [he] at hk ⊢
  walk_at "l"; exact storeX_L (cl := cl) S.F S.N (fun h' F' N' => Aft.at (.refl _) (S.store rv F' N') trivial) hk (isLocal_ok hl)
theorem stored_new {kvs : List (Int × Value)} {k : Int} {v : Value} (h : ∀ q ∈ kvs, q.1 ≠ k) : stored kvs k v = kvs ++ [(k, v)] := by
  walk_at "l"; unfold stored
  walk_at "l"; rw [if_neg]
  walk_at "l"; simp only [List.any_eq_true, decide_eq_true_eq, not_exists, not_and]
  walk_at "l"; exact fun q hq => h q hq
theorem updF_of {d : Addr} {o : Obj} {l l' : Ld} {o' : Obj} (u : Upd d o o' l l') : ∃ gg, UpdF d o l gg := by
  walk_at "l"; induction u with
  | head a => walk_at "l"; exact ⟨_, .head a⟩
  | tail a _ ih => walk_at "e"; obtain ⟨gg, h⟩ := ih; walk_at "l"; exact ⟨_, .tail a h⟩
theorem upd_fun {d : Addr} {o : Obj} {l l' : Ld} {o' : Obj} {gg : Obj → Ld} (u : Upd d o o' l l') (v : UpdF d o l gg) : gg o' = l' := by
  walk_at "l"; induction u generalizing gg with
  | head a => walk_at "e"; cases v with
    | head => walk_at "l"; rfl
    | tail b _ => walk_at "l"; exact absurd rfl b
  | tail a _ ih => walk_at "e"; cases v with
    | head => walk_at "l"; exact absurd rfl a
    | tail b w => walk_at "l"; exact congrArg _ (ih w)
theorem UpdF.appendR {d : Addr} {o : Obj} {l R : Ld} {gg : Obj → Ld} (u : UpdF d o l gg) (h : ∀ p ∈ R, p.1 ≠ d) : ∃ gg', UpdF d o (l ++ R) gg' := by
  walk_at "l"; induction u with
  | head a => walk_at "l"; exact ⟨_, .head fun p hp => (List.mem_append.mp hp).elim (a p) (h p)⟩
  | tail a _ ih => walk_at "e"; obtain ⟨gg', q⟩ := ih; walk_at "l"; exact ⟨_, .tail a q⟩
theorem updF_mem {x : Addr} {ob : Obj} {nw : Ld} (h : (x, ob) ∈ nw) (hd : nw.Pairwise (fun p q => q.1 ≠ p.1)) : ∃ gg, UpdF x ob nw gg := by
  walk_at "l"; induction nw with
  | nil => walk_at "l"; nomatch h
  | cons p nw ih =>
    have hd' := List.pairwise_cons.mp hd
    walk_at "e"; rcases List.mem_cons.mp h with e | hm
    · walk_at "l"; rw [← e] at hd' ⊢; exact ⟨_, .head hd'.1⟩
    · walk_at "e"; obtain ⟨gg, q⟩ := ih hm hd'.2
      walk_at "l"; exact ⟨_, .tail (fun e => hd'.1 _ hm e.symm) q⟩
theorem setItemG (G : g.Ok) (O : FOk g cs kd f) (S : SR g f ρ st m news s.heap) {d k : Nat} {j : Int} {so so' : SO} {v dv iv : Value} {sv : SV} {led' : List (Nat × SO)} (h1 : st.led.lookup d = some so) (h4 : setLed d so' st.led = some led') (rd : VR g.τ ρ (.a d) dv) (ri : VR g.τ ρ (.int k j) iv)
    (hin : ∀ ob, OR g.w g.τ ρ so ob → ∃ rk, ob.IsDictOf (intKind PW g.w) rk ∧ rk.length ≤ sizeLine ∧ ∀ o', o'.IsDictOf (intKind PW g.w) (stored rk (g.τ.iv k j) v) → OR g.w g.τ ρ so' o') :
    UG g f s ρ { st with led := led' } (setItem dv iv v) := by
  walk_at "e"; obtain ⟨so₀, x, ob, b1, b2, b3, b4, b5⟩ := setLed_ok h4 S.led S.nd
  rw [h1] at b1; walk_at "e"; cases b1
  walk_at "e"; obtain ⟨x', b6, rfl⟩ := rd
  rw [b2] at b6; walk_at "e"; cases b6
  walk_at "e"; obtain ⟨t, rfl⟩ := ri
  walk_at "e"; obtain ⟨rk, hrk, hlen, hout⟩ := hin ob b4
  walk_at "e"; obtain ⟨g0, u0⟩ := updF_mem b3 S.nd
  have off : ∀ q ∈ g.R0, q.1 ≠ x := fun q hq => S.off _ b3 q hq
  walk_at "e"; obtain ⟨gg, u⟩ := UpdF.appendR u0 off
  walk_at "l"; refine kda_set S.F S.N u hrk (intKind_is PW g.w _ _) hlen ?_
  walk_at "l"; intro h' o' F' N' hd'
  walk_at "e"; obtain ⟨news', u', R, z⟩ := b5 o' (hout o' hd')
  have e := upd_fun (Upd.appendR u' off) u
  rw [e] at N'
  walk_at "l"; exact Aft.at (.refl _) (S.upd z R F' N') trivial
theorem setItemW (G : g.Ok) (O : FOk g cs kd f) (S : SR g f ρ st m news s.heap) {d k : Nat} {j : Int} {kvs : List ((Nat × Int) × SV)} {v dv iv : Value} {sv : SV} {led' : List (Nat × SO)} (h1 : st.led.lookup d = some (.idict kvs)) (h2 : keyIn g.X.fc (k, j) kvs = some none)
    (h3 : Nat.ble kvs.length 1000 = true) (h4 : setLed d (.idict (kvs ++ [((k, j), sv)])) st.led = some led') (rd : VR g.τ ρ (.a d) dv) (ri : VR g.τ ρ (.int k j) iv) (rv : VR g.τ ρ sv v) :
    UG g f s ρ { st with led := led' } (setItem dv iv v) := by
  walk_at "l"; refine setItemG (sv := sv) G O S h1 h4 rd ri ?_
  walk_at "l"; rintro ob ⟨rk, hrk, b7⟩
  walk_at "l"; refine ⟨rk, hrk, by rw [← b7.length]; exact line_of h3, fun o' hd' => ⟨_, hd', ?_⟩⟩
  walk_at "l"; rw [stored_new (keyIn_some (g := g) (ρ := ρ) (fun e => cmpInt_ok G e) b7 h2)]
  walk_at "l"; exact b7.append (.cons ⟨rfl, rv⟩ .nil)
theorem setItemX (G : g.Ok) (O : FOk g cs kd f) (S : SR g f ρ st m news s.heap) {d k i : Nat} {j : Int} {v dv iv : Value} {sv : SV} {led' : List (Nat × SO)} (h1 : st.led.lookup d = some (.xdict i))
    (h4 : setLed d (.xset i (k, j) sv) st.led = some led') (rd : VR g.τ ρ (.a d) dv) (ri : VR g.τ ρ (.int k j) iv) (rv : VR g.τ ρ sv v) :
    UG g f s ρ { st with led := led' } (setItem dv iv v) := by
  walk_at "l"; refine setItemG (sv := sv) G O S h1 h4 rd ri ?_
  walk_at "l"; rintro ob ⟨hrk, hl⟩
  walk_at "l"; exact ⟨_, hrk, by rw [sizeLine_eq]; lia, fun o' hd' => ⟨v, hd', rv⟩⟩
end
end NT
end
section
open PySem PySem.W PySem.Calls PyProof.Rows
namespace NT
theorem not_gt_of_eq {a b : Nat} (h : a = b) {c : Bool} : ¬ ((decide (b > a) && c) = true) := by
  walk_at "e"; subst h
  walk_at "l"; simp
theorem not_not {b : Bool} (h : b = true) : ¬ ((!b) = true) := by subst h; decide
theorem bind_plain {name qual : Str} {as : List PySem.Arg} {kwd : List (Option PySem.Expr)} {d : List PySem.Expr} {vs : List Value} {body : List Stmt} {scope : Scope} {kV doc pm cdv ct : Value} {an : Option Addr} (hl : (as.map (·.arg)).length = vs.length)
    (hm : ((as.map (·.arg)).filter fun n => (((as.map (·.arg)).zip vs).lookup n).isNone).isEmpty = true) :
    bindArgs (fnOf name qual ⟨[], as, none, [], kwd, none, d⟩ body scope .none kV doc pm an cdv ct) ⟨vs, []⟩ = pure ((as.map (·.arg)).filterMap fun n => (((as.map (·.arg)).zip vs).lookup n).map (n, ·)) := by
  walk_at "l"; refine (if_neg (not_gt_of_eq hl)).trans ?_
  walk_at "l"; refine (if_neg (?_ : ¬ ((!List.isEmpty _) = true))).trans ?_
  · walk_at "l"; refine not_not ?_
    walk_at "l"; simp only [List.map_nil, List.nil_append, Option.getD_none, List.drop_nil, List.length_nil, Nat.sub_zero, List.take_length]
    walk_at "l"; exact hm
  walk_at "l"; simp only [List.map_nil, List.nil_append, Option.getD_none, List.drop_nil, List.length_nil, Nat.sub_zero, List.zip_nil_right, List.append_nil]
  walk_at "l"; rfl
inductive Both {α β : Type} (R : α → β → Prop) : Option α → Option β → Prop
  | none : Both R none none
  | some {a b} : R a b → Both R (some a) (some b)
theorem zip_look {τ : Vt} {ρ : List Addr} {n : Str} {names : List Str} : ∀ {args : List SV} {vs : List Value}, All2 (VR τ ρ) args vs → Both (VR τ ρ) ((names.zip args).lookup n) ((names.zip vs).lookup n) := by
  induction names with
  | nil => intro args vs h; exact .none
  | cons k names ih =>
    intro args vs h
    cases h with
    | nil => exact .none
    | cons h hs =>
      rw [List.zip_cons_cons, List.zip_cons_cons, List.lookup_cons, List.lookup_cons]
      cases n == k with
      | true => exact .some h
      | false => exact ih hs
theorem bare_ok {p : PySem.Arguments} (h : bareA p = true) : ∃ as kd d, p = ⟨[], as, none, [], kd, none, d⟩ := by
  walk_at "e"; obtain ⟨po, as, va, ko, kd, kw, d⟩ := p
  have h : (po.isEmpty && va.isNone && ko.isEmpty && kw.isNone) = true := h
  simp only [Bool.and_eq_true, List.isEmpty_iff, Option.isNone_iff_eq_none] at h
  walk_at "e"; obtain ⟨⟨⟨rfl, rfl⟩, rfl⟩, rfl⟩ := h
  walk_at "l"; exact ⟨as, kd, d, rfl⟩
theorem noneV_ok {v : Value} (h : noneV v = true) : v = .none := by
  walk_at "l"; cases v <;> first | rfl | cases h
theorem bindS_ok {τ : Vt} {ρ : List Addr} {p : PySem.Arguments} {dV : Value} {args : List SV} {vs : List Value} {binds : List (Str × SV)} (e : bindS p dV args = some binds) (ra : All2 (VR τ ρ) args vs) :
    ∃ vb, (∀ (name qual : Str) (body : List Stmt) (scope : Scope) (kV doc pm cdv ct : Value) (an : Option Addr), bindArgs (fnOf name qual p body scope dV kV doc pm an cdv ct) ⟨vs, []⟩ = pure vb) ∧ All2 (fun q r => q.1 = r.1 ∧ VR τ ρ q.2 r.2) binds vb := by
  walk_at "e"; obtain ⟨_, h0, e⟩ := bs e
  walk_at "e"; obtain ⟨_, h3, e⟩ := bs e
  walk_at "e"; obtain ⟨_, h1, e⟩ := bs e
  walk_at "e"; obtain ⟨_, h2, e⟩ := bs e
  walk_at "e"; cases e
  walk_at "e"; obtain ⟨as, kwd, d, rfl⟩ := bare_ok (ck_t h0)
  walk_at "e"; cases noneV_ok (ck_t h3)
  have hl := Nat.eq_of_beq_eq_true (ck_t h1)
  walk_at "l"; dsimp only at hl h2 ⊢
  walk_at "l"; refine ⟨_, fun zz zz zz zz zz zz zz zz zz zz => bind_plain (by rw [List.length_map, hl, ra.length]) ?_, ?_⟩
  · have := ck_t h2
    walk_at "l"; rw [List.isEmpty_iff, List.filter_eq_nil_iff] at this ⊢
    walk_at "l"; intro n hn
    have h3 := this n hn
    have z := zip_look (n := n) (names := as.map (·.arg)) ra
    revert z h3
    walk_at "l"; generalize ((as.map (·.arg)).zip args).lookup n = x
    walk_at "l"; generalize ((as.map (·.arg)).zip vs).lookup n = y
    walk_at "l"; intro h3 z
    walk_at "e"; cases z with
    | none => walk_at "l"; exact h3
    | some => walk_at "l"; exact Bool.false_ne_true
  · walk_at "l"; generalize as.map (·.arg) = names
    have gen : ∀ l : List Str, All2 (fun (q : Str × SV) (r : Str × Value) => q.1 = r.1 ∧ VR τ ρ q.2 r.2) (l.filterMap fun n => ((names.zip args).lookup n).map (n, ·)) (l.filterMap fun n => ((names.zip vs).lookup n).map (n, ·)) := by
      walk_at "l"; intro l
      walk_at "l"; induction l with
      | nil => walk_at "l"; exact .nil
      | cons n l ih =>
        have z := zip_look (n := n) (names := names) ra
        walk_at "l"; rw [List.filterMap_cons, List.filterMap_cons]
        revert z
        walk_at "l"; generalize (names.zip args).lookup n = x
        walk_at "l"; generalize (names.zip vs).lookup n = y
        walk_at "l"; intro z
        walk_at "e"; cases z with
        | none => walk_at "l"; exact ih
        | some z => walk_at "l"; exact .cons ⟨rfl, z⟩ ih
    walk_at "l"; exact gen names
theorem lookR {τ : Vt} {ρ : List Addr} {x : Str} {sv : SV} {b : List (Str × SV)} {vb : List (Str × Value)} (H : All2 (fun q r => q.1 = r.1 ∧ VR τ ρ q.2 r.2) b vb) (e : b.lookup x = some sv) : ∃ v, vb.lookup x = some v ∧ VR τ ρ sv v := by
  walk_at "l"; induction H with
  | nil => walk_at "e"; cases e
  | @cons p q _ _ h hs ih =>
    walk_at "e"; obtain ⟨k, s⟩ := p
    walk_at "e"; obtain ⟨j, v⟩ := q
    walk_at "e"; obtain ⟨rfl, r⟩ := h
    walk_at "l"; rw [List.lookup_cons] at e ⊢
    walk_at "l"; cases q : (x == k) with
    | true => rw [q] at e; cases e; exact ⟨v, rfl, r⟩
    | false => rw [q] at e; exact ih e
section
variable {g : Gx} {f : Fx} {ρ : List Addr} {st st' : SS} {m : Str → Option Value} {news : Ld} {s : Shared} {r : Rec} {cs : Scope} {kd : Nat}
noncomputable def fv : Flow → Value
  | .ret v => v
  | _ => .none
theorem locals_ok {τ : Vt} {sc : Scope} {b : List (Str × SV)} {vb : List (Str × Value)} (h : All2 (fun q r => q.1 = r.1 ∧ VR τ ρ q.2 r.2) b vb) (ha : (b.all fun y => isLocal sc y.1) = true) : ∀ y ∈ vb, sc.names.lookup y.1 = some .local := by
  walk_at "l"; induction h with
  | nil => walk_at "l"; intro y hy; nomatch hy
  | @cons p q _ _ hr _ ih =>
    walk_at "l"; intro y hy
    rw [List.all_cons, Bool.and_eq_true] at ha
    walk_at "e"; rcases List.mem_cons.mp hy with rfl | hy
    · walk_at "l"; rw [← hr.1]; exact isLocal_ok ha.1
    · walk_at "l"; exact ih ha.2 y hy
theorem FOk.to {g g' : Gx} {f : Fx} (O : FOk g cs kd f) (hw : g'.w = g.w) (hK : g'.X.K = g.X.K) (hc : g'.X.cl = [] := by rfl) : FOk g' cs kd f := ⟨⟨O.B, hK ▸ O.X, O.T, O.hA, O.hf, O.hke, O.hh, O.hd, O.hu, O.env, O.one⟩, O.envo.imp fun zz q => q.imp fun zz q => q.imp fun zz q => q.imp fun zz q => ⟨q.1, fun x sv e => by rw [hc] at e; cases e⟩, hw ▸ O.pass⟩
theorem not_cell {x : Str} {l : List (Str × NameKind)} (h : (l.all fun x => x.2 != .cell) = true) (e : l.lookup x = some .cell) : False := by
  walk_at "l"; induction l with
  | nil => walk_at "e"; cases e
  | cons p l ih =>
    walk_at "e"; obtain ⟨y, k⟩ := p
    rw [List.all_cons, Bool.and_eq_true] at h
    rw [List.lookup_cons] at e
    walk_at "l"; cases q : (x == y) with
    | true => rw [q] at e; cases e; cases h.1
    | false => rw [q] at e; exact ih h.2 e
theorem fnInfoC_ok {K : Frag} {fa : Nat} {I : FnI} (hI : fnInfoC K fa = some I) : ∃ cl dct name kV doc pm an ct sl, K.lookup fa = some ⟨cl, dct, .func ⟨name, I.qual, I.p, .stmts I.body, I.scope, mainGlobals, [], I.dV, kV, doc, pm, an, I.cdv, ct, builtinsNs⟩, sl⟩ ∧
    codeIn K I.cdv I.qual = true ∧ I.scope.isCoroutine = false ∧ I.scope.isGenerator = false ∧ I.scope.kind = .function := by
  walk_at "e"; obtain ⟨o, h0, e0⟩ := bs hI
  walk_at "e"; obtain ⟨d, h1, e1⟩ := bs e0
  walk_at "e"; obtain ⟨body, h2, e2⟩ := bs e1
  walk_at "e"; obtain ⟨_, h3, e3⟩ := bs e2
  walk_at "e"; obtain ⟨_, h4, e4⟩ := bs e3
  walk_at "e"; obtain ⟨_, h5, e5⟩ := bs e4
  walk_at "e"; obtain ⟨_, h6, e7⟩ := bs e5
  clear hI e0 e1 e2 e3 e4 e5
  walk_at "e"; obtain ⟨cl, dct, dat, sl⟩ := o
  walk_at "e"; obtain ⟨name, qual, params, bd, scope, gl, clo, dV, kV, doc, pm, an, cdv, ct, bn⟩ := d
  walk_at "e"; cases e7
  have h4 := ck_t h4
  have h6 := ck_t h6
  rw [Bool.and_eq_true] at h4
  rw [Bool.and_eq_true, Bool.and_eq_true, Bool.not_eq_true', Bool.not_eq_true', beq_iff_eq] at h6
  have e1 := Nat.eq_of_beq_eq_true h4.1
  have e2 := Nat.eq_of_beq_eq_true h4.2
  have e3 := List.isEmpty_iff.mp (ck_t h3)
  walk_at "l"; dsimp only at e1 e2 e3 h2 h5 h6 ⊢
  walk_at "e"; have e4 : bd = .stmts body := by cases bd <;> cases h2; rfl
  walk_at "e"; have e5 : dat = .func ⟨name, qual, params, bd, scope, gl, clo, dV, kV, doc, pm, an, cdv, ct, bn⟩ := by cases dat <;> cases h1; rfl
  walk_at "l"; refine ⟨cl, dct, name, kV, doc, pm, an, ct, sl, ?_, ck_t h5, h6.1.1, h6.1.2, h6.2⟩
  walk_at "l"; rw [h0, e5, e4, e1, e2, e3]
theorem callB_ok {fa : Nat} {I : FnI} {kd : Nat} {vs : List Value} {vb : List (Str × Value)} {led : Ld} {m : Str → Option Value} {s : Shared} (hI : fnInfo g.X.K fa = some I)
    (hb : ∀ name kV doc pm an ct, bindArgs (fnOf name I.qual I.p I.body I.scope I.dV kV doc pm an I.cdv ct) ⟨vs, []⟩ = pure vb) (hloc : ∀ y ∈ vb, I.scope.names.lookup y.1 = some .local) (O : COk g (kd + 1) f) (F : Fr f.h₀ f.L s.heap m) (N : News f.h₀ f.L s.heap led) {Ret : Value → Ld → Prop} {R : Result → Shared → Prop}
    (body : ∀ f' h₁ tk₁, FOk g I.scope kd f' → Fr f'.h₀ f'.L h₁ (fun y => vb.reverse.lookup y) → News f'.h₀ f'.L h₁ led → WP g f' (execs I.body f'.env) (fun fl s' => ∃ m' led' h tk, s' = { s with heap := h, toks := tk } ∧ Fr f'.h₀ f'.L h m' ∧ News f'.h₀ f'.L h led' ∧ Ret (fv fl) led') { s with heap := h₁, toks := tk₁ })
    (k : ∀ v led' h tk, Fr f.h₀ f.L h m → News f.h₀ f.L h led' → Ret v led' → R (.ok (.ret v)) { s with heap := h, toks := tk }) : codeAny (model PW g.w) f.A (.call (.ref fa) ⟨vs, []⟩) R s := by
  walk_at "e"; obtain ⟨I', hC, h7⟩ := bs hI
  walk_at "e"; obtain ⟨_, h6, h8⟩ := bs h7
  walk_at "e"; cases h8
  have h6 := ck_t h6
  walk_at "e"; obtain ⟨cl, dct, name, kV, doc, pm, an, ct, sl, ho, h2, h5a, h5b, h5c⟩ := fnInfoC_ok hC
  have hd := O.hd
  have hu := O.hu
  walk_at "l"; refine code_def O.B F O.X N O.T O.hA O.hf O.hke ho h2 (by lia) (BindsTo.of_eq (hb name kV doc pm an ct)) hloc ?_ h5a h5b h5c ?_
  · walk_at "l"; intro g' L' h₁ FG F' N' B' X' T'
    let env' := envOf I.qual I.scope L' fa I.cdv
    let f' : Fx := { f with A₀ := f.A, A := f.A.deeper env', h₀ := g', outer := f.env :: f.outer, env := env', L := L', E := fun e s' => wpAny (model PW g.w) (f.A.deeper env') (leaving env' e) (fun x s'' => R (.error e) s'') (fun e' s'' => R (.error e') s'') s' }
    have O' : FOk g I.scope kd f' := by
      walk_at "l"; refine ⟨⟨B', X', T', ?_, rfl, h5c, O.hh, ?_, ?_, ⟨I.qual, I.scope, fa, I.cdv, [], rfl⟩, O.one.imp fun o e => FG.keep 1 o e⟩, ⟨I.qual, fa, I.cdv, [], rfl, fun x sv zz e => (not_cell h6 e).elim⟩, PassesOwn.leaving⟩
      · walk_at "l"; show f.A.frames.map (env' :: ·) = _
        walk_at "l"; rw [O.hA]; rfl
      · walk_at "l"; show f.A.depth + 1 + kd < _
        walk_at "l"; lia
      · walk_at "l"; show f.A.units + 3 + 8 * kd < _
        walk_at "l"; lia
    walk_at "l"; refine wpAny_mono (body f' h₁ _ O' F' N') (fun v s' q => ?_) fun zz zz q => q
    walk_at "e"; obtain ⟨m', led', h', tk', rfl, F₂, N₂, r⟩ := q
    walk_at "l"; exact leaveK_ F₂ N₂ fun F₃ N₃ => k _ _ _ _ F₃ N₃ r
  · rw [List.all_eq_true] at h6
    walk_at "l"; intro x hx e
    have := h6 x hx
    rw [e] at this
    walk_at "l"; exact absurd this (by decide)
theorem callF_ok (H : Snd g.X r) {fa : Nat} {args : List SV} {sv : SV} (h : callF g.X r kd fa args st = some (sv, st')) (G : g.Ok) (O : COk g kd f) (S : SR g f ρ st m news s.heap) {vs : List Value} (ra : All2 (VR g.τ ρ) args vs)
    {R : Result → Shared → Prop} (k : ∀ v s', Aft g f s ρ st' (fun ρ' => VR g.τ ρ' sv v) s' → R (.ok (.ret v)) s') : codeAny (model PW g.w) f.A (.call (.ref fa) ⟨vs, []⟩) R s := by
  unfold callF at h
  walk_at "e"; cases kd with
  | zero => walk_at "e"; cases h
  | succ kd =>
    walk_at "e"; obtain ⟨I, hI, h⟩ := bs h
    walk_at "e"; obtain ⟨binds, h3, h⟩ := bs h
    walk_at "e"; obtain ⟨_, h4, h⟩ := bs h
    walk_at "e"; obtain ⟨⟨fl, st₁⟩, h7, h⟩ := bs h
    walk_at "e"; cases h
    walk_at "e"; obtain ⟨vb, hb, rb⟩ := bindS_ok (τ := g.τ) (ρ := ρ) h3 ra
    walk_at "l"; refine callB_ok (Ret := fun v led' => ∃ ρ' news', Le ρ ρ' ∧ led' = news' ++ g.R0 ∧ VR g.τ ρ' (sfV fl) v ∧ SR0 g ρ' { st₁ with loc := [] } m news') hI (fun name kV doc pm an ct => hb name _ _ _ kV doc pm _ ct an) (locals_ok rb (ck_t h4)) O S.F S.N ?_ ?_
    · walk_at "l"; intro f' h₁ tk₁ O' F' N'
      have S' : SR g f' ρ { st with loc := binds.reverse } (fun y => vb.reverse.lookup y) news h₁ :=
        ⟨F', N', fun x sv hx => lookR rb.reverse hx, S.led, S.nx, S.off, S.nd, S.up, S.ro, S.old, S.le, S.low, S.ne⟩
      walk_at "l"; refine wpAny_mono (H.B h7 rfl G (f := f') (s := { s with heap := h₁, toks := tk₁ }) O' S') (fun v s' q => ?_) fun zz zz q => q
      walk_at "e"; obtain ⟨ρ', m', news', h', tk', le, rfl, S₁, rv⟩ := q
      walk_at "l"; refine ⟨m', _, h', tk', rfl, S₁.F, S₁.N, ρ', news', le, rfl, ?_, ⟨fun x sv hx => (nomatch hx), S₁.led, S₁.nx, S₁.off, S₁.nd, S₁.up, S₁.ro, S₁.old, S₁.le, S₁.low, S₁.ne⟩⟩
      walk_at "e"; cases fl with
      | next => walk_at "e"; cases rv; walk_at "l"; exact rfl
      | ret sv => walk_at "e"; obtain ⟨v', rfl, rv⟩ := rv; walk_at "l"; exact rv
    · walk_at "l"; rintro v led' h tk F₂ N₂ ⟨ρ', news', le, rfl, rv, S₁⟩
      walk_at "l"; refine k _ _ ⟨ρ', m, news', h, tk, le, rfl, ⟨F₂, N₂, ?_, S₁.led, S₁.nx, S₁.off, S₁.nd, S₁.up, S₁.ro, S₁.old, S₁.le, S₁.low, S₁.ne⟩, rv⟩
      walk_at "l"; intro x sv hx
      walk_at "e"; obtain ⟨v, a, b⟩ := S.loc x sv hx
      walk_at "l"; exact ⟨v, a, b.mono le⟩
end
end NT
end
section
open PySem PySem.W PySem.Calls PyProof.Rows
namespace NT
section
variable {g : Gx} {f : Fx} {ρ : List Addr} {st st' : SS} {m : Str → Option Value} {news : Ld} {s : Shared} {r : Rec} {cs : Scope} {kd : Nat}
theorem SR.push2 {h h' : Heap} (S : SR g f ρ st m news h) {C : Nat} {x dx : Addr} (lt : ∀ p ∈ news ++ g.R0, @LT.lt Nat _ p.1 dx) (l2 : @LT.lt Nat _ dx x) (F : Fr f.h₀ f.L h' m) (N : News f.h₀ f.L h' ((x, instObj C dx) :: (dx, dictOf [] 0) :: (news ++ g.R0))) :
    SR g f (ρ ++ [x, dx]) { st with led := (st.nx, .inst C (st.nx + 1)) :: (st.nx + 1, .dict [] 0) :: st.led, nx := st.nx + 2 } m ((x, instObj C dx) :: (dx, dictOf [] 0) :: news) h' := by
  have le : Le ρ (ρ ++ [x, dx]) := .push _
  have ix : (ρ ++ [x, dx])[st.nx]? = some x := by rw [← S.nx]; simp
  have idx : (ρ ++ [x, dx])[st.nx + 1]? = some dx := by rw [← S.nx, List.getElem?_append_right (Nat.le_succ _), show ρ.length.succ - ρ.length = 1 from Nat.add_sub_cancel_left _ 1]; rfl
  have ltx : ∀ p ∈ news ++ g.R0, @LT.lt Nat _ p.1 x := fun p hp => Nat.lt_trans (lt p hp) l2
  walk_at "l"; refine ⟨F, N, ?_, .cons ⟨ix, dx, idx, rfl⟩ (.cons ⟨idx, [], rfl, .nil⟩ (S.led.mono le)), ?_, ?_, ?_, ?_, ?_, ?_, S.le.trans le, ?_, S.ne⟩
  · walk_at "l"; intro y sv hy
    walk_at "e"; obtain ⟨v, a, b⟩ := S.loc y sv hy
    walk_at "l"; exact ⟨v, a, b.mono le⟩
  · walk_at "l"; rw [List.length_append, S.nx]; rfl
  · walk_at "l"; intro p hp q hq
    walk_at "e"; rcases List.mem_cons.mp hp with rfl | hp
    · walk_at "l"; exact Nat.ne_of_lt (ltx q (List.mem_append_right _ hq))
    · walk_at "e"; rcases List.mem_cons.mp hp with rfl | hp
      · walk_at "l"; exact Nat.ne_of_lt (lt q (List.mem_append_right _ hq))
      · walk_at "l"; exact S.off p hp q hq
  · walk_at "l"; refine List.pairwise_cons.mpr ⟨fun q hq => ?_, List.pairwise_cons.mpr ⟨fun q hq => Nat.ne_of_lt (lt q (List.mem_append_left _ hq)), S.nd⟩⟩
    walk_at "e"; rcases List.mem_cons.mp hq with rfl | hq
    · walk_at "l"; exact Nat.ne_of_lt l2
    · walk_at "l"; exact Nat.ne_of_lt (ltx q (List.mem_append_left _ hq))
  · walk_at "l"; intro i hi y hy q hq
    walk_at "e"; obtain ⟨o, ho⟩ := S.old q hq
    walk_at "e"; by_cases e : i < ρ.length
    · rw [List.getElem?_append_left e] at hy
      walk_at "l"; exact S.up i hi y hy q hq
    · rw [List.getElem?_append_right (Nat.le_of_not_lt e)] at hy
      have : y = x ∨ y = dx := by
        have := List.mem_of_getElem? hy
        walk_at "l"; simpa using this
      walk_at "e"; rcases this with rfl | rfl
      · walk_at "l"; exact ltx (q.1, o) ho
      · walk_at "l"; exact lt (q.1, o) ho
  · walk_at "l"; intro i o ho
    walk_at "e"; obtain ⟨y, ob, a, b, c⟩ := S.ro i o ho
    walk_at "l"; exact ⟨y, ob, le _ _ a, b, c.mono le⟩
  · walk_at "l"; intro q hq
    walk_at "e"; obtain ⟨o, ho⟩ := S.old q hq
    walk_at "l"; exact ⟨o, .tail _ (.tail _ ho)⟩
  · walk_at "l"; exact List.forall_mem_cons.mpr ⟨S.lowOf ltx, List.forall_mem_cons.mpr ⟨S.lowOf lt, S.low⟩⟩
theorem callC_ok (H : Snd g.X r) {C : Nat} {args : List SV} {sv : SV} (h : callC g.X r kd C args st = some (sv, st')) (G : g.Ok) (O : COk g kd f) (S : SR g f ρ st m news s.heap) {vs : List Value} (ra : All2 (VR g.τ ρ) args vs) :
    EG g f s ρ st' sv (call (.ref C) vs) := by
  walk_at "e"; cases kd with
  | zero => walk_at "e"; cases h
  | succ kd =>
    walk_at "e"; obtain ⟨_, h1, k1⟩ := bs h
    walk_at "e"; obtain ⟨v, hI, k2⟩ := bs k1
    walk_at "e"; obtain ⟨v', hv, k3⟩ := bs k2
    walk_at "e"; obtain ⟨fI, hr, k4⟩ := bs k3
    walk_at "e"; obtain ⟨_, h2, k5⟩ := bs k4
    walk_at "e"; obtain ⟨⟨v₂, st₁⟩, h3, k6⟩ := bs k5
    walk_at "e"; obtain ⟨_, h4, k7⟩ := bs k6
    walk_at "e"; cases k7
    clear h k1 k2 k3 k4 k5 k6
    walk_at "e"; cases hv
    walk_at "e"; cases refOf_ok hr
    walk_at "e"; cases isN_ok (ck_t h4)
    have hd := O.hd
    have hu := O.hu
    walk_at "l"; refine call_cls S.F O.X S.N (ck_t h1) hI (ck_t h2) ?_
    walk_at "l"; intro x dx h' F' N' lt l2
    let c : Code := .builtin "type.__call__" ⟨.ref C :: vs, []⟩
    let f' : Fx := { f with A := f.A.under c }
    have O' : COk g kd f' := ⟨O.B, O.X, O.T, by show (f.A.under c).frames = _; rw [show (f.A.under c).frames = f.A.frames from by cases f.A; rfl]; exact O.hA, O.hf, O.hke, O.hh, by show f.A.depth + 1 + kd < _; lia, by show f.A.units + 1 + 8 * kd < _; lia, O.env, O.one⟩
    have S' := S.push2 (C := C) lt l2 F' N'
    have le : Le ρ (ρ ++ [x, dx]) := .push _
    have S'' : SR g f' (ρ ++ [x, dx]) { st with led := (st.nx, .inst C (st.nx + 1)) :: (st.nx + 1, .dict [] 0) :: st.led, nx := st.nx + 2 } m ((x, instObj C dx) :: (dx, dictOf [] 0) :: news) h' := ⟨S'.F, S'.N, S'.loc, S'.led, S'.nx, S'.off, S'.nd, S'.up, S'.ro, S'.old, S'.le, S'.low, S'.ne⟩
    have ix : (ρ ++ [x, dx])[st.nx]? = some x := by rw [← S.nx]; simp
    walk_at "l"; refine callF_ok (f := f') (s := { s with heap := h' }) H h3 G O' S'' (vs := .ref x :: vs) (.cons ⟨x, ix, rfl⟩ (ra.imp fun zz zz q => q.mono le)) ?_
    walk_at "l"; intro v' s' q
    walk_at "e"; obtain ⟨ρ', m', news', h₂, tk₂, le₂, rfl, S₂, rv⟩ := q
    walk_at "e"; cases rv
    walk_at "l"; exact ⟨rfl, ⟨ρ', m', news', h₂, tk₂, le.trans le₂, rfl, ⟨S₂.F, S₂.N, S₂.loc, S₂.led, S₂.nx, S₂.off, S₂.nd, S₂.up, S₂.ro, S₂.old, S₂.le, S₂.low, S₂.ne⟩, ⟨x, le₂ _ _ ix, rfl⟩⟩⟩
theorem isInst_ok {v c : SV} {b : Bool} (h : isInst g.X st v c = some b) (G : g.Ok) (O : COk g kd f) (S : SR g f ρ st m news s.heap) {x y : Value} (rv : VR g.τ ρ v x) (rc : VR g.τ ρ c y) :
    WP g f (call (.builtin "isinstance") [x, y]) (fun v s' => Aft g f s ρ st (fun zz => v = .bool b) s') s := by
  walk_at "e"; cases c with
  | k C =>
    walk_at "e"; obtain ⟨i, h0, k0⟩ := bs h
    walk_at "e"; obtain ⟨⟨D, d, es, n⟩, h1, k1⟩ := bs k0
    clear h k0
    walk_at "e"; cases asA_ok h0
    walk_at "e"; cases rc
    have h : (match isIn g.X.K (.ref D) C with | true => some true | false => (_ : Option Bool)) = some b := k1
    walk_at "e"; obtain ⟨x, dx, des, a1, a2, a3, a4, a5⟩ := instOf_ok S h1
    walk_at "e"; obtain ⟨x', a6, rfl⟩ := rv
    rw [a1] at a6; walk_at "e"; cases a6
    have I := instAt_of S.N a3 a4
    walk_at "l"; cases hi : isIn g.X.K (.ref D) C with
    | true =>
      rw [hi] at h
      walk_at "e"; cases h
      walk_at "l"; exact isi_call (In_now O S) (fun M => I.type) hi (by intro e; cases e) (Aft.now S rfl)
    | false =>
      rw [hi] at h
      walk_at "e"; obtain ⟨_, h2, h⟩ := bs h
      walk_at "e"; obtain ⟨_, h3, h⟩ := bs h
      walk_at "e"; obtain ⟨_, h4, h⟩ := bs h
      walk_at "e"; obtain ⟨_, h5, h⟩ := bs h
      walk_at "e"; obtain ⟨_, h6, h⟩ := bs h
      walk_at "e"; obtain ⟨_, h7, h⟩ := bs h
      walk_at "e"; obtain ⟨_, h8, h⟩ := bs h
      walk_at "e"; cases h
      walk_at "l"; exact kin_callC (In_now O S) I (ck_t h2) (ck_t h3) (ck_t h4) (beq_iff_eq.mp (ck_t h5)) (beq_iff_eq.mp (ck_t h6)) (beq_iff_eq.mp (ck_t h7)) (beq_iff_eq.mp (ck_t h8)) (Aft.at (.refl _) S rfl)
  | ty T =>
    walk_at "e"; obtain ⟨_, h0, k0⟩ := bs h
    walk_at "e"; cases asB_ok h0
    walk_at "e"; cases rv
    walk_at "e"; cases rc
    walk_at "l"; exact kia_one kitx_bool (In_now O S) trivial k0 (by intro e; cases e) fun tk => Aft.at (.refl _) S rfl
  | _ => walk_at "e"; cases h
theorem eqS_ok {x y : SV} (h : eqS x y = true) : x = y := by
  walk_at "e"; cases x with
  | none => walk_at "l"; exact (isN_ok h).symm
  | bool b => walk_at "e"; obtain ⟨c, h1, h2⟩ := has_ok h; walk_at "l"; rw [asB_ok h1, eq_of_beq h2]
  | int v k => walk_at "e"; obtain ⟨c, h1, h2⟩ := has_ok h; rw [Bool.and_eq_true] at h2; walk_at "l"; rw [asI_ok h1, Nat.eq_of_beq_eq_true h2.1, eq_of_beq h2.2]
  | k b => walk_at "e"; obtain ⟨c, h1, h2⟩ := has_ok h; walk_at "l"; rw [asK_ok h1, Nat.eq_of_beq_eq_true h2]
  | a b => walk_at "e"; obtain ⟨c, h1, h2⟩ := has_ok h; walk_at "l"; rw [asA_ok h1, Nat.eq_of_beq_eq_true h2]
  | v b => walk_at "e"; obtain ⟨c, h1, h2⟩ := has_ok h; walk_at "l"; rw [asV_ok h1, Nat.eq_of_beq_eq_true h2]
  | _ => walk_at "e"; cases h
theorem eqL_ok {l : List SV} : ∀ {m : List SV}, eqL l m = true → l = m := by
  walk_at "l"; induction l with
  | nil => walk_at "l"; intro m h; exact (List.isEmpty_iff.mp h).symm
  | cons a l ih =>
    walk_at "l"; intro m h
    walk_at "e"; cases m with
    | nil => walk_at "e"; cases h
    | cons b m =>
      have h : (eqS a b && eqL l m) = true := h
      rw [Bool.and_eq_true] at h
      walk_at "l"; rw [eqS_ok h.1, ih h.2]
theorem extOf_mem {a : Nat} {args : List SV} {v : SV} {l : List (Nat × List SV × SV)} (h : extOf l a args = some v) : (a, args, v) ∈ l := by
  walk_at "l"; induction l with
  | nil => walk_at "e"; cases h
  | cons p r ih =>
    walk_at "e"; obtain ⟨f, as, u⟩ := p
    have h : (match Nat.beq f a && eqL as args with | true => some u | false => extOf r a args) = some v := h
    walk_at "l"; cases e : Nat.beq f a && eqL as args with
    | true =>
      rw [e] at h
      rw [Bool.and_eq_true] at e
      walk_at "e"; cases h
      walk_at "l"; rw [← Nat.eq_of_beq_eq_true e.1, ← eqL_ok e.2]
      walk_at "l"; exact .head _
    | false =>
      rw [e] at h
      walk_at "l"; exact .tail _ (ih h)
theorem noA_all {τ : Vt} {ρ ρ' : List Addr} {l : List SV} {m : List Value} (h : l.all noA = true) (_ : Le ρ ρ') (r : All2 (VR τ ρ') l m) : All2 (VR τ ρ) l m := by
  walk_at "l"; induction r with
  | nil => walk_at "l"; exact .nil
  | @cons a b l m r _ ih =>
    rw [List.all_cons, Bool.and_eq_true] at h
    walk_at "l"; refine .cons ?_ (ih h.2)
    walk_at "l"; cases a <;> first | exact r | cases h.1
theorem kl_last_app (xs : List Value) (x : Value) : kl_last (xs ++ [x]) = some (xs, x) := by
  walk_at "l"; induction xs with
  | nil => walk_at "l"; rfl
  | cons y r ih =>
    walk_at "e"; cases r with
    | nil => walk_at "l"; rfl
    | cons z r =>
      walk_at "l"; show kl_last (y :: z :: (r ++ [x])) = _
      have : kl_last (z :: (r ++ [x])) = some (z :: r, x) := ih
      walk_at "l"; simp only [kl_last] at this ⊢
      walk_at "l"; rw [this]
theorem intsNil {vs : List Value} {ns : List Int} (h : IntsAre vs ns) (e : ns.length = 0) : vs = [] := by
  walk_at "e"; cases h with
  | nil => walk_at "l"; rfl
  | cons => simp at e
theorem unsnoc_ok {τ : Vt} {ρ : List Addr} {vs : List SV} : ∀ {q : List SV} {x : SV} {us : List Value}, unsnoc vs = some (q, x) → All2 (VR τ ρ) vs us → ∃ us' u, us = us' ++ [u] ∧ All2 (VR τ ρ) q us' ∧ VR τ ρ x u := by
  walk_at "l"; induction vs with
  | nil => walk_at "l"; intro q x us h; walk_at "e"; cases h
  | cons a l ih =>
    walk_at "l"; intro q x us h r
    walk_at "e"; cases r with
    | cons r1 r2 =>
      walk_at "e"; cases l with
      | nil => walk_at "e"; cases h; cases r2; walk_at "l"; exact ⟨[], _, rfl, .nil, r1⟩
      | cons b l =>
        walk_at "e"; obtain ⟨p, hp, h⟩ := Option.map_eq_some_iff.mp h
        walk_at "e"; cases h
        walk_at "e"; obtain ⟨us', u, rfl, h1, h2⟩ := ih (q := p.1) (x := p.2) hp r2
        walk_at "l"; exact ⟨_ :: us', u, rfl, .cons r1 h1, h2⟩
theorem lApp_ok {l : Nat} {x sv : SV} (h : lApp st l x = some (sv, st')) (S : SR g f ρ st m news s.heap) {v1 v2 : Value} (r1 : VR g.τ ρ (.a l) v1) (r2 : VR g.τ ρ x v2) : EG g f s ρ st' sv (call (.builtin "list.append") [v1, v2]) := by
  walk_at "e"; obtain ⟨y, hy, rfl⟩ := r1
  walk_at "e"; obtain ⟨o, hl, h⟩ := bs h
  walk_at "e"; cases o with
  | plist i vs =>
    walk_at "e"; obtain ⟨_, h1, h⟩ := bs h
    walk_at "e"; obtain ⟨led', h2, h⟩ := bs h
    walk_at "e"; cases h
    walk_at "e"; obtain ⟨so, x', ob, b1, b2, b3, b4, b5⟩ := upd_ok S h2
    rw [hl] at b1; walk_at "e"; cases b1
    rw [hy] at b2; walk_at "e"; cases b2
    walk_at "e"; obtain ⟨us, c, rfl, b6, b7⟩ := b4
    walk_at "e"; obtain ⟨news', u, R, z⟩ := b5 (W.listOf (g.τ.pre i ++ (us ++ [v2])).toArray (c + 1)) ⟨_, _, rfl, b6.append (.cons r2 .nil), b7⟩
    rw [← List.append_assoc, ← List.push_toArray] at u
    have h1 := Nat.le_of_ble_eq_true (ck_t h1)
    walk_at "l"; exact append_K S.F S.N u (fun h' F' N' => Aft.at (.refl _) (S.upd z R F' N') rfl) (by rw [List.size_toArray, List.length_append, sizeLine_eq, ← b6.length]; lia)
  | list vs n =>
    walk_at "e"; obtain ⟨_, h1, h⟩ := bs h
    walk_at "e"; obtain ⟨led', h2, h⟩ := bs h
    walk_at "e"; cases h
    walk_at "e"; obtain ⟨so, x', ob, b1, b2, b3, b4, b5⟩ := upd_ok S h2
    rw [hl] at b1; walk_at "e"; cases b1
    rw [hy] at b2; walk_at "e"; cases b2
    walk_at "e"; obtain ⟨us, rfl, b6⟩ := b4
    walk_at "e"; obtain ⟨news', u, R, z⟩ := b5 (W.listOf (us ++ [v2]).toArray (n + 1)) ⟨_, rfl, b6.append (.cons r2 .nil)⟩
    rw [← List.push_toArray] at u
    walk_at "l"; exact append_K S.F S.N u (fun h' F' N' => Aft.at (.refl _) (S.upd z R F' N') rfl) (by rw [List.size_toArray, ← b6.length]; exact line_of (ck_t h1))
  | _ => walk_at "e"; cases h
theorem lPop_ok {l : Nat} {sv : SV} (h : lPop st l = some (sv, st')) (S : SR g f ρ st m news s.heap) {v1 : Value} (r1 : VR g.τ ρ (.a l) v1) : EG g f s ρ st' sv (call (.builtin "list.pop") [v1]) := by
  walk_at "e"; obtain ⟨y, hy, rfl⟩ := r1
  walk_at "e"; obtain ⟨o, hl, k1⟩ := bs h
  walk_at "e"; obtain ⟨⟨i, vs⟩, hp, k2⟩ := bs k1
  clear h k1
  walk_at "e"; cases soP_ok hp
  have h := k2
  clear k2
  walk_at "e"; obtain ⟨_, h1, h⟩ := bs h
  walk_at "e"; obtain ⟨⟨q, x⟩, h3, h⟩ := bs h
  walk_at "e"; obtain ⟨led', h2, h⟩ := bs h
  walk_at "e"; cases h
  walk_at "e"; obtain ⟨so, x', ob, b1, b2, b3, b4, b5⟩ := upd_ok S h2
  rw [hl] at b1; walk_at "e"; cases b1
  rw [hy] at b2; walk_at "e"; cases b2
  walk_at "e"; obtain ⟨us, c, rfl, b6, b7⟩ := b4
  have b6 : All2 (VR g.τ ρ) vs us := b6
  have b7 : (g.τ.pre i).length ≤ 1000000 := b7
  have hlen := b6.length
  walk_at "e"; obtain ⟨us', u', rfl, c1, c2⟩ := unsnoc_ok h3 b6
  walk_at "e"; obtain ⟨news', u, R, z⟩ := b5 (W.listOf (g.τ.pre i ++ us').toArray (c + 1)) ⟨_, _, rfl, c1, b7⟩
  have h1 := Nat.le_of_ble_eq_true (ck_t h1)
  walk_at "l"; refine kl_pop S.F S.N (by rw [List.toList_toArray, ← List.append_assoc]; exact kl_last_app _ _) u ?_ (fun h' F' N' => Aft.at (.refl _) (S.upd z R F' N') c2)
  walk_at "l"; rw [List.toList_toArray, List.length_append, sizeLine_eq, ← hlen]; lia
theorem noKv_ok {o : SO} (h : noKv o = true) : o = .idict [] := by
  walk_at "e"; cases o with
  | idict kvs => walk_at "l"; rw [List.isEmpty_iff.mp h]
  | _ => walk_at "e"; cases h
theorem lSorted_ok {d : Nat} {sv : SV} (h : lSorted g.X st d = some (sv, st')) (O : COk g kd f) (S : SR g f ρ st m news s.heap) {v1 : Value} (r1 : VR g.τ ρ (.a d) v1) : EG g f s ρ st' sv (call (.builtin "sorted") [v1]) := by
  walk_at "e"; obtain ⟨y, hy, rfl⟩ := r1
  walk_at "e"; obtain ⟨o, hl, h⟩ := bs h
  walk_at "e"; obtain ⟨_, hn, h⟩ := bs h
  walk_at "e"; cases h
  walk_at "e"; cases noKv_ok (ck_t hn)
  walk_at "e"; obtain ⟨x', ob, b1, b2, rk, b3, b4⟩ := obj_ok S hl
  rw [hy] at b1; walk_at "e"; cases b1
  walk_at "e"; cases b4
  walk_at "l"; refine kdu_sortedD (knd := intKind PW g.w) (enc := PyData.int) (D := []) (fun k v q => kdl_flat_int q) O.hh S.F S.N (TabAt.ofNews S.N b2 (beq_eq_false_iff_ne.mpr (Nat.ne_of_gt (S.low _ b2))) b3 .nil) (Nat.zero_le _) ?_
  walk_at "l"; intro B h' tk F' N' lt
  walk_at "l"; refine ksk_lsort (s := { s with heap := h', toks := tk }) (vs := []) (ns := []) (news' := fun o => (B, o) :: (news ++ g.R0)) F' N' (fun o => .head fun p hp => Nat.ne_of_lt (lt p hp)) rfl .nil (by decide) ?_
  walk_at "l"; intro vs' ns' c h₂ F₂ N₂ hI hlen _ _ _
  have : vs' = [] := intsNil hI hlen
  walk_at "e"; subst this
  have le' : Le ρ (ρ ++ [B]) := .push _
  walk_at "l"; exact Aft.at (s := s) (tk := tk) le' (S.push (so := .plist 0 []) lt ⟨[], c, rfl, .nil, Nat.zero_le _⟩ F₂ N₂) ⟨B, S.nxt, rfl⟩
theorem list_copyC {M : Program} {w : World} {A : Around} {E : Value → Shared → Prop} {s : Shared} {h₀ : Heap} {L : Addr} {m : Str → Option Value} {news : Ld} {l : Addr} {items : List Value} {n : Nat} {Q : Value → Shared → Prop} (F : Fr h₀ L s.heap m) (N : News h₀ L s.heap news) (hl : (l, W.listOf items.toArray n) ∈ news) (hz : items.length ≤ 1000)
    (h : ∀ D h', Fr h₀ L h' m → News h₀ L h' ((D, W.listOf items.toArray (match items with | [] => 0 | _ => 1)) :: news) → (∀ q ∈ news, @LT.lt Nat _ q.1 D) → Q (.ref D) { s with heap := h' }) : wpAny (model M w) A (call (.type "list") [.ref l]) Q E s := by
  have ho := (N _ hl).1
  have hne : l ≠ s.heap.objs.size := fun e => Nat.lt_irrefl _ (e ▸ Heap.lt_size ho)
  have hsz : items.toArray.size ≤ sizeLine := by rw [List.size_toArray, sizeLine_eq]; lia
  walk_at "l"; refine callType_codes (Q₁ := fun obj s₁ => obj = .ref s.heap.objs.size ∧ s₁ = { s with heap := s.heap.push { cls := .type "list", data := .seq #[] } }) PySem.F.called_list (PySem.F.typeCall_list_1 _) PySem.F.entry_list_init (code_list_new _ ⟨rfl, rfl⟩) fun obj s₁ h₁ => ?_
  walk_at "e"; obtain ⟨rfl, rfl⟩ := h₁
  have hS : (s.heap.push { cls := .type "list", data := .seq #[] }).get? s.heap.objs.size = some { cls := .type "list", data := .seq #[] } := Heap.get?_push_size _ rfl
  walk_at "l"; refine ⟨⟨_, hS, rfl⟩, PySem.F.args_list_init_2 _ _, wpAny_list_init_seq (hsz := hsz) _ l (T := "list") (.inl rfl) hne hS (Heap.get?_push_of_some _ ho) rfl rfl ⟨rfl, ?_⟩⟩
  have hS₂ := Heap.get?_update_self (Obj.mapSeq (fun zz => (#[] : Array Value))) hS rfl
  have hS₃ := Heap.get?_update_self (Obj.mapSeq (· ++ items.toArray)) hS₂ rfl
  have hk : ∀ b o', s.heap.get? b = some o' → (((s.heap.push { cls := .type "list", data := .seq #[] }).update s.heap.objs.size (Obj.mapSeq (fun zz => (#[] : Array Value)))).update s.heap.objs.size (Obj.mapSeq (· ++ items.toArray))).get? b = some o' := fun b o' e => by
    have hb : b ≠ s.heap.objs.size := fun e' => Nat.lt_irrefl _ (e' ▸ Heap.lt_size e)
    walk_at "l"; exact (Heap.get?_update_other _ _ (Ne.symm hb)).trans ((Heap.get?_update_other _ _ (Ne.symm hb)).trans (Heap.get?_push_of_some _ e))
  walk_at "l"; refine h _ _ (F.keeps hk) (news_pushed F N hk ?_ rfl) fun q hq => Heap.lt_size (N q hq).1
  walk_at "l"; refine hS₃.trans ?_
  walk_at "e"; cases items with
  | nil => walk_at "l"; rfl
  | cons a r => walk_at "l"; simp [Obj.mapSeq, W.listOf]
theorem lCopy_ok {i : Nat} {sv : SV} (h : lCopy g.X st i = some (sv, st')) (S : SR g f ρ st m news s.heap) {v1 : Value} (r1 : VR g.τ ρ (.a i) v1) : EG g f s ρ st' sv (call (.type "list") [v1]) := by
  walk_at "e"; obtain ⟨y, hy, rfl⟩ := r1
  walk_at "e"; obtain ⟨⟨vs, n⟩, h1, h⟩ := bs h
  walk_at "e"; obtain ⟨_, h2, h⟩ := bs h
  walk_at "e"; cases h
  walk_at "e"; obtain ⟨x, l, a1, a2, a3⟩ := listAt_ok S h1
  rw [hy] at a1; walk_at "e"; cases a1
  walk_at "l"; refine list_copyC S.F S.N a2 (by rw [← a3.length]; exact Nat.le_of_ble_eq_true (ck_t h2)) fun D h' F' N' lt => ?_
  have le' : Le ρ (ρ ++ [D]) := .push _
  walk_at "l"; refine Aft.at (s := s) (tk := s.toks) le' (S.push (so := .list vs _) lt ⟨l, ?_, a3.imp fun zz zz q => q.mono le'⟩ F' N') ⟨D, S.nxt, rfl⟩
  walk_at "l"; cases a3 <;> rfl
theorem callKn_ok (H : Snd g.X r) {a : Nat} {args : List SV} {sv : SV} (h : callKn g.X r kd a args st = some (sv, st')) (G : g.Ok) (O : COk g kd f) (S : SR g f ρ st m news s.heap) {vs : List Value} (ra : All2 (VR g.τ ρ) args vs) :
    EG g f s ρ st' sv (call (.ref a) vs) := by
  have h : (match extOf g.X.ext a args with | some v => (_ : Option (SV × SS)) | none => (_ : Option (SV × SS))) = some (sv, st') := h
  walk_at "l"; cases he : extOf g.X.ext a args with
  | some v =>
    rw [he] at h
    walk_at "e"; obtain ⟨_, h1, h⟩ := bs h
    walk_at "e"; cases h
    have h1 := ck_t h1
    rw [Bool.and_eq_true] at h1
    walk_at "e"; obtain ⟨cn, cs, a, ccd, cl, hf⟩ := O.env
    have hd := O.hd
    have hu := O.hu
    have h10 := Nat.le_of_ble_eq_true h1.2
    have hA : f.A = ktrTop f.A.depth f.A.units f.A.guards cn cs f.L a ccd cl f.outer := by
      have h2 := O.hA
      have h3 := O.hh
      rw [hf] at h2
      revert h2 h3
      walk_at "l"; cases f.A
      walk_at "l"; rintro h2 h3
      walk_at "l"; dsimp only at h2 h3 ⊢
      walk_at "l"; rw [h2, h3]
    have hke := O.hke
    walk_at "l"; unfold EG WP
    rw [hf] at hke
    walk_at "l"; rw [hA]
    have X := O.X
    rw [G.K] at X
    walk_at "l"; refine says_use (G.ext _ _ _ (extOf_mem he) _ (noA_all h1.1 S.le ra) _ (fun p hp => List.mem_append_right _ hp) S.low) O.B S.F X S.N O.T O.one hke (by lia) (by lia) ?_
    walk_at "l"; rintro v led' h' tk' F' N' ⟨rv, rfl⟩
    walk_at "l"; exact Aft.at (.refl _) (S.heap F' N') (rv.mono S.le)
  | none =>
    rw [he] at h
    walk_at "e"; obtain ⟨⟨c, d, dat, sl⟩, _, h⟩ := bs h
    walk_at "e"; cases dat with
    | func => walk_at "l"; exact wpAny_call (callF_ok H h G O S ra fun v s' q => q)
    | cls => walk_at "l"; exact callC_ok H h G O S ra
    | _ => walk_at "e"; cases h
theorem biLen_ok {v : SV} {sv : SV} (h : biLen g.X v st = some (sv, st')) (O : COk g kd f) (S : SR g f ρ st m news s.heap) {u : Value} (r1 : VR g.τ ρ v u) : EG g f s ρ st' sv (call (.builtin "len") [u]) := by
  walk_at "e"; cases v with
  | a i =>
    walk_at "e"; obtain ⟨⟨vs', n⟩, h1, h⟩ := bs h
    walk_at "e"; obtain ⟨_, h2, h⟩ := bs h
    walk_at "e"; cases h
    walk_at "e"; obtain ⟨x, l, a1, a2, a3⟩ := listAt_ok S h1
    walk_at "e"; obtain ⟨x', a4, rfl⟩ := r1
    rw [a1] at a4; walk_at "e"; cases a4
    have : vs'.length ≤ 1000 := Nat.le_of_ble_eq_true (ck_t h2)
    walk_at "l"; exact kun_lenL (k := (vs'.length : Int)) (S.N.isList a2) (by rw [List.size_toArray, ← a3.length]) (by lia) (Aft.at (.refl _) S ⟨_, rfl⟩)
  | k t =>
    walk_at "e"; obtain ⟨n, h1, h⟩ := bs h
    walk_at "e"; obtain ⟨_, h2, h⟩ := bs h
    walk_at "e"; cases h
    walk_at "e"; cases r1
    walk_at "e"; obtain ⟨l, h3, rfl⟩ := Option.map_eq_some_iff.mp h1
    walk_at "e"; obtain ⟨d, k, sl, ho⟩ := tupOf_ok h3
    have := Nat.le_of_ble_eq_true (ck_t h2)
    walk_at "l"; exact kun_lenT (kun_topT S.F O.X ho) rfl (by lia) (Aft.at (.refl _) S ⟨_, rfl⟩)
  | _ => walk_at "e"; cases h
theorem All2.one {α β : Type} {R : α → β → Prop} {a : α} {m : List β} (h : All2 R [a] m) {P : List β → Prop} (k : ∀ b, R a b → P [b]) : P m := by
  walk_at "e"; cases h with
  | cons r rs => walk_at "e"; cases rs; walk_at "l"; exact k _ r
theorem All2.two {α β : Type} {R : α → β → Prop} {a b : α} {m : List β} (h : All2 R [a, b] m) {P : List β → Prop} (k : ∀ c d, R a c → R b d → P [c, d]) : P m := by
  walk_at "e"; cases h with
  | cons r rs => walk_at "l"; exact rs.one (P := fun m => P (_ :: m)) fun d q => k _ d r q
theorem callBi_ok {id : String} {args : List SV} {sv : SV} (h : callBi g.X id args st = some (sv, st')) (G : g.Ok) (O : COk g kd f) (S : SR g f ρ st m news s.heap) {vs : List Value} (ra : All2 (VR g.τ ρ) args vs) :
    EG g f s ρ st' sv (call (.builtin id) vs) := by
  unfold callBi at h
  walk_at "e"; split at h
  · rename_i e
    walk_at "e"; obtain ⟨v, h1, h⟩ := bs h
    walk_at "l"; rw [eq_of_beq e]
    rw [one_ok h1] at ra
    walk_at "l"; exact ra.one (P := fun vs => EG g f s ρ st' sv (call (.builtin "len") vs)) fun b r1 => biLen_ok h O S r1
  · walk_at "e"; split at h
    · rename_i e
      walk_at "e"; obtain ⟨q, h1, h⟩ := bs h
      walk_at "e"; obtain ⟨b, h2, h⟩ := bs h
      walk_at "e"; cases h
      walk_at "l"; rw [eq_of_beq e]
      rw [two_ok h1] at ra
      walk_at "l"; exact ra.two (P := fun vs => EG g f s ρ st (.bool b) (call (.builtin "isinstance") vs)) fun c d r1 r2 => wpAny_mono (isInst_ok h2 G O S r1 r2) (fun zz zz q => q.imp fun zz e => e) fun zz zz q => q
    · walk_at "e"; split at h
      · rename_i e
        walk_at "e"; obtain ⟨q, h1, h⟩ := bs h
        walk_at "e"; obtain ⟨l, h2, h⟩ := bs h
        walk_at "l"; rw [eq_of_beq e]
        rw [two_ok h1, asA_ok h2] at ra
        walk_at "l"; exact ra.two (P := fun vs => EG g f s ρ st' sv (call (.builtin "list.append") vs)) fun c d r1 r2 => lApp_ok h S r1 r2
      · walk_at "e"; split at h
        · rename_i e
          walk_at "e"; obtain ⟨q, h1, h⟩ := bs h
          walk_at "e"; obtain ⟨l, h2, h⟩ := bs h
          walk_at "l"; rw [eq_of_beq e]
          rw [one_ok h1, asA_ok h2] at ra
          walk_at "l"; exact ra.one (P := fun vs => EG g f s ρ st' sv (call (.builtin "list.pop") vs)) fun b r1 => lPop_ok h S r1
        · walk_at "e"; split at h
          · rename_i e
            walk_at "e"; obtain ⟨q, h1, h⟩ := bs h
            walk_at "e"; obtain ⟨l, h2, h⟩ := bs h
            walk_at "l"; rw [eq_of_beq e]
            rw [one_ok h1, asA_ok h2] at ra
            walk_at "l"; exact ra.one (P := fun vs => EG g f s ρ st' sv (call (.builtin "sorted") vs)) fun b r1 => lSorted_ok h O S r1
          · walk_at "e"; cases h
theorem C_step (H : Snd g.X r) {c : SV} {args : List SV} {sv : SV} (h : stepC g.X r kd c args st = some (sv, st')) (G : g.Ok) (O : COk g kd f) (S : SR g f ρ st m news s.heap) {fv : Value} {vs : List Value} (rc : VR g.τ ρ c fv) (ra : All2 (VR g.τ ρ) args vs) :
    EG g f s ρ st' sv (call fv vs) := by
  walk_at "e"; cases c with
  | k a => walk_at "e"; cases rc; walk_at "l"; exact callKn_ok H h G O S ra
  | bi id => walk_at "e"; cases rc; walk_at "l"; exact callBi_ok h G O S ra
  | ty T =>
    walk_at "e"; cases rc
    walk_at "e"; obtain ⟨_, h0, h⟩ := bs h
    walk_at "e"; obtain ⟨q, h1, h⟩ := bs h
    walk_at "e"; obtain ⟨l, h2, h⟩ := bs h
    walk_at "l"; rw [eq_of_beq (ck_t h0)]
    rw [one_ok h1, asA_ok h2] at ra
    walk_at "l"; exact ra.one (P := fun vs => EG g f s ρ st' sv (call (.type "list") vs)) fun b r1 => lCopy_ok h S r1
  | _ => walk_at "e"; cases h
end
end NT
end
section
open PySem PySem.W PySem.Calls PyProof.Rows
namespace NT
section
variable {g : Gx} {f : Fx} {ρ : List Addr} {st st' : SS} {m : Str → Option Value} {news : Ld} {s : Shared} {r : Rec} {cs : Scope} {kd : Nat}
noncomputable abbrev Gx.it (g : Gx) (I : Addr) (it : Obj) : Gx := { g with R0 := (I, it) :: g.R0 }
theorem it_ok {I : Addr} {it : Obj} (G : g.Ok) : (g.it I it).Ok := ⟨G.K, G.fc, G.V, G.dk, fun fa args sv hm vs ra led sub lo => G.ext fa args sv hm vs ra led (fun p hp => sub p (.tail _ hp)) lo⟩
theorem it_in (S : SR0 g ρ st m news) {I : Addr} {it : Obj} {x : Str} {sv : SV} {v : Value} {h : Heap} (lowI : @LT.lt Nat _ 1 I) (off : ∀ p ∈ news ++ g.R0, p.1 ≠ I) (r : VR g.τ ρ sv v) (F : Fr f.h₀ f.L h (fun y => if y = x then some v else m y)) (N : News f.h₀ f.L h ((I, it) :: (news ++ g.R0))) :
    SR (g.it I it) f ρ { st with loc := (x, sv) :: st.loc } (fun y => if y = x then some v else m y) news h := by
  have mv : ∀ p : Addr × Obj, p ∈ news ++ g.R0 → p ∈ news ++ (I, it) :: g.R0 := fun p hp => by
    walk_at "e"; rcases List.mem_append.mp hp with hp | hp
    · walk_at "l"; exact List.mem_append_left _ hp
    · walk_at "l"; exact List.mem_append_right _ (.tail _ hp)
  have mv' : ∀ p : Addr × Obj, p ∈ news ++ (I, it) :: g.R0 → p ∈ (I, it) :: (news ++ g.R0) := fun p hp => by
    walk_at "e"; rcases List.mem_append.mp hp with hp | hp
    · walk_at "l"; exact .tail _ (List.mem_append_left _ hp)
    · walk_at "e"; rcases List.mem_cons.mp hp with rfl | hp
      · walk_at "l"; exact .head _
      · walk_at "l"; exact .tail _ (List.mem_append_right _ hp)
  walk_at "l"; refine ⟨F, fun p hp => N p (mv' p hp), ?_, S.led, S.nx, ?_, S.nd, S.up, ?_, ?_, S.le, ?_, List.cons_ne_nil _ _⟩
  · walk_at "l"; intro y sy hy
    dsimp only at hy
    rw [List.lookup_cons] at hy
    walk_at "e"; by_cases e : y = x
    · walk_at "e"; subst e
      rw [beq_self_eq_true] at hy; walk_at "e"; cases hy
      walk_at "l"; exact ⟨_, if_pos rfl, r⟩
    · rw [beq_eq_false_iff_ne.mpr e] at hy
      walk_at "e"; obtain ⟨v', a, b⟩ := S.loc _ _ hy
      walk_at "l"; exact ⟨v', by rw [if_neg e]; exact a, b⟩
  · walk_at "l"; intro p hp z hz
    walk_at "e"; rcases List.mem_cons.mp hz with rfl | hz
    · walk_at "l"; exact fun e => off p (List.mem_append_left _ hp) e.symm
    · walk_at "l"; exact S.off p hp z hz
  · walk_at "l"; intro j o ho
    walk_at "e"; obtain ⟨y, ob, a, b, c⟩ := S.ro j o ho
    walk_at "l"; exact ⟨y, ob, a, .tail _ b, c⟩
  · walk_at "l"; intro z hz
    walk_at "e"; obtain ⟨o, ho⟩ := S.old z hz
    walk_at "l"; exact ⟨o, mv _ ho⟩
  · walk_at "l"; intro p hp
    walk_at "e"; rcases List.mem_cons.mp (mv' p hp) with rfl | hp
    · walk_at "l"; exact lowI
    · walk_at "l"; exact S.low p hp
theorem it_out {ρ₁ : List Addr} {st₁ : SS} {m₁ : Str → Option Value} {news₁ : Ld} {I : Addr} {it : Obj} {h : Heap} (S : SR0 g ρ st m news) (off : ∀ p ∈ news ++ g.R0, p.1 ≠ I) (le : Le ρ ρ₁) (S₁ : SR (g.it I it) f ρ₁ st₁ m₁ news₁ h) : SR0 g ρ₁ st₁ m₁ news₁ ∧ (∀ p ∈ (I, it) :: (news₁ ++ g.R0), p ∈ news₁ ++ (I, it) :: g.R0) ∧ ∀ p ∈ news₁ ++ g.R0, p.1 ≠ I := by
  walk_at "l"; refine ⟨⟨S₁.loc, S₁.led, S₁.nx, fun p hp z hz => S₁.off p hp z (.tail _ hz), S₁.nd, S₁.up, ?_, ?_, S₁.le, ?_, S.ne⟩, ?_, ?_⟩
  · walk_at "l"; intro j o ho
    walk_at "e"; obtain ⟨y, ob, a, b, c⟩ := S.ro j o ho
    walk_at "l"; exact ⟨y, ob, le _ _ a, b, c.mono le⟩
  · walk_at "l"; intro z hz
    walk_at "e"; obtain ⟨o₀, h₀⟩ := S.old z hz
    walk_at "e"; obtain ⟨o, ho⟩ := S₁.old z hz
    walk_at "l"; refine ⟨o, ?_⟩
    walk_at "e"; rcases List.mem_append.mp ho with ho | ho
    · walk_at "l"; exact List.mem_append_left _ ho
    · walk_at "e"; rcases List.mem_cons.mp ho with e | ho
      · walk_at "l"; exact (off _ h₀ (congrArg Prod.fst e : z.1 = I)).elim
      · walk_at "l"; exact List.mem_append_right _ ho
  · walk_at "l"; intro p hp
    walk_at "e"; rcases List.mem_append.mp hp with hp | hp
    · walk_at "l"; exact S₁.low p (List.mem_append_left _ hp)
    · walk_at "l"; exact S.low p (List.mem_append_right _ hp)
  · walk_at "l"; intro p hp
    walk_at "e"; rcases List.mem_cons.mp hp with rfl | hp
    · walk_at "l"; exact List.mem_append_right _ (.head _)
    · walk_at "e"; rcases List.mem_append.mp hp with hp | hp
      · walk_at "l"; exact List.mem_append_left _ hp
      · walk_at "l"; exact List.mem_append_right _ (.tail _ hp)
  · walk_at "l"; intro p hp
    walk_at "e"; rcases List.mem_append.mp hp with hp | hp
    · walk_at "l"; exact fun e => S₁.off p hp _ (.head _) e.symm
    · walk_at "l"; exact off p (List.mem_append_right _ hp)
theorem FOk.it {I : Addr} {it : Obj} (O : FOk g cs kd f) : FOk (g.it I it) cs kd f := ⟨⟨O.B, O.X, O.T, O.hA, O.hf, O.hke, O.hh, O.hd, O.hu, O.env, O.one⟩, O.envo.imp fun zz q => q.imp fun zz q => q.imp fun zz q => q.imp fun zz q => ⟨q.1, fun x sv e h => (q.2 x sv e h).imp fun zz q => q.imp fun zz q => q.imp fun zz q => ⟨q.1, .tail _ q.2.1, q.2.2⟩⟩, O.pass⟩
theorem locals_L (O : FOk g cs kd f) : f.env.locals = f.L := by
  walk_at "e"; obtain ⟨cn, a, ccd, cl, he, _⟩ := O.envo
  walk_at "l"; rw [he]
theorem L_step (H : Snd g.X r) {x : Str} {body : List Stmt} {i n : Nat} (h : stepL r cs kd x body i n st = some st') (G : g.Ok) (O : FOk g cs kd f) (hx : isLocal cs x = true) (S : SR0 g ρ st m news)
    {I : Addr} {tot : Nat} {Q : Flow → Shared → Prop} (lowI : @LT.lt Nat _ 1 I) (off : ∀ p ∈ news ++ g.R0, p.1 ≠ I) (q : ∀ s', Aft g f s ρ st' (fun zz => True) s' → Q .next s') : RangeRest PW g.w f.A f.E f.h₀ f.env x body Q s I 0 tot n i m (news ++ g.R0) := by
  have hL := locals_L O
  walk_at "e"; cases n with
  | zero =>
    walk_at "e"; cases h
    walk_at "l"; refine .zero fun h' tk F' N' => ?_
    rw [hL] at F' N'
    walk_at "l"; exact q _ (Aft.at (.refl _) (S.at F' N') trivial)
  | succ n =>
    walk_at "e"; obtain ⟨⟨fl, st₁⟩, h1, h⟩ := bs h
    walk_at "l"; refine .succ fun t h' tk F' N' => ?_
    walk_at "l"; rw [hL] at F' N' ⊢
    walk_at "e"; cases fl with
    | ret => walk_at "e"; cases h
    | next =>
      walk_at "l"; refine wpAny_mono (H.B h1 (g := g.it I _) rfl (it_ok G) (f := f) (s := { s with heap := h', toks := tk }) O.it (it_in S lowI off ⟨t, by rw [Int.zero_add]; rfl⟩ F' N')) (fun v s' z => ?_) fun zz zz z => z
      walk_at "e"; obtain ⟨ρ₁, m₁, news₁, h₁, tk₁, le, rfl, S₁, rv⟩ := z
      walk_at "e"; cases rv
      walk_at "e"; obtain ⟨S₂, sub, off'⟩ := it_out S off le S₁
      walk_at "l"; exact UnrEnd.intro S₁.F S₁.N (news₁ ++ g.R0) sub off' (H.L h rfl G O hx S₂ lowI off' fun s' z => q s' (z.trans (h := s.heap) (tk := s.toks) le))
theorem VR.det {τ : Vt} {ρ ρ' : List Addr} {sv : SV} {u u' : Value} (hd : det sv = true) (h : VR τ ρ sv u) (le : Le ρ ρ') (h' : VR τ ρ' sv u') : u = u' := by
  walk_at "e"; cases sv with
  | int => walk_at "e"; cases hd
  | str => walk_at "e"; cases hd
  | a i =>
    walk_at "e"; obtain ⟨x, a, rfl⟩ := h
    walk_at "e"; obtain ⟨y, b, rfl⟩ := h'
    rw [le _ _ a] at b; walk_at "e"; cases b; walk_at "l"; rfl
  | _ => walk_at "e"; cases h; cases h'; walk_at "l"; rfl
theorem detL {τ : Vt} {ρ ρ' : List Addr} (le : Le ρ ρ') {vs : List SV} (hd : vs.all det = true) {us us' : List Value} (h : All2 (VR τ ρ) vs us) (h' : All2 (VR τ ρ') vs us') : us = us' := by
  walk_at "l"; induction h generalizing us' with
  | nil => walk_at "e"; cases h'; walk_at "l"; rfl
  | cons a _ ih =>
    rw [List.all_cons, Bool.and_eq_true] at hd
    walk_at "e"; cases h' with
    | cons b hb => walk_at "l"; rw [VR.det hd.1 a le b, ih hd.2 hb]
theorem pair_uniq {x : Addr} {o o' : Obj} {nw : Ld} (h : nw.Pairwise fun p q => q.1 ≠ p.1) (a : (x, o) ∈ nw) (b : (x, o') ∈ nw) : o = o' := by
  walk_at "l"; induction nw with
  | nil => walk_at "l"; nomatch a
  | cons p l ih =>
    have h' := List.pairwise_cons.mp h
    walk_at "e"; rcases List.mem_cons.mp a with d | c
    · walk_at "e"; rcases List.mem_cons.mp b with e | e
      · walk_at "l"; exact congrArg Prod.snd (d.trans e.symm)
      · walk_at "l"; exact (h'.1 _ e (show x = p.1 from congrArg Prod.fst d)).elim
    · walk_at "e"; rcases List.mem_cons.mp b with e | e
      · walk_at "l"; exact (h'.1 _ c (show x = p.1 from congrArg Prod.fst e)).elim
      · walk_at "l"; exact ih h'.2 c e
theorem sameL_ok {o : SO} {p : Option SO} (h : sameL o p = true) : ∃ us n, o = .list us n ∧ p = some (.list us n) ∧ us.all det = true := by
  walk_at "e"; obtain ⟨_, h⟩ := Option.isSome_iff_exists.mp h
  walk_at "e"; obtain ⟨⟨us, n⟩, h1, k1⟩ := bs h
  walk_at "e"; obtain ⟨q, h2, k2⟩ := bs k1
  walk_at "e"; obtain ⟨⟨vs, k⟩, h3, k3⟩ := bs k2
  have h := ck_t k3
  rw [Bool.and_eq_true, Bool.and_eq_true] at h
  walk_at "l"; rw [h2, soL_ok h1, soL_ok h3, eqL_ok h.1.1, Nat.eq_of_beq_eq_true h.1.2]
  walk_at "l"; exact ⟨_, _, rfl, rfl, eqL_ok h.1.1 ▸ h.2⟩
theorem M_step (H : Snd g.X r) {x : Str} {body : List Stmt} {l : Nat} {vs : List SV} (h : stepM r cs kd x body l vs st = some st') (G : g.Ok) (O : FOk g cs kd f) (hx : isLocal cs x = true) (S : SR0 g ρ st m news)
    {I : Addr} {us : List Value} {ax : Addr} {lo : Obj} {Q : Flow → Shared → Prop} (ra : All2 (VR g.τ ρ) vs us) (hl : ρ[l]? = some ax) (hm : (ax, lo) ∈ news) (lowI : @LT.lt Nat _ 1 I) (off : ∀ p ∈ news ++ g.R0, p.1 ≠ I) (q : ∀ s', Aft g f s ρ st' (fun zz => True) s' → Q .next s') : ListRest PW g.w f.A f.E f.h₀ f.env x body Q s I (ax, lo) us m (news ++ g.R0) := by
  have hL := locals_L O
  walk_at "e"; cases vs with
  | nil =>
    walk_at "e"; cases h
    walk_at "e"; cases ra
    walk_at "l"; refine .zero fun h' tk F' N' => ?_
    rw [hL] at F' N'
    walk_at "l"; exact q _ (Aft.at (.refl _) (S.at F' N') trivial)
  | cons =>
    walk_at "e"; obtain ⟨o, h0, k1⟩ := bs h
    walk_at "e"; obtain ⟨⟨fl, st₁⟩, h1, k2⟩ := bs k1
    clear h k1
    walk_at "e"; cases ra with
    | cons r1 r2 =>
      walk_at "l"; refine .succ fun it h' tk hit F' N' => ?_
      walk_at "l"; rw [hL] at F' N' ⊢
      walk_at "e"; cases fl with
      | ret => walk_at "e"; cases k2
      | next =>
        dsimp only at k2
        walk_at "e"; obtain ⟨_, h2, h⟩ := bs k2
        walk_at "e"; obtain ⟨us, n, rfl, h3, hd⟩ := sameL_ok (ck_t h2)
        walk_at "l"; refine wpAny_mono (H.B h1 (g := g.it I it) rfl (it_ok G) (f := f) (s := { s with heap := h', toks := tk }) O.it (it_in S lowI off r1 F' N')) (fun v s' z => ?_) fun zz zz z => z
        walk_at "e"; obtain ⟨ρ₁, m₁, news₁, h₁, tk₁, le, rfl, S₁, rv⟩ := z
        walk_at "e"; cases rv
        walk_at "e"; obtain ⟨S₂, sub, off'⟩ := it_out S off le S₁
        walk_at "e"; obtain ⟨x1, o1, a1, a2, l1, rfl, a3⟩ := S.led.look h0
        rw [hl] at a1; walk_at "e"; cases a1
        have e1 := pair_uniq S.nd hm a2
        walk_at "e"; obtain ⟨x2, o2, b1, b2, l2, rfl, b3⟩ := S₂.led.look h3
        rw [le _ _ hl] at b1; walk_at "e"; cases b1
        have e2 := detL le hd a3 b3
        walk_at "e"; subst e2 e1
        walk_at "l"; exact UnrEnd.intro S₁.F S₁.N (news₁ ++ g.R0) sub off' ⟨List.mem_append_left _ b2, H.M h rfl G O hx S₂ (r2.imp fun zz zz q => q.mono le) (le _ _ hl) b2 lowI off' fun s' z => q s' (z.trans (h := s.heap) (tk := s.toks) le)⟩
theorem svs_ok {τ : Vt} {ρ : List Addr} {l : List Value} : ∀ {vs : List SV}, svs l = some vs → All2 (VR τ ρ) vs l := by
  walk_at "l"; induction l with
  | nil => walk_at "l"; intro vs h; walk_at "e"; cases h; walk_at "l"; exact .nil
  | cons v r ih =>
    walk_at "l"; intro vs h
    walk_at "e"; obtain ⟨s, h1, h⟩ := bs h
    walk_at "e"; obtain ⟨t, h2, h⟩ := bs h
    walk_at "e"; cases h
    walk_at "l"; exact .cons (ofV_ok h1) (ih h2)
theorem nameAt {t : PySem.Expr} (h : nameL cs t = true) : ∃ x p, t = .Name x p ∧ isLocal cs x = true := by
  walk_at "l"; cases t <;> first | exact ⟨_, _, rfl, h⟩ | cases h
theorem names_each {env : Env} : ∀ {ts : List PySem.Expr}, (ts.all (nameL cs)) = true → assignEach ts env = ts.map fun t => (false, assign t env)
  | [], _ => rfl
  | t :: ts, h => by
    rw [List.all_cons, Bool.and_eq_true] at h
    walk_at "e"; obtain ⟨x, p, rfl, _⟩ := nameAt h.1
    walk_at "l"; rw [List.map_cons, ← names_each h.2]
    walk_at "l"; rfl
theorem names_len {env : Env} {ts : List PySem.Expr} (h : (ts.all (nameL cs)) = true) : (assignEach ts env).length = ts.length := by
  walk_at "l"; rw [names_each h, List.length_map]
theorem names_noStar {env : Env} {ts : List PySem.Expr} (h : (ts.all (nameL cs)) = true) : List.findIdx? (fun x => x.1) (assignEach ts env) = none := by
  walk_at "l"; rw [names_each h, List.findIdx?_eq_none_iff]
  walk_at "l"; intro x hx
  walk_at "e"; obtain ⟨t, _, rfl⟩ := List.mem_map.mp hx
  walk_at "l"; rfl
theorem putW0 (O : FOk g cs kd f) {vs : List SV} {us : List Value} (rs : All2 (VR g.τ ρ) vs us) : ∀ (ts : List PySem.Expr) (st : SS) (ρ' : List Addr) (m : Str → Option Value) (news : Ld) (s : Shared), (ts.all (nameL cs)) = true → ts.length = vs.length → Le ρ ρ' → SR g f ρ' st m news s.heap →
    UG g f s ρ' { st with loc := putT ts vs st.loc } (assignInOrder ((assignEach ts f.env).map (·.2)) us) := by
  walk_at "l"; induction rs with
  | nil =>
    walk_at "l"; intro ts st ρ' m news s h hl le S
    walk_at "e"; cases ts with
    | nil => walk_at "l"; exact assignInOrder_nil (Aft.now S trivial)
    | cons => walk_at "e"; cases hl
  | cons r _ ih =>
    walk_at "l"; intro ts st ρ' m news s h hl le S
    walk_at "e"; cases ts with
    | nil => walk_at "e"; cases hl
    | cons t ts =>
      rw [List.all_cons, Bool.and_eq_true] at h
      walk_at "e"; obtain ⟨x, p, rfl, hx⟩ := nameAt h.1
      walk_at "l"; refine assignInOrder_cons (PyProof.Rows.assign_Name ?_)
      walk_at "l"; refine seq (storeW O S hx (r.mono le)) fun zz ρ₁ m₁ news₁ h₁ tk₁ le₁ S₁ zz => ?_
      walk_at "l"; exact wpAny_mono (ih ts _ ρ₁ m₁ news₁ { s with heap := h₁, toks := tk₁ } h.2 (Nat.succ.inj hl) (le.trans le₁) S₁) (fun zz zz q => q.trans le₁) fun zz zz q => q
theorem putW (O : FOk g cs kd f) {ts : List PySem.Expr} {vs : List SV} {us : List Value} (h : (ts.all (nameL cs)) = true) (hl : ts.length = vs.length) (rs : All2 (VR g.τ ρ) vs us) (S : SR g f ρ st m news s.heap) :
    UG g f s ρ { st with loc := putT ts vs st.loc } (assignInOrder ((assignEach ts f.env).map (·.2)) us) := putW0 O rs ts st ρ m news s h hl (.refl _) S
theorem sName_ok (H : Snd g.X r) {x : Str} {xp pos : Pos} {e : PySem.Expr} {fl : SF} (h : sName g.X r cs kd x e st = some (fl, st')) (G : g.Ok) (O : FOk g cs kd f) (S : SR g f ρ st m news s.heap) : SG g f s ρ st' fl (exec (.Assign [.Name x xp] e pos) f.env) := by
  walk_at "e"; obtain ⟨_, h0, h⟩ := bs h
  walk_at "e"; obtain ⟨_, h1, h⟩ := bs h
  walk_at "e"; obtain ⟨⟨a, st₁⟩, h2, h⟩ := bs h
  walk_at "e"; cases h
  walk_at "l"; refine wpAny_Assign_Name (seq (H.E h2 rfl G O S) fun v ρ₁ m₁ news₁ h₁ tk₁ le S₁ rv => ?_) (swaps_no (ck_t h0))
  walk_at "l"; exact wpAny_mono (storeW (s := { s with heap := h₁, toks := tk₁ }) O S₁ (ck_t h1) rv) (fun zz zz q => (q.trans le).imp fun zz zz => rfl) fun zz zz q => q
theorem sAttr_ok (H : Snd g.X r) {o e : PySem.Expr} {attr : Str} {ap pos : Pos} {fl : SF} (h : sAttr g.X r cs kd o attr e st = some (fl, st')) (G : g.Ok) (O : FOk g cs kd f) (S : SR g f ρ st m news s.heap) : SG g f s ρ st' fl (exec (.Assign [.Attribute o attr ap] e pos) f.env) := by
  walk_at "e"; obtain ⟨_, h0, h⟩ := bs h
  walk_at "e"; obtain ⟨⟨a, st₁⟩, h1, h⟩ := bs h
  walk_at "e"; obtain ⟨⟨b, st₂⟩, h2, h⟩ := bs h
  walk_at "e"; obtain ⟨st₃, h3, h⟩ := bs h
  walk_at "e"; cases h
  walk_at "l"; refine plainObj_wpAny_Assign_Attribute (seq (H.E h1 rfl G O S) fun v ρ₁ m₁ news₁ h₁ tk₁ le S₁ rv => ?_) (swaps_no (ck_t h0))
  walk_at "l"; refine seq (s := { s with heap := h₁, toks := tk₁ }) (H.E h2 rfl G O S₁) fun u ρ₂ m₂ news₂ h₂ tk₂ le₂ S₂ ru => ?_
  walk_at "l"; exact wpAny_mono (evSet_ok (s := { s with heap := h₂, toks := tk₂ }) h3 G O.toCOk S₂ ru (rv.mono le₂)) (fun zz zz q => ((q.trans le₂).trans le).imp fun zz zz => rfl) fun zz zz q => q
theorem sTup_ok (H : Snd g.X r) {ts : List PySem.Expr} {e : PySem.Expr} {k : Nat} {tp pos : Pos} {fl : SF} (h : sTup g.X r cs kd ts e st = some (fl, st')) (G : g.Ok) (O : FOk g cs kd f) (S : SR g f ρ st m news s.heap) : SG g f s ρ st' fl (exec (.Assign [.Tuple ts k tp] e pos) f.env) := by
  walk_at "e"; obtain ⟨_, h0, k1⟩ := bs h
  walk_at "e"; obtain ⟨_, h1, k2⟩ := bs k1
  walk_at "e"; obtain ⟨⟨a, st₁⟩, h2, k3⟩ := bs k2
  clear h k1 k2
  have hc : ∃ a b c d, e = .Call a b c d := by
    have := ck_t h0
    walk_at "l"; cases e <;> first | exact ⟨_, _, _, _, rfl⟩ | cases this
  walk_at "e"; obtain ⟨c1, c2, c3, c4, rfl⟩ := hc
  walk_at "e"; obtain ⟨t, h5, k4⟩ := bs k3
  walk_at "e"; obtain ⟨l, h6, k5⟩ := bs k4
  walk_at "e"; obtain ⟨vs, h3, k6⟩ := bs k5
  walk_at "e"; obtain ⟨_, h4, k7⟩ := bs k6
  walk_at "e"; cases k7
  clear k3 k4 k5 k6
  walk_at "e"; obtain ⟨d, n, sl, ho⟩ := tupOf_ok h6
  have h1 := ck_t h1
  walk_at "l"; refine Assign_Tuple (seq (H.E h2 rfl G O S) fun v ρ₁ m₁ news₁ h₁ tk₁ le S₁ rv => ?_) rfl rfl
  rw [asK_ok h5] at rv
  walk_at "e"; cases rv
  have rvs := svs_ok (τ := g.τ) (ρ := ρ₁) h3
  have hlen := Nat.eq_of_beq_eq_true (ck_t h4)
  walk_at "l"; refine unpackK (s := { s with heap := h₁, toks := tk₁ }) S₁.F S₁.N O.X ho rfl rfl O.hh ?_ (names_noStar h1) ?_
  · walk_at "l"; rw [names_len h1, hlen, rvs.length, Array.length_toList]
  · walk_at "l"; intro h' F' N'
    walk_at "l"; exact wpAny_mono (putW (s := { s with heap := h', toks := tk₁ }) O h1 hlen rvs (S₁.heap F' N')) (fun zz zz q => (q.trans (h := h') (tk := tk₁) le).imp fun zz zz => rfl) fun zz zz q => q
theorem ki_setL_ok {τ : Vt} {ρ : List Addr} {sv : SV} {v : Value} (rv : VR τ ρ sv v) {vs : List SV} {us : List Value} (H : All2 (VR τ ρ) vs us) : ∀ {k : Nat}, k < vs.length → ∃ q, ki_setL us k v = some q ∧ All2 (VR τ ρ) (vs.set k sv) q := by
  walk_at "l"; induction H with
  | nil => walk_at "l"; intro k h; exact (Nat.not_lt_zero _ h).elim
  | cons r rs ih =>
    walk_at "l"; intro k h
    walk_at "e"; cases k with
    | zero => walk_at "l"; exact ⟨_, rfl, .cons rv rs⟩
    | succ k =>
      walk_at "e"; obtain ⟨q, h1, h2⟩ := ih (Nat.lt_of_succ_lt_succ h)
      walk_at "l"; exact ⟨_ :: q, by unfold ki_setL; rw [h1], .cons r h2⟩
theorem setItemL (S : SR g f ρ st m news s.heap) {d n : Nat} {k : Int} {vs : List SV} {v dv iv : Value} {sv : SV} {led' : List (Nat × SO)} (h1 : st.led.lookup d = some (.list vs n)) (h2 : decide (0 ≤ k) = true ∧ decide (k < 1000) = true) (h3 : Nat.blt k.toNat vs.length = true)
    (h4 : setLed d (.list (vs.set k.toNat sv) n) st.led = some led') (rd : VR g.τ ρ (.a d) dv) (ri : VR g.τ ρ (.int 0 k) iv) (rv : VR g.τ ρ sv v) :
    UG g f s ρ { st with led := led' } (setItem dv iv v) := by
  walk_at "e"; obtain ⟨y, hy, rfl⟩ := rd
  walk_at "e"; obtain ⟨t, rfl⟩ := ri
  walk_at "e"; obtain ⟨so, x', ob, b1, b2, b3, b4, b5⟩ := upd_ok S h4
  rw [h1] at b1; walk_at "e"; cases b1
  rw [hy] at b2; walk_at "e"; cases b2
  walk_at "e"; obtain ⟨us, rfl, b6⟩ := b4
  walk_at "e"; obtain ⟨q, c1, c2⟩ := ki_setL_ok rv b6 (Nat.le_of_ble_eq_true h3)
  walk_at "e"; obtain ⟨news', u, R, z⟩ := b5 (W.listOf q.toArray n) ⟨_, rfl, c2⟩
  have e0 : g.τ.iv 0 k = k := rfl
  walk_at "l"; rw [e0]
  walk_at "l"; exact ki_set S.F S.N (of_decide_eq_true h2.1) (Int.lt_trans (of_decide_eq_true h2.2) (by decide)) (by rw [List.toList_toArray]; exact c1) u fun h' F' N' => Aft.at (.refl _) (S.upd z R F' N') trivial
theorem putO_ok (G : g.Ok) (O : FOk g cs kd f) (S : SR g f ρ st m news s.heap) {d a : Nat} {k : Int} {so : SO} {v dv iv : Value} {sv : SV} {led' : List (Nat × SO)} (hl : st.led.lookup d = some so) (h : putO g.X st d a k sv so = some led') (rd : VR g.τ ρ (.a d) dv) (ri : VR g.τ ρ (.int a k) iv) (rv : VR g.τ ρ sv v) :
    UG g f s ρ { st with led := led' } (setItem dv iv v) := by
  walk_at "e"; cases so with
  | idict kvs =>
    walk_at "e"; obtain ⟨fo, h4, h⟩ := bs h
    walk_at "e"; obtain ⟨_, h5, h⟩ := bs h
    walk_at "e"; obtain ⟨_, h6, h⟩ := bs h
    rw [Option.isNone_iff_eq_none.mp (ck_t h5)] at h4
    walk_at "l"; exact setItemW G O S hl h4 (ck_t h6) h rd ri rv
  | xdict j => walk_at "l"; exact setItemX G O S hl h rd ri rv
  | list vs n =>
    walk_at "e"; obtain ⟨_, h3, h⟩ := bs h
    walk_at "e"; obtain ⟨_, h4, h⟩ := bs h
    walk_at "e"; obtain ⟨_, h5, h⟩ := bs h
    rw [Nat.eq_of_beq_eq_true (ck_t h3)] at ri
    walk_at "l"; exact setItemL S hl (and_t h4) (ck_t h5) h rd ri rv
  | _ => walk_at "e"; cases h
theorem sSub_ok (H : Snd g.X r) {o i e : PySem.Expr} {ap pos : Pos} {fl : SF} (h : sSub g.X r cs kd o i e st = some (fl, st')) (G : g.Ok) (O : FOk g cs kd f) (S : SR g f ρ st m news s.heap) : SG g f s ρ st' fl (exec (.Assign [.Subscript o i ap] e pos) f.env) := by
  walk_at "e"; obtain ⟨_, h0, h⟩ := bs h
  walk_at "e"; obtain ⟨⟨a, st₁⟩, h1, h⟩ := bs h
  walk_at "e"; obtain ⟨⟨b, st₂⟩, h2, h⟩ := bs h
  walk_at "e"; obtain ⟨⟨c, st₃⟩, h3, h⟩ := bs h
  walk_at "e"; obtain ⟨d, h5, h⟩ := bs h
  walk_at "e"; obtain ⟨⟨ka, kk⟩, h6, h⟩ := bs h
  walk_at "e"; obtain ⟨so, hl, h⟩ := bs h
  walk_at "e"; obtain ⟨led', h7, h⟩ := bs h
  walk_at "e"; cases h
  walk_at "l"; refine wpAny_Assign_Subscript (seq (H.E h1 rfl G O S) fun v ρ₁ m₁ news₁ h₁ tk₁ le S₁ rv => ?_) (swaps_no (ck_t h0))
  walk_at "l"; refine seq (s := { s with heap := h₁, toks := tk₁ }) (H.E h2 rfl G O S₁) fun u ρ₂ m₂ news₂ h₂ tk₂ le₂ S₂ ru => ?_
  walk_at "l"; refine seq (s := { s with heap := h₂, toks := tk₂ }) (H.E h3 rfl G O S₂) fun z ρ₃ m₃ news₃ h₃ tk₃ le₃ S₃ rz => ?_
  rw [asA_ok h5] at ru
  rw [asI_ok h6] at rz
  walk_at "l"; exact wpAny_mono (putO_ok (s := { s with heap := h₃, toks := tk₃ }) G O S₃ hl h7 (ru.mono le₃) rz ((rv.mono le₂).mono le₃)) (fun zz zz q => (((q.trans le₃).trans le₂).trans le).imp fun zz zz => rfl) fun zz zz q => q
theorem isAdd_ok {op : Operator} (h : isAdd op = true) : op = .Add := by
  walk_at "e"; cases op <;> cases h
  walk_at "l"; rfl
theorem nameE_ok {t : PySem.Expr} {x : Str} (h : nameE t = some x) : ∃ p, t = .Name x p := by
  walk_at "e"; cases t with
  | Name => walk_at "e"; cases h; walk_at "l"; exact ⟨_, rfl⟩
  | _ => walk_at "e"; cases h
theorem callE_ok {t : PySem.Expr} {q : PySem.Expr × List PySem.Expr × List Keyword} (h : callE t = some q) : ∃ p, t = .Call q.1 q.2.1 q.2.2 p := by
  walk_at "e"; cases t with
  | Call => walk_at "e"; cases h; walk_at "l"; exact ⟨_, rfl⟩
  | _ => walk_at "e"; cases h
theorem sAug_ok (H : Snd g.X r) {o e : PySem.Expr} {attr : Str} {op : Operator} {ap pos : Pos} {fl : SF} (h : sAug g.X r cs kd o attr op e st = some (fl, st')) (G : g.Ok) (O : FOk g cs kd f) (S : SR g f ρ st m news s.heap) : SG g f s ρ st' fl (exec (.AugAssign (.Attribute o attr ap) op e pos) f.env) := by
  walk_at "e"; obtain ⟨_, h0, h⟩ := bs h
  walk_at "e"; obtain ⟨⟨a, st₁⟩, h1, h⟩ := bs h
  walk_at "e"; obtain ⟨old, h2, h⟩ := bs h
  walk_at "e"; obtain ⟨⟨oa, ok⟩, h6, h⟩ := bs h
  walk_at "e"; obtain ⟨⟨b, st₂⟩, h3, h⟩ := bs h
  walk_at "e"; obtain ⟨⟨va, vk⟩, h7, h⟩ := bs h
  walk_at "e"; obtain ⟨nw, h4, h⟩ := bs h
  walk_at "e"; obtain ⟨st₃, h5, h⟩ := bs h
  walk_at "e"; cases h
  walk_at "e"; cases isAdd_ok (ck_t h0)
  walk_at "l"; refine wpAny_AugAssign_AttributeAny (seq (H.E h1 rfl G O S) fun v ρ₁ m₁ news₁ h₁ tk₁ le S₁ rv => ?_)
  walk_at "l"; refine evAttr_ok (s := { s with heap := h₁, toks := tk₁ }) h2 G O.toCOk S₁ rv fun w rw' => ?_
  walk_at "l"; refine seq (s := { s with heap := h₁, toks := tk₁ + 1 }) (H.E h3 rfl G O S₁) fun u ρ₂ m₂ news₂ h₂ tk₂ le₂ S₂ ru => ?_
  rw [asI_ok h6] at rw'
  rw [asI_ok h7] at ru
  walk_at "e"; obtain ⟨t, rfl⟩ := rw'
  walk_at "e"; obtain ⟨t', rfl⟩ := ru
  walk_at "l"; refine iadd_int ?_
  walk_at "l"; exact wpAny_mono (evSet_ok (s := { s with heap := h₂, toks := tk₂ + 1 }) h5 G O.toCOk S₂ (rv.mono le₂) (addI_ok h4 _)) (fun zz zz q => ((q.trans le₂).trans le).imp fun zz zz => rfl) fun zz zz q => q
theorem forOf_ok {t it n : PySem.Expr} {orelse : List Stmt} {x rg : Str} (h : forOf t it orelse = some (x, rg, n)) : ∃ xp rp cp, t = .Name x xp ∧ it = .Call (.Name rg rp) [n] [] cp ∧ orelse = [] := by
  walk_at "e"; obtain ⟨_, h0, k0⟩ := bs h
  walk_at "e"; obtain ⟨y, h1, k1⟩ := bs k0
  walk_at "e"; obtain ⟨⟨fn, a, k⟩, h2, k2⟩ := bs k1
  walk_at "e"; obtain ⟨_, h3, k3⟩ := bs k2
  walk_at "e"; obtain ⟨r, h4, k4⟩ := bs k3
  walk_at "e"; obtain ⟨n', h5, k5⟩ := bs k4
  walk_at "e"; cases k5
  clear h k0 k1 k2 k3 k4
  walk_at "e"; obtain ⟨xp, rfl⟩ := nameE_ok h1
  walk_at "e"; obtain ⟨cp, rfl⟩ := callE_ok h2
  walk_at "e"; obtain ⟨rp, h4⟩ := nameE_ok h4
  have h4 : fn = _ := h4
  walk_at "l"; exact ⟨xp, rp, cp, rfl, by rw [h4, one_ok h5, List.isEmpty_iff.mp (ck_t h3)], List.isEmpty_iff.mp (ck_t h0)⟩
theorem isGl_ok {x : Str} (h : isGl cs x = true) : cs.names.lookup x = some .globalImplicit := by
  unfold isGl at h
  walk_at "l"; cases q : cs.names.lookup x with
  | none => rw [q] at h; cases h
  | some k => rw [q] at h; walk_at "l"; cases k <;> first | rfl | cases h
theorem noGl_ok {o : Option (Option Value)} (h : noGl o = true) : o = some none := by
  walk_at "e"; cases o with
  | none => walk_at "e"; cases h
  | some o => walk_at "e"; cases o with
    | none => walk_at "l"; rfl
    | some => walk_at "e"; cases h
theorem rangeName {rg : Str} {rp : Pos} (O : FOk g cs kd f) (S : SR g f ρ st m news s.heap) (h1 : (rg == "range") = true) (h3 : isGl cs rg = true) (h4 : noGl (nsIn g.X.K mainGlobals rg) = true) {Q : Value → Shared → Prop} (q : Q (Value.type "range") s) : WP g f (eval (.Name rg rp) f.env) Q s := by
  walk_at "e"; obtain ⟨cn, ad, ccd, cl, he, _⟩ := O.envo
  have hk := O.hke
  walk_at "l"; unfold WP
  walk_at "l"; rw [he] at hk ⊢
  walk_at "e"; cases eq_of_beq h1
  walk_at "l"; exact nameX_B (cl := cl) S.F O.X (topRead_of O.T) (noGl_ok h4) boot_range (by decide) q hk (isGl_ok h3) (by decide)
theorem sFor_ok (H : Snd g.X r) {x rg : Str} {n : PySem.Expr} {body : List Stmt} {xp rp cp pos : Pos} {fl : SF} (h : sFor g.X r cs kd x rg n body st = some (fl, st')) (G : g.Ok) (O : FOk g cs kd f) (S : SR g f ρ st m news s.heap) : SG g f s ρ st' fl (exec (.For (.Name x xp) (.Call (.Name rg rp) [n] [] cp) body [] pos) f.env) := by
  walk_at "e"; obtain ⟨_, h0, h⟩ := bs h
  walk_at "e"; obtain ⟨_, h1, h⟩ := bs h
  walk_at "e"; obtain ⟨_, h2, h⟩ := bs h
  walk_at "e"; obtain ⟨_, h3, h⟩ := bs h
  walk_at "e"; obtain ⟨_, h4, h⟩ := bs h
  walk_at "e"; obtain ⟨⟨a, st₁⟩, h5, h⟩ := bs h
  walk_at "e"; obtain ⟨k, h8, h⟩ := bs h
  walk_at "e"; obtain ⟨_, h6, h⟩ := bs h
  walk_at "e"; obtain ⟨st₂, h7, h⟩ := bs h
  walk_at "e"; cases h
  have h6 := ck_t h6
  rw [Bool.and_eq_true, decide_eq_true_eq] at h6
  walk_at "e"; obtain ⟨cn, ad, ccd, cl, he, _⟩ := O.envo
  have hL : f.env.locals = f.L := by rw [he]
  have F := S.F
  rw [← hL] at F
  have hke := O.hke
  walk_at "l"; refine For_invVF F ?_ ?_ ?_ (fun zz => rfl) O.pass
  · walk_at "l"; rw [he]; exact isLocal_ok (ck_t h0)
  · walk_at "l"; rw [hke]; rfl
  · walk_at "l"; refine Call_ (rangeName O S (ck_t h1) (ck_t h3) (ck_t h4) ?_) rfl
    walk_at "l"; refine Pv.callWith_type1 ?_ (plain_star (ck_t h2)) rfl
    walk_at "l"; refine args_cons (seq (H.E h5 rfl G O S) fun v ρ₁ m₁ news₁ h₁ tk₁ le S₁ rv => args_nil ?_) (plain_star (ck_t h2))
    rw [asZ_ok h8] at rv
    walk_at "e"; obtain ⟨t, rfl⟩ := rv
    walk_at "l"; refine range1_rows (s := { s with heap := h₁, toks := tk₁ }) S₁.F S₁.N fun h' tk t₁ u₁ v₁ hr F' N' zz => ?_
    have e0 : g.τ.iv 0 k = k := rfl
    rw [e0] at hr
    have F'' := F'
    have N'' := N'
    rw [← hL] at F'' N''
    walk_at "l"; refine iter_rangeUnr (n := k.toNat) O.hh hr h6.2 ?_ F'' N'' fun I lt => ?_
    · have hk0 := h6.1
      walk_at "l"; unfold Builtin.Range.rangeSize
      walk_at "l"; rw [if_pos (by decide)]
      walk_at "l"; split <;> lia
    · walk_at "l"; exact H.L h7 rfl G O (ck_t h0) S₁.to0 (S₁.lowOf lt) (fun p hp => Nat.ne_of_lt (lt p hp)) fun s' q => (Aft.trans (s := s) le q).imp fun zz zz => rfl
theorem sForL_ok (H : Snd g.X r) {x : Str} {it : PySem.Expr} {body : List Stmt} {xp pos : Pos} {fl : SF} (h : sForL g.X r cs kd x it body st = some (fl, st')) (G : g.Ok) (O : FOk g cs kd f) (S : SR g f ρ st m news s.heap) : SG g f s ρ st' fl (exec (.For (.Name x xp) it body [] pos) f.env) := by
  walk_at "e"; obtain ⟨_, h0, h⟩ := bs h
  walk_at "e"; obtain ⟨_, h1, h⟩ := bs h
  walk_at "e"; obtain ⟨⟨o, st₁⟩, h2, h⟩ := bs h
  walk_at "e"; obtain ⟨l, h5, h⟩ := bs h
  walk_at "e"; obtain ⟨so, hl, h⟩ := bs h
  walk_at "e"; obtain ⟨⟨vs, n⟩, h6, h⟩ := bs h
  walk_at "e"; obtain ⟨_, h3, h⟩ := bs h
  walk_at "e"; obtain ⟨st₂, h4, h⟩ := bs h
  walk_at "e"; cases h
  have hL := locals_L O
  have F := S.F
  rw [← hL] at F
  have hke := O.hke
  walk_at "l"; refine For_invVF F ?_ (by rw [hke]; rfl) ?_ ?_ O.pass
  · walk_at "e"; obtain ⟨cn, ad, ccd, cl, he, _⟩ := O.envo
    walk_at "l"; rw [he]; exact isLocal_ok (ck_t h0)
  · walk_at "l"; refine seq (H.E h2 rfl G O S) fun v ρ₁ m₁ news₁ h₁ tk₁ le S₁ rv => ?_
    rw [soL_ok h6] at hl
    rw [asA_ok h5] at rv
    walk_at "e"; obtain ⟨ax, hax, rfl⟩ := rv
    walk_at "e"; obtain ⟨x1, o1, a1, a2, l1, rfl, a3⟩ := S₁.led.look hl
    rw [hax] at a1; walk_at "e"; cases a1
    have F₁ := S₁.F
    have N₁ := S₁.N
    rw [← hL] at F₁ N₁
    walk_at "l"; exact iter_listUnr (s := { s with heap := h₁, toks := tk₁ }) O.hh F₁ N₁ (List.mem_append_left _ a2) rfl rfl fun I lt => H.M h4 rfl G O (ck_t h0) S₁.to0 a3 hax a2 (S₁.lowOf lt) (fun p hp => Nat.ne_of_lt (lt p hp)) fun s' q => (q.trans (h := h₁) (tk := tk₁) le).imp fun zz zz => rfl
  · have h1 := ck_t h1
    walk_at "l"; intro y
    walk_at "l"; cases it <;> first | rfl | cases h1
theorem sForV_ok (H : Snd g.X r) {t it : PySem.Expr} {body orelse : List Stmt} {pos : Pos} {fl : SF} (h : sForV g.X r cs kd t it body orelse st = some (fl, st')) (G : g.Ok) (O : FOk g cs kd f) (S : SR g f ρ st m news s.heap) : SG g f s ρ st' fl (exec (.For t it body orelse pos) f.env) := by
  walk_at "e"; obtain ⟨_, h0, h⟩ := bs h
  walk_at "e"; obtain ⟨x, h1, h⟩ := bs h
  walk_at "l"; rw [List.isEmpty_iff.mp (ck_t h0)]
  walk_at "e"; obtain ⟨p, rfl⟩ := nameE_ok h1
  walk_at "l"; exact sForL_ok H h G O S
theorem sForAny_ok (H : Snd g.X r) {t it : PySem.Expr} {body orelse : List Stmt} {pos : Pos} {fl : SF} (h : sForU g.X r cs kd t it body orelse st = some (fl, st')) (G : g.Ok) (O : FOk g cs kd f) (S : SR g f ρ st m news s.heap) : SG g f s ρ st' fl (exec (.For t it body orelse pos) f.env) := by
  have h : (match forOf t it orelse with | some q => (_ : Option (SF × SS)) | none => (_ : Option (SF × SS))) = some (fl, st') := h
  walk_at "l"; cases hf : forOf t it orelse with
  | some q =>
    rw [hf] at h
    walk_at "e"; obtain ⟨_, _, k⟩ := bs h
    clear h
    walk_at "e"; obtain ⟨xp, rp, cp, rfl, rfl, rfl⟩ := forOf_ok hf
    walk_at "l"; exact sFor_ok H k G O S
  | none =>
    rw [hf] at h
    walk_at "l"; exact sForV_ok H h G O S
theorem S_step (H : Snd g.X r) {x : Stmt} {fl : SF} (h : stepS g.X r cs kd x st = some (fl, st')) (G : g.Ok) (O : FOk g cs kd f) (S : SR g f ρ st m news s.heap) : SG g f s ρ st' fl (exec x f.env) := by
  have hi : interactive f.env = false := by
    walk_at "l"; unfold interactive
    walk_at "l"; rw [O.hke]; rfl
  walk_at "e"; cases x with
  | Expr e pos =>
    walk_at "e"; obtain ⟨_, h0, h⟩ := bs h
    walk_at "e"; obtain ⟨⟨a, st₁⟩, h1, h⟩ := bs h
    walk_at "e"; cases h
    walk_at "l"; exact wpAny_Expr_any (seq (H.E h1 rfl G O S) fun v ρ₁ m₁ news₁ h₁ tk₁ le S₁ rv => Aft.at le S₁ rfl) hi (swaps_no (ck_t h0))
  | Return e pos => walk_at "e"; cases e with
    | none => walk_at "e"; cases h
    | some e =>
      walk_at "e"; obtain ⟨⟨a, st₁⟩, h1, h⟩ := bs h
      walk_at "e"; cases h
      walk_at "l"; exact wpAny_Return_some (seq (H.E h1 rfl G O S) fun v ρ₁ m₁ news₁ h₁ tk₁ le S₁ rv => Aft.at le S₁ ⟨v, rfl, rv⟩)
  | If t b o pos =>
    walk_at "e"; obtain ⟨⟨c, st₁⟩, h1, h⟩ := bs h
    walk_at "l"; refine wpAny_If (seq (H.T h1 rfl G O S rfl) fun v ρ₁ m₁ news₁ h₁ tk₁ le S₁ rv => ?_)
    walk_at "e"; subst rv
    walk_at "e"; cases v with
    | true => walk_at "l"; exact ite_pos rfl (wpAny_mono (H.B h rfl G O (s := { s with heap := h₁, toks := tk₁ }) S₁) (fun zz zz q => q.trans le) fun zz zz q => q)
    | false => walk_at "l"; exact ite_neg (by decide) (wpAny_mono (H.B h rfl G O (s := { s with heap := h₁, toks := tk₁ }) S₁) (fun zz zz q => q.trans le) fun zz zz q => q)
  | Assign ts e pos => walk_at "e"; cases ts with
    | nil => walk_at "e"; cases h
    | cons t ts => walk_at "e"; cases ts with
      | cons => walk_at "e"; cases h
      | nil => walk_at "e"; cases t with
        | Name x p => walk_at "l"; exact sName_ok H h G O S
        | Attribute o a p => walk_at "l"; exact sAttr_ok H h G O S
        | Tuple l k p => walk_at "l"; exact sTup_ok H h G O S
        | Subscript o i p => walk_at "l"; exact sSub_ok H h G O S
        | _ => walk_at "e"; cases h
  | AugAssign t op e pos => walk_at "e"; cases t with
    | Attribute o a p => walk_at "l"; exact sAug_ok H h G O S
    | _ => walk_at "e"; cases h
  | For t it body orelse pos => walk_at "l"; exact sForAny_ok H h G O S
  | _ => walk_at "e"; cases h
theorem none_some {α : Type} {a : α} {P : Prop} (h : (none : Option α) = some a) : P := nomatch h
theorem noR_ok {X : Sx} : Snd X noR := ⟨fun h => none_some h, fun h => none_some h, fun h => none_some h, fun h => none_some h, fun h => none_some h, fun h => none_some h, fun h => none_some h, fun h => none_some h⟩
theorem stepR_ok {X : Sx} {r : Rec} (H : Snd X r) : Snd X (stepR X r) where
  E h := fun e G O S => by subst e; exact E_step H h G O S
  T h := fun e G O S zz hw => by subst e; exact T_step H h G O S hw
  A h := fun e G O S pos => by subst e; exact A_step H h G O S pos
  S h := fun e G O S => by subst e; exact S_step H h G O S
  B h := fun e G O S => by subst e; exact B_step H h G O S
  C h := fun e G O S zz zz rc ra => by subst e; exact C_step H h G O S rc ra
  L h := fun e G O hx S zz zz zz lo off q => by subst e; exact L_step H h G O hx S lo off q
  M h := fun e G O hx S zz zz zz zz zz ra hl hm lo off q => by subst e; exact M_step H h G O hx S ra hl hm lo off q
theorem recN_ok {X : Sx} : ∀ n, Snd X (recN X n)
  | 0 => noR_ok
  | n + 1 => stepR_ok (recN_ok n)
end
end NT
end
section
open PySem PySem.W PySem.Calls PyProof.Rows
namespace NT
noncomputable section
structure MS where
  (tops lim lib asg steps calls deep mode node scope proc vals frame : SV)
noncomputable def mS (s : MS) : List (Str × SV) := [("tops", s.tops), ("limit", s.lim), ("library", s.lib), ("assigned", s.asg), ("steps", s.steps), ("calls", s.calls), ("deepest", s.deep), ("mode", s.mode), ("node", s.node), ("scope", s.scope), ("procedure", s.proc), ("values", s.vals), ("frame", s.frame)]
structure TI where
  fc : Facts
  ro : List (Nat × SO)
  dk : List (Nat × (Nat × Int) × SV)
  ext : List (Nat × List SV × SV)
  sm : MS
  nx : Nat
structure TO where
  nl : List (Nat × SO)
  sm : MS
  dv : SO
  nx : Nat
noncomputable def TI.X (i : TI) (P : Params) : Sx := ⟨K P, i.fc, i.ro, i.dk, i.ext, []⟩
noncomputable def loopOf (K : Frag) : Option (Scope × PySem.Expr × List Stmt) := do
  let o ← K.lookup 1057
  let d ← fnOfD o
  let b ← stmtsOf d.body
  some (d.scope, sKid (nth b 0) 0, sBody (nth b 0))
noncomputable def turnC (X : Sx) (n kd : Nat) (cs : Scope) (t : PySem.Expr) (b : List Stmt) (st : SS) : Option SS := do
  let (c, st) ← (recN X n).T cs kd t st
  ck c
  let (f, st) ← (recN X n).B cs kd b st
  match f with
  | .next => some st
  | .ret _ => none
noncomputable def turn (X : Sx) (n kd : Nat) (st : SS) : Option SS := match loopOf X.K with
  | some (cs, t, b) => turnC X n kd cs t b st
  | none => none
noncomputable def TI.go (P : Params) (i : TI) : Option SS := turn (i.X P) 200 60 ⟨[("self", .a 0)], [(1, .dict (mS i.sm) 13), (2, .xdict 0)], i.nx⟩
noncomputable def TO.st (o : TO) : SS := ⟨[("self", .a 0)], o.nl ++ [(1, .dict (mS o.sm) 13), (2, o.dv)], o.nx⟩
noncomputable def fcP (j v : Nat) : Facts := match v with
  | 0 => [(.GtE, (1, 0), (0, 6000), false), (.Gt, (0, 1), (3, 0), true)]
  | 1 => [(.GtE, (1, 0), (0, 6000), false), (.Gt, (0, 1), (3, 0), false)]
  | 2 => [(.GtE, (1, 0), (0, 6000), false), (.Gt, (j, 1), (3, 0), true)]
  | _ => [(.GtE, (1, 0), (0, 6000), false), (.Gt, (j, 1), (3, 0), false)]
noncomputable def frP (a v : Nat) : SV := match v with
  | 0 => .none
  | 1 => .none
  | _ => .a a
noncomputable def roP (a j v : Nat) : List (Nat × SO) := match v with
  | 0 => []
  | 1 => []
  | _ => [(a, .inst 910 (a + 1)), (a + 1, .dict [("kind", .v 8), ("node", .v 9), ("scope", .v 10), ("done", .v 11), ("outer", .v 12), ("depth", .int j 0)] 6)]
noncomputable def depP (j v : Nat) : SV := match v with
  | 0 => .int 0 1
  | 1 => .int 0 1
  | _ => .int j 1
noncomputable def deepP (j v : Nat) : SV := match v with
  | 0 => .int 0 1
  | 1 => .int 3 0
  | 2 => .int j 1
  | _ => .int 3 0
noncomputable def ti_const : TI := ⟨[(.GtE, (1, 0), (0, 6000), false)], [(0, .inst 1165 1), (5, .inst 557 6), (6, .dict [("value", .v 13)] 1)], [], [], ⟨.v 0, .int 0 6000, .v 1, .v 2, .int 1 0, .int 2 0, .int 3 0, .int 0 0, .a 5, .v 4, .v 5, .v 6, .v 7⟩, 7⟩
noncomputable def ti_lam : TI := ⟨[(.GtE, (1, 0), (0, 6000), false)], [(0, .inst 1165 1), (5, .inst 708 6), (6, .dict [("label", .v 13), ("params", .v 14), ("rest", .v 15), ("body", .v 16)] 4), (7, .inst 997 8), (8, .dict [("store", .v 17)] 1)], [], [], ⟨.v 0, .int 0 6000, .a 7, .v 2, .int 1 0, .int 2 0, .int 3 0, .int 0 0, .a 5, .v 4, .v 5, .v 6, .v 7⟩, 9⟩
noncomputable def ti_ite (v : Nat) : TI := ⟨fcP 4 v, roP 3 4 v ++ [(0, .inst 1165 1), (5, .inst 661 6), (6, .dict [("test", .v 13), ("yes", .v 14), ("no", .v 15)] 3)], [], [], ⟨.v 0, .int 0 6000, .v 1, .v 2, .int 1 0, .int 2 0, .int 3 0, .int 0 0, .a 5, .v 4, .v 5, .v 6, frP 3 v⟩, 7⟩
noncomputable def ti_setg (v : Nat) : TI := ⟨fcP 4 v, roP 3 4 v ++ [(0, .inst 1165 1), (5, .inst 628 6), (6, .dict [("symbol", .v 13), ("value", .v 14)] 2)], [], [], ⟨.v 0, .int 0 6000, .v 1, .v 2, .int 1 0, .int 2 0, .int 3 0, .int 0 0, .a 5, .v 4, .v 5, .v 6, frP 3 v⟩, 7⟩
noncomputable def ti_call (v : Nat) : TI := ⟨fcP 4 v, roP 3 4 v ++ [(0, .inst 1165 1), (5, .inst 741 6), (6, .dict [("operator", .v 13), ("operands", .v 14)] 2)], [], [], ⟨.v 0, .int 0 6000, .v 1, .v 2, .int 1 0, .int 2 0, .int 3 0, .int 0 0, .a 5, .v 4, .v 5, .v 6, frP 3 v⟩, 7⟩
noncomputable def ti_seq (v : Nat) : TI := ⟨fcP 4 v, roP 3 4 v ++ [(0, .inst 1165 1), (5, .inst 774 6), (6, .dict [("items", .a 7)] 1), (7, .list [.v 13, .v 14] 0)], [], [], ⟨.v 0, .int 0 6000, .v 1, .v 2, .int 1 0, .int 2 0, .int 3 0, .int 0 0, .a 5, .v 4, .v 5, .v 6, frP 3 v⟩, 8⟩
noncomputable def ti_glob : TI := ⟨[(.GtE, (1, 0), (0, 6000), false)], [(0, .inst 1165 1), (5, .inst 595 6), (6, .dict [("symbol", .int 5 0)] 1), (7, .inst 854 8), (8, .dict [("table", .v 13), ("values", .a 2)] 2)], [(0, (5, 0), .v 14)], [], ⟨.a 7, .int 0 6000, .v 1, .v 2, .int 1 0, .int 2 0, .int 3 0, .int 0 0, .a 5, .v 4, .v 5, .v 6, .v 7⟩, 9⟩
noncomputable def ti_loc : TI := ⟨[(.GtE, (1, 0), (0, 6000), false)], [(0, .inst 1165 1), (5, .inst 576 6), (6, .dict [("number", .int 0 1)] 1), (7, .inst 882 8), (8, .dict [("outer", .none), ("values", .a 9)] 2), (9, .idict [((0, 1), .a 10)]), (10, .inst 938 11)], [], [(893, [.v 4, .int 0 1], .a 7)], ⟨.v 0, .int 0 6000, .v 1, .v 2, .int 1 0, .int 2 0, .int 3 0, .int 0 0, .a 5, .v 4, .v 5, .v 6, .v 7⟩, 12⟩
noncomputable def ti_hseq : TI := ⟨[(.GtE, (1, 0), (0, 6000), false)], [(0, .inst 1165 1), (3, .inst 910 4), (4, .dict [("kind", .int 0 3), ("node", .a 6), ("scope", .v 10), ("done", .a 8), ("outer", .v 8), ("depth", .int 4 0)] 6), (5, .list [.v 15] 0), (6, .inst 774 7), (7, .dict [("items", .a 9)] 1), (8, .list [.int 0 0] 0), (9, .list [.v 13, .v 14] 0)], [], [], ⟨.v 0, .int 0 6000, .v 1, .v 2, .int 1 0, .int 2 0, .int 3 0, .int 0 2, .v 3, .v 4, .v 5, .a 5, .a 3⟩, 10⟩
noncomputable def ti_htestT : TI := ⟨[(.GtE, (1, 0), (0, 6000), false)], [(0, .inst 1165 1), (3, .inst 910 4), (4, .dict [("kind", .int 0 0), ("node", .a 6), ("scope", .v 10), ("done", .v 11), ("outer", .v 8), ("depth", .int 4 0)] 6), (5, .list [.bool true] 0), (6, .inst 661 7), (7, .dict [("test", .v 13), ("yes", .v 14), ("no", .v 15)] 3)], [], [], ⟨.v 0, .int 0 6000, .v 1, .v 2, .int 1 0, .int 2 0, .int 3 0, .int 0 2, .v 3, .v 4, .v 5, .a 5, .a 3⟩, 8⟩
noncomputable def ti_htestF : TI := ⟨[(.GtE, (1, 0), (0, 6000), false)], [(0, .inst 1165 1), (3, .inst 910 4), (4, .dict [("kind", .int 0 0), ("node", .a 6), ("scope", .v 10), ("done", .v 11), ("outer", .v 8), ("depth", .int 4 0)] 6), (5, .list [.bool false] 0), (6, .inst 661 7), (7, .dict [("test", .v 13), ("yes", .v 14), ("no", .v 15)] 3)], [], [], ⟨.v 0, .int 0 6000, .v 1, .v 2, .int 1 0, .int 2 0, .int 3 0, .int 0 2, .v 3, .v 4, .v 5, .a 5, .a 3⟩, 8⟩
noncomputable def ti_hasg : TI := ⟨[(.GtE, (1, 0), (0, 6000), false)], [(0, .inst 1165 1), (3, .inst 910 4), (4, .dict [("kind", .int 0 1), ("node", .a 6), ("scope", .v 10), ("done", .v 11), ("outer", .v 8), ("depth", .int 4 0)] 6), (5, .list [.v 15] 0), (6, .inst 628 7), (7, .dict [("symbol", .int 5 0), ("value", .v 13)] 2), (8, .inst 854 9), (9, .dict [("table", .v 14), ("values", .a 2)] 2)], [(0, (5, 0), .v 16)], [], ⟨.a 8, .int 0 6000, .v 1, .v 2, .int 1 0, .int 2 0, .int 3 0, .int 0 2, .v 3, .v 4, .v 5, .a 5, .a 3⟩, 10⟩
noncomputable def ti_hcons : TI := ⟨[(.GtE, (1, 0), (0, 6000), false)], [(0, .inst 1165 1), (3, .inst 910 4), (4, .dict [("kind", .int 0 5), ("node", .v 10), ("scope", .v 11), ("done", .a 6), ("outer", .v 8), ("depth", .int 4 0)] 6), (5, .list [.v 15] 0), (6, .list [.v 13] 0)], [], [], ⟨.v 0, .int 0 6000, .v 1, .v 2, .int 1 0, .int 2 0, .int 3 0, .int 0 2, .v 3, .v 4, .v 5, .a 5, .a 3⟩, 7⟩
noncomputable def ti_hops0 : TI := ⟨[(.GtE, (1, 0), (0, 6000), false)], [(0, .inst 1165 1), (3, .inst 910 4), (4, .dict [("kind", .int 0 2), ("node", .a 8), ("scope", .v 10), ("done", .a 11), ("outer", .v 8), ("depth", .int 4 0)] 6), (5, .list [.v 15] 0), (8, .inst 741 9), (9, .dict [("operator", .v 13), ("operands", .a 10)] 2), (10, .list [] 0), (11, .list [] 0)], [], [], ⟨.v 0, .int 0 6000, .v 1, .v 2, .int 1 0, .int 2 0, .int 3 0, .int 0 2, .v 3, .v 4, .v 5, .a 5, .a 3⟩, 12⟩
noncomputable def ti_hops1a (v : Nat) : TI := ⟨fcP 6 v, roP 6 6 v ++ [(0, .inst 1165 1), (3, .inst 910 4), (4, .dict [("kind", .int 0 2), ("node", .a 8), ("scope", .v 19), ("done", .a 11), ("outer", frP 6 v), ("depth", .int 4 0)] 6), (5, .list [.v 15] 0), (8, .inst 741 9), (9, .dict [("operator", .v 13), ("operands", .a 10)] 2), (10, .list [.v 20] 0), (11, .list [] 0)], [], [], ⟨.v 0, .int 0 6000, .v 1, .v 2, .int 1 0, .int 2 0, .int 3 0, .int 0 2, .v 3, .v 4, .v 5, .a 5, .a 3⟩, 12⟩
noncomputable def ti_hops1b : TI := ⟨[(.GtE, (1, 0), (0, 6000), false)], [(0, .inst 1165 1), (3, .inst 910 4), (4, .dict [("kind", .int 0 2), ("node", .a 8), ("scope", .v 10), ("done", .a 11), ("outer", .v 8), ("depth", .int 4 0)] 6), (5, .list [.v 15] 0), (8, .inst 741 9), (9, .dict [("operator", .v 13), ("operands", .a 10)] 2), (10, .list [.v 20] 0), (11, .list [.v 22] 0)], [], [], ⟨.v 0, .int 0 6000, .v 1, .v 2, .int 1 0, .int 2 0, .int 3 0, .int 0 2, .v 3, .v 4, .v 5, .a 5, .a 3⟩, 12⟩
noncomputable def ti_hops2a (v : Nat) : TI := ⟨fcP 6 v, roP 6 6 v ++ [(0, .inst 1165 1), (3, .inst 910 4), (4, .dict [("kind", .int 0 2), ("node", .a 8), ("scope", .v 19), ("done", .a 11), ("outer", frP 6 v), ("depth", .int 4 0)] 6), (5, .list [.v 15] 0), (8, .inst 741 9), (9, .dict [("operator", .v 13), ("operands", .a 10)] 2), (10, .list [.v 20, .v 21] 0), (11, .list [] 0)], [], [], ⟨.v 0, .int 0 6000, .v 1, .v 2, .int 1 0, .int 2 0, .int 3 0, .int 0 2, .v 3, .v 4, .v 5, .a 5, .a 3⟩, 12⟩
noncomputable def ti_hops2b (v : Nat) : TI := ⟨fcP 6 v, roP 6 6 v ++ [(0, .inst 1165 1), (3, .inst 910 4), (4, .dict [("kind", .int 0 2), ("node", .a 8), ("scope", .v 19), ("done", .a 11), ("outer", frP 6 v), ("depth", .int 4 0)] 6), (5, .list [.v 15] 0), (8, .inst 741 9), (9, .dict [("operator", .v 13), ("operands", .a 10)] 2), (10, .list [.v 20, .v 21] 0), (11, .list [.v 22] 0)], [], [], ⟨.v 0, .int 0 6000, .v 1, .v 2, .int 1 0, .int 2 0, .int 3 0, .int 0 2, .v 3, .v 4, .v 5, .a 5, .a 3⟩, 12⟩
noncomputable def ti_hops2c : TI := ⟨[(.GtE, (1, 0), (0, 6000), false)], [(0, .inst 1165 1), (3, .inst 910 4), (4, .dict [("kind", .int 0 2), ("node", .a 8), ("scope", .v 10), ("done", .a 11), ("outer", .v 8), ("depth", .int 4 0)] 6), (5, .list [.v 15] 0), (8, .inst 741 9), (9, .dict [("operator", .v 13), ("operands", .a 10)] 2), (10, .list [.v 20, .v 21] 0), (11, .list [.v 22, .v 23] 0)], [], [], ⟨.v 0, .int 0 6000, .v 1, .v 2, .int 1 0, .int 2 0, .int 3 0, .int 0 2, .v 3, .v 4, .v 5, .a 5, .a 3⟩, 12⟩
noncomputable def ti_clo0 : TI := ⟨[(.GtE, (1, 0), (0, 6000), false)], [(0, .inst 1165 1), (5, .list [] 0), (6, .inst 938 7), (7, .dict [("title", .v 13), ("node", .a 8), ("scope", .v 14)] 3), (8, .inst 708 9), (9, .dict [("label", .v 15), ("params", .a 10), ("rest", .int 0 (-1)), ("body", .v 16)] 4), (10, .list [] 0)], [], [], ⟨.v 0, .int 0 6000, .v 1, .v 2, .int 1 0, .int 2 0, .int 3 0, .int 0 1, .v 3, .v 4, .a 6, .a 5, .v 7⟩, 11⟩
noncomputable def ti_clo1 : TI := ⟨[(.GtE, (1, 0), (0, 6000), false)], [(0, .inst 1165 1), (5, .list [.v 17] 0), (6, .inst 938 7), (7, .dict [("title", .v 13), ("node", .a 8), ("scope", .v 14)] 3), (8, .inst 708 9), (9, .dict [("label", .v 15), ("params", .a 10), ("rest", .int 0 (-1)), ("body", .v 16)] 4), (10, .list [.int 5 0] 0)], [], [], ⟨.v 0, .int 0 6000, .v 1, .v 2, .int 1 0, .int 2 0, .int 3 0, .int 0 1, .v 3, .v 4, .a 6, .a 5, .v 7⟩, 11⟩
noncomputable def ti_ctl3 : TI := ⟨[(.GtE, (1, 0), (0, 6000), false)], [(0, .inst 1165 1), (5, .list [.v 17] 0), (6, .inst 468 7), (7, .dict [("title", .v 13), ("word", .int 0 3)] 2)], [], [], ⟨.v 0, .int 0 6000, .v 1, .v 2, .int 1 0, .int 2 0, .int 3 0, .int 0 1, .v 3, .v 4, .a 6, .a 5, .v 7⟩, 8⟩
noncomputable def ti_ctl2 (v : Nat) : TI := ⟨fcP 4 v, roP 3 4 v ++ [(0, .inst 1165 1), (5, .list [.v 17, .v 18] 0), (6, .inst 468 7), (7, .dict [("title", .v 13), ("word", .int 0 2)] 2)], [], [], ⟨.v 0, .int 0 6000, .v 1, .v 2, .int 1 0, .int 2 0, .int 3 0, .int 0 1, .v 3, .v 4, .a 6, .a 5, frP 3 v⟩, 8⟩
noncomputable def tis : List TI := [ti_const, ti_lam, ti_ite 0, ti_ite 1, ti_ite 2, ti_ite 3, ti_setg 0, ti_setg 1, ti_setg 2, ti_setg 3, ti_call 0, ti_call 1, ti_call 2, ti_call 3, ti_seq 0, ti_seq 1, ti_seq 2, ti_seq 3, ti_glob, ti_loc, ti_hseq, ti_htestT, ti_htestF, ti_hasg, ti_hcons, ti_hops0, ti_hops1a 0, ti_hops1a 1, ti_hops1a 2, ti_hops1a 3, ti_hops1b, ti_hops2a 0, ti_hops2a 1, ti_hops2a 2, ti_hops2a 3, ti_hops2b 0, ti_hops2b 1, ti_hops2b 2, ti_hops2b 3, ti_hops2c, ti_clo0, ti_clo1, ti_ctl3, ti_ctl2 0, ti_ctl2 1, ti_ctl2 2, ti_ctl2 3]
end
end NT
end
section
open PySem PySem.W PySem.Calls PyProof.Rows
namespace NT
noncomputable section
noncomputable def to_const : TO := ⟨[(7, .list [.v 13] 0)], ⟨.v 0, .int 0 6000, .v 1, .v 2, .int 1 1, .int 2 0, .int 3 0, .int 0 2, .none, .none, .none, .a 7, .v 7⟩, .xdict 0, 8⟩
noncomputable def to_lam : TO := ⟨[(11, .list [.a 9] 0), (9, .inst 938 10), (10, .dict [("title", .str ""), ("node", .a 5), ("scope", .v 4)] 3)], ⟨.v 0, .int 0 6000, .a 7, .v 2, .int 1 1, .int 2 0, .int 3 0, .int 0 2, .none, .none, .none, .a 11, .v 7⟩, .xdict 0, 12⟩
noncomputable def to_ite (v : Nat) : TO := ⟨[(10, .list [] 0), (8, .inst 910 9), (9, .dict [("kind", .int 0 0), ("node", .a 5), ("scope", .v 4), ("done", .a 7), ("outer", frP 3 v), ("depth", depP 4 v)] 6), (7, .list [] 0)], ⟨.v 0, .int 0 6000, .v 1, .v 2, .int 1 1, .int 2 0, deepP 4 v, .int 0 0, .v 13, .v 4, .none, .a 10, .a 8⟩, .xdict 0, 11⟩
noncomputable def to_setg (v : Nat) : TO := ⟨[(10, .list [] 0), (8, .inst 910 9), (9, .dict [("kind", .int 0 1), ("node", .a 5), ("scope", .v 4), ("done", .a 7), ("outer", frP 3 v), ("depth", depP 4 v)] 6), (7, .list [] 0)], ⟨.v 0, .int 0 6000, .v 1, .v 2, .int 1 1, .int 2 0, deepP 4 v, .int 0 0, .v 14, .v 4, .none, .a 10, .a 8⟩, .xdict 0, 11⟩
noncomputable def to_call (v : Nat) : TO := ⟨[(10, .list [] 0), (8, .inst 910 9), (9, .dict [("kind", .int 0 2), ("node", .a 5), ("scope", .v 4), ("done", .a 7), ("outer", frP 3 v), ("depth", depP 4 v)] 6), (7, .list [] 0)], ⟨.v 0, .int 0 6000, .v 1, .v 2, .int 1 1, .int 2 0, deepP 4 v, .int 0 0, .v 13, .v 4, .none, .a 10, .a 8⟩, .xdict 0, 11⟩
noncomputable def to_seq (v : Nat) : TO := ⟨[(11, .list [] 0), (9, .inst 910 10), (10, .dict [("kind", .int 0 3), ("node", .a 5), ("scope", .v 4), ("done", .a 8), ("outer", frP 3 v), ("depth", depP 4 v)] 6), (8, .list [.int 0 0] 0)], ⟨.v 0, .int 0 6000, .v 1, .v 2, .int 1 1, .int 2 0, deepP 4 v, .int 0 0, .v 13, .v 4, .none, .a 11, .a 9⟩, .xdict 0, 12⟩
noncomputable def to_glob : TO := ⟨[(9, .list [.v 14] 0)], ⟨.a 7, .int 0 6000, .v 1, .v 2, .int 1 1, .int 2 0, .int 3 0, .int 0 2, .none, .none, .none, .a 9, .v 7⟩, .xdict 0, 10⟩
noncomputable def to_loc : TO := ⟨[(12, .list [.a 10] 0)], ⟨.v 0, .int 0 6000, .v 1, .v 2, .int 1 1, .int 2 0, .int 3 0, .int 0 2, .none, .none, .none, .a 12, .v 7⟩, .xdict 0, 13⟩
noncomputable def to_hseq : TO := ⟨[(10, .list [] 0)], ⟨.v 0, .int 0 6000, .v 1, .v 2, .int 1 1, .int 2 0, .int 3 0, .int 0 0, .v 14, .v 10, .none, .a 10, .v 8⟩, .xdict 0, 11⟩
noncomputable def to_htestT : TO := ⟨[(8, .list [] 0)], ⟨.v 0, .int 0 6000, .v 1, .v 2, .int 1 1, .int 2 0, .int 3 0, .int 0 0, .v 14, .v 10, .none, .a 8, .v 8⟩, .xdict 0, 9⟩
noncomputable def to_htestF : TO := ⟨[(8, .list [] 0)], ⟨.v 0, .int 0 6000, .v 1, .v 2, .int 1 1, .int 2 0, .int 3 0, .int 0 0, .v 15, .v 10, .none, .a 8, .v 8⟩, .xdict 0, 9⟩
noncomputable def to_hasg : TO := ⟨[(10, .list [.k 47] 0)], ⟨.a 8, .int 0 6000, .v 1, .v 2, .int 1 1, .int 2 0, .int 3 0, .int 0 2, .none, .none, .none, .a 10, .v 8⟩, .xset 0 (5, 0) (.v 15), 11⟩
noncomputable def to_hcons : TO := ⟨[], ⟨.v 0, .int 0 6000, .v 1, .v 2, .int 1 1, .int 2 0, .int 3 0, .int 0 1, .none, .none, .v 13, .a 5, .v 8⟩, .xdict 0, 7⟩
noncomputable def to_hops0 : TO := ⟨[(14, .list [] 0), (13, .list [.v 15] 0), (12, .list [.v 15] 0)], ⟨.v 0, .int 0 6000, .v 1, .v 2, .int 1 1, .int 2 0, .int 3 0, .int 0 1, .none, .none, .v 15, .a 14, .v 8⟩, .xdict 0, 15⟩
noncomputable def to_hops1a (v : Nat) : TO := ⟨[(16, .list [] 0), (14, .inst 910 15), (15, .dict [("kind", .int 0 2), ("node", .a 8), ("scope", .v 19), ("done", .a 13), ("outer", frP 6 v), ("depth", depP 6 v)] 6), (13, .list [.v 15] 0), (12, .list [.v 15] 0)], ⟨.v 0, .int 0 6000, .v 1, .v 2, .int 1 1, .int 2 0, deepP 6 v, .int 0 0, .v 20, .v 19, .none, .a 16, .a 14⟩, .xdict 0, 17⟩
noncomputable def to_hops1b : TO := ⟨[(14, .list [.v 15] 0), (13, .list [.v 22, .v 15] 0), (12, .list [.v 15] 0)], ⟨.v 0, .int 0 6000, .v 1, .v 2, .int 1 1, .int 2 0, .int 3 0, .int 0 1, .none, .none, .v 22, .a 14, .v 8⟩, .xdict 0, 15⟩
noncomputable def to_hops2a (v : Nat) : TO := ⟨[(16, .list [] 0), (14, .inst 910 15), (15, .dict [("kind", .int 0 2), ("node", .a 8), ("scope", .v 19), ("done", .a 13), ("outer", frP 6 v), ("depth", depP 6 v)] 6), (13, .list [.v 15] 0), (12, .list [.v 15] 0)], ⟨.v 0, .int 0 6000, .v 1, .v 2, .int 1 1, .int 2 0, deepP 6 v, .int 0 0, .v 20, .v 19, .none, .a 16, .a 14⟩, .xdict 0, 17⟩
noncomputable def to_hops2b (v : Nat) : TO := ⟨[(16, .list [] 0), (14, .inst 910 15), (15, .dict [("kind", .int 0 2), ("node", .a 8), ("scope", .v 19), ("done", .a 13), ("outer", frP 6 v), ("depth", depP 6 v)] 6), (13, .list [.v 22, .v 15] 0), (12, .list [.v 15] 0)], ⟨.v 0, .int 0 6000, .v 1, .v 2, .int 1 1, .int 2 0, deepP 6 v, .int 0 0, .v 21, .v 19, .none, .a 16, .a 14⟩, .xdict 0, 17⟩
noncomputable def to_hops2c : TO := ⟨[(14, .list [.v 23, .v 15] 0), (13, .list [.v 22, .v 23, .v 15] 0), (12, .list [.v 15] 0)], ⟨.v 0, .int 0 6000, .v 1, .v 2, .int 1 1, .int 2 0, .int 3 0, .int 0 1, .none, .none, .v 22, .a 14, .v 8⟩, .xdict 0, 15⟩
noncomputable def to_clo0 : TO := ⟨[(14, .list [] 0), (13, .idict []), (11, .inst 882 12), (12, .dict [("outer", .v 14), ("values", .a 13)] 2)], ⟨.v 0, .int 0 6000, .v 1, .v 2, .int 1 1, .int 2 1, .int 3 0, .int 0 0, .v 16, .a 11, .none, .a 14, .v 7⟩, .xdict 0, 15⟩
noncomputable def to_clo1 : TO := ⟨[(14, .list [] 0), (13, .idict [((5, 0), .v 17)]), (11, .inst 882 12), (12, .dict [("outer", .v 14), ("values", .a 13)] 2)], ⟨.v 0, .int 0 6000, .v 1, .v 2, .int 1 1, .int 2 1, .int 3 0, .int 0 0, .v 16, .a 11, .none, .a 14, .v 7⟩, .xdict 0, 15⟩
noncomputable def to_ctl3 : TO := ⟨[(10, .list [.a 8] 0), (8, .inst 957 9), (9, .dict [("title", .str "continuation"), ("frame", .v 7)] 2)], ⟨.v 0, .int 0 6000, .v 1, .v 2, .int 1 1, .int 2 1, .int 3 0, .int 0 1, .none, .none, .v 17, .a 10, .v 7⟩, .xdict 0, 11⟩
noncomputable def to_ctl2 (v : Nat) : TO := ⟨[(11, .list [] 0), (9, .inst 910 10), (10, .dict [("kind", .int 0 5), ("node", .none), ("scope", .none), ("done", .a 8), ("outer", frP 3 v), ("depth", depP 4 v)] 6), (8, .list [.v 18] 0)], ⟨.v 0, .int 0 6000, .v 1, .v 2, .int 1 1, .int 2 1, deepP 4 v, .int 0 1, .none, .none, .v 17, .a 11, .a 9⟩, .xdict 0, 12⟩
noncomputable def tos : List TO := [to_const, to_lam, to_ite 0, to_ite 1, to_ite 2, to_ite 3, to_setg 0, to_setg 1, to_setg 2, to_setg 3, to_call 0, to_call 1, to_call 2, to_call 3, to_seq 0, to_seq 1, to_seq 2, to_seq 3, to_glob, to_loc, to_hseq, to_htestT, to_htestF, to_hasg, to_hcons, to_hops0, to_hops1a 0, to_hops1a 1, to_hops1a 2, to_hops1a 3, to_hops1b, to_hops2a 0, to_hops2a 1, to_hops2a 2, to_hops2a 3, to_hops2b 0, to_hops2b 1, to_hops2b 2, to_hops2b 3, to_hops2c, to_clo0, to_clo1, to_ctl3, to_ctl2 0, to_ctl2 1, to_ctl2 2, to_ctl2 3]
theorem runs (P : Params) : tis.map (TI.go P) = tos.map fun o => some o.st := by kernel_rfl
theorem run_at {P : Params} {k : Nat} {i : TI} {o : TO} (h : tis[k]? = some i) (h' : tos[k]? = some o) : i.go P = some o.st := by
  have e := congrArg (fun l => l[k]?) (runs P)
  simp only [List.getElem?_map, h, h', Option.map_some] at e
  walk_at "l"; exact Option.some.inj e
theorem four {v : Nat} (h : v < 4) : v = 0 ∨ v = 1 ∨ v = 2 ∨ v = 3 := by lia
theorem go_const (P : Params) : ti_const.go P = some to_const.st := run_at (k := 0) rfl rfl
theorem go_lam (P : Params) : ti_lam.go P = some to_lam.st := run_at (k := 1) rfl rfl
theorem go_ite (P : Params) {v : Nat} (h : v < 4) : (ti_ite v).go P = some (to_ite v).st := by
  walk_at "e"; rcases four h with rfl | rfl | rfl | rfl
  · walk_at "l"; exact run_at (k := 2) rfl rfl
  · walk_at "l"; exact run_at (k := 3) rfl rfl
  · walk_at "l"; exact run_at (k := 4) rfl rfl
  · walk_at "l"; exact run_at (k := 5) rfl rfl
theorem go_setg (P : Params) {v : Nat} (h : v < 4) : (ti_setg v).go P = some (to_setg v).st := by
  walk_at "e"; rcases four h with rfl | rfl | rfl | rfl
  · walk_at "l"; exact run_at (k := 6) rfl rfl
  · walk_at "l"; exact run_at (k := 7) rfl rfl
  · walk_at "l"; exact run_at (k := 8) rfl rfl
  · walk_at "l"; exact run_at (k := 9) rfl rfl
theorem go_call (P : Params) {v : Nat} (h : v < 4) : (ti_call v).go P = some (to_call v).st := by
  walk_at "e"; rcases four h with rfl | rfl | rfl | rfl
  · walk_at "l"; exact run_at (k := 10) rfl rfl
  · walk_at "l"; exact run_at (k := 11) rfl rfl
  · walk_at "l"; exact run_at (k := 12) rfl rfl
  · walk_at "l"; exact run_at (k := 13) rfl rfl
theorem go_seq (P : Params) {v : Nat} (h : v < 4) : (ti_seq v).go P = some (to_seq v).st := by
  walk_at "e"; rcases four h with rfl | rfl | rfl | rfl
  · walk_at "l"; exact run_at (k := 14) rfl rfl
  · walk_at "l"; exact run_at (k := 15) rfl rfl
  · walk_at "l"; exact run_at (k := 16) rfl rfl
  · walk_at "l"; exact run_at (k := 17) rfl rfl
theorem go_glob (P : Params) : ti_glob.go P = some to_glob.st := run_at (k := 18) rfl rfl
theorem go_loc (P : Params) : ti_loc.go P = some to_loc.st := run_at (k := 19) rfl rfl
theorem go_hseq (P : Params) : ti_hseq.go P = some to_hseq.st := run_at (k := 20) rfl rfl
theorem go_htestT (P : Params) : ti_htestT.go P = some to_htestT.st := run_at (k := 21) rfl rfl
theorem go_htestF (P : Params) : ti_htestF.go P = some to_htestF.st := run_at (k := 22) rfl rfl
theorem go_hasg (P : Params) : ti_hasg.go P = some to_hasg.st := run_at (k := 23) rfl rfl
theorem go_hcons (P : Params) : ti_hcons.go P = some to_hcons.st := run_at (k := 24) rfl rfl
theorem go_hops0 (P : Params) : ti_hops0.go P = some to_hops0.st := run_at (k := 25) rfl rfl
theorem go_hops1a (P : Params) {v : Nat} (h : v < 4) : (ti_hops1a v).go P = some (to_hops1a v).st := by
  walk_at "e"; rcases four h with rfl | rfl | rfl | rfl
  · walk_at "l"; exact run_at (k := 26) rfl rfl
  · walk_at "l"; exact run_at (k := 27) rfl rfl
  · walk_at "l"; exact run_at (k := 28) rfl rfl
  · walk_at "l"; exact run_at (k := 29) rfl rfl
theorem go_hops1b (P : Params) : ti_hops1b.go P = some to_hops1b.st := run_at (k := 30) rfl rfl
theorem go_hops2a (P : Params) {v : Nat} (h : v < 4) : (ti_hops2a v).go P = some (to_hops2a v).st := by
  walk_at "e"; rcases four h with rfl | rfl | rfl | rfl
  · walk_at "l"; exact run_at (k := 31) rfl rfl
  · walk_at "l"; exact run_at (k := 32) rfl rfl
  · walk_at "l"; exact run_at (k := 33) rfl rfl
  · walk_at "l"; exact run_at (k := 34) rfl rfl
theorem go_hops2b (P : Params) {v : Nat} (h : v < 4) : (ti_hops2b v).go P = some (to_hops2b v).st := by
  walk_at "e"; rcases four h with rfl | rfl | rfl | rfl
  · walk_at "l"; exact run_at (k := 35) rfl rfl
  · walk_at "l"; exact run_at (k := 36) rfl rfl
  · walk_at "l"; exact run_at (k := 37) rfl rfl
  · walk_at "l"; exact run_at (k := 38) rfl rfl
theorem go_hops2c (P : Params) : ti_hops2c.go P = some to_hops2c.st := run_at (k := 39) rfl rfl
theorem go_clo0 (P : Params) : ti_clo0.go P = some to_clo0.st := run_at (k := 40) rfl rfl
theorem go_clo1 (P : Params) : ti_clo1.go P = some to_clo1.st := run_at (k := 41) rfl rfl
theorem go_ctl3 (P : Params) : ti_ctl3.go P = some to_ctl3.st := run_at (k := 42) rfl rfl
theorem go_ctl2 (P : Params) {v : Nat} (h : v < 4) : (ti_ctl2 v).go P = some (to_ctl2 v).st := by
  walk_at "e"; rcases four h with rfl | rfl | rfl | rfl
  · walk_at "l"; exact run_at (k := 43) rfl rfl
  · walk_at "l"; exact run_at (k := 44) rfl rfl
  · walk_at "l"; exact run_at (k := 45) rfl rfl
  · walk_at "l"; exact run_at (k := 46) rfl rfl
end
end NT
end
section
open PySem PySem.W PySem.Calls PyProof.Rows
namespace NT
noncomputable def IsI (i : Int) : Value → Prop := fun v => ∃ t, v = .int i t
noncomputable def Tr : Value → Prop := fun zz => True
noncomputable abbrev Fd := List (Str × (Value → Prop))
noncomputable def DV (w : World) (es : List (Str × Value)) (o : Obj) : Prop := ∃ des, o = dictOf des es.length ∧ All2 (fun (p : Str × Value) (e : DictEntry) => ∃ t, e = ⟨PyData.keyHash w.params p.1, .str p.1 t, p.2⟩) es des
noncomputable def FdR (f : Str × (Value → Prop)) (e : Str × Value) : Prop := e.1 = f.1 ∧ f.2 e.2 ∧ handedIn e.2 = true
noncomputable def InsP (w : World) (r : Ld) (C : Nat) (fs : Fd) : Value → Prop := fun v => ∃ x dx o es, v = .ref x ∧ (x, instObj C dx) ∈ r ∧ (dx, o) ∈ r ∧ DV w es o ∧ All2 FdR fs es
noncomputable def LiR (p : Value → Prop) (u : Value) : Prop := p u ∧ handedIn u = true
noncomputable def LstP (r : Ld) (ps : List (Value → Prop)) : Value → Prop := fun v => ∃ x l, v = .ref x ∧ (x, listOf l.toArray 0) ∈ r ∧ All2 LiR ps l
noncomputable abbrev Sub (r r' : Ld) : Prop := ∀ p ∈ r, p ∈ r'
noncomputable def FdI (f f' : Str × (Value → Prop)) : Prop := f'.1 = f.1 ∧ ∀ u, f.2 u → f'.2 u
theorem FdI.rfl {f : Str × (Value → Prop)} : FdI f f := ⟨_root_.rfl, fun zz h => h⟩
theorem all2_comp {α β γ : Type} {R : α → β → Prop} {S : α → γ → Prop} {T : γ → β → Prop} (h : ∀ a b c, R a b → S a c → T c b) {l : List α} {m : List β} {k : List γ} (H : All2 R l m) : All2 S l k → All2 T k m := by
  walk_at "l"; induction H generalizing k with
  | nil => walk_at "l"; intro H'; walk_at "e"; cases H'; walk_at "l"; exact .nil
  | cons a _ ih =>
    walk_at "l"; intro H'
    walk_at "e"; cases H' with
    | cons b bs => walk_at "l"; exact .cons (h _ _ _ a b) (ih bs)
theorem InsP.imp {w : World} {r r' : Ld} {C : Nat} {fs fs' : Fd} {v : Value} (h : InsP w r C fs v) (s : Sub r r') (g : All2 FdI fs fs') : InsP w r' C fs' v := by
  walk_at "e"; obtain ⟨x, dx, o, es, a, b, c, d, e⟩ := h
  walk_at "l"; exact ⟨x, dx, o, es, a, s _ b, s _ c, d, all2_comp (fun f e f' h g => ⟨h.1.trans g.1.symm, g.2 _ h.2.1, h.2.2⟩) e g⟩
theorem LstP.imp {r r' : Ld} {ps ps' : List (Value → Prop)} {v : Value} (h : LstP r ps v) (s : Sub r r') (g : All2 (fun p p' : Value → Prop => ∀ u, p u → p' u) ps ps') : LstP r' ps' v := by
  walk_at "e"; obtain ⟨x, l, a, b, c⟩ := h
  walk_at "l"; exact ⟨x, l, a, s _ b, all2_comp (fun f e f' h g => ⟨g _ h.1, h.2⟩) c g⟩
noncomputable def NdIn (w : World) (r : Ld) : Nd → Value → Prop
  | .int i => InsP w r 557 [("value", IsI i)]
  | .bool b => InsP w r 557 [("value", fun v => v = .bool b)]
  | .ctl k => InsP w r 557 [("value", InsP w r 468 [("title", Tr), ("word", IsI k)])]
  | .loc => InsP w r 576 [("number", IsI 1)]
  | .glob g => InsP w r 595 [("symbol", IsI g)]
  | .lam0 b => InsP w r 708 [("label", Tr), ("params", LstP r []), ("rest", IsI (-1)), ("body", NdIn w r b)]
  | .lam1 b => InsP w r 708 [("label", Tr), ("params", LstP r [fun v => ∃ q, q ≠ 1 ∧ IsI q v]), ("rest", IsI (-1)), ("body", NdIn w r b)]
  | .ite a b c => InsP w r 661 [("test", NdIn w r a), ("yes", NdIn w r b), ("no", NdIn w r c)]
  | .setg g a => InsP w r 628 [("symbol", IsI g), ("value", NdIn w r a)]
  | .call0 f => InsP w r 741 [("operator", NdIn w r f), ("operands", LstP r [])]
  | .call1 f a => InsP w r 741 [("operator", NdIn w r f), ("operands", LstP r [NdIn w r a])]
  | .call2 f a b => InsP w r 741 [("operator", NdIn w r f), ("operands", LstP r [NdIn w r a, NdIn w r b])]
  | .seq a b => InsP w r 774 [("items", LstP r [NdIn w r a, NdIn w r b])]
theorem NdIn.mono {w : World} {r r' : Ld} (s : Sub r r') {n : Nd} : ∀ {v : Value}, NdIn w r n v → NdIn w r' n v := by
  walk_at "l"; induction n with
  | int i => walk_at "l"; exact fun h => h.imp s (.cons .rfl .nil)
  | bool b => walk_at "l"; exact fun h => h.imp s (.cons .rfl .nil)
  | ctl k => walk_at "l"; exact fun h => h.imp s (.cons ⟨rfl, fun zz h => h.imp s (.cons .rfl (.cons .rfl .nil))⟩ .nil)
  | loc => walk_at "l"; exact fun h => h.imp s (.cons .rfl .nil)
  | glob g => walk_at "l"; exact fun h => h.imp s (.cons .rfl .nil)
  | lam0 b ih => walk_at "l"; exact fun h => h.imp s (.cons .rfl (.cons ⟨rfl, fun zz h => h.imp s .nil⟩ (.cons .rfl (.cons ⟨rfl, fun zz => ih⟩ .nil))))
  | lam1 b ih => walk_at "l"; exact fun h => h.imp s (.cons .rfl (.cons ⟨rfl, fun zz h => h.imp s (.cons (fun zz h => h) .nil)⟩ (.cons .rfl (.cons ⟨rfl, fun zz => ih⟩ .nil))))
  | ite a b c i1 i2 i3 => walk_at "l"; exact fun h => h.imp s (.cons ⟨rfl, fun zz => i1⟩ (.cons ⟨rfl, fun zz => i2⟩ (.cons ⟨rfl, fun zz => i3⟩ .nil)))
  | setg g a ih => walk_at "l"; exact fun h => h.imp s (.cons .rfl (.cons ⟨rfl, fun zz => ih⟩ .nil))
  | call0 f ih => walk_at "l"; exact fun h => h.imp s (.cons ⟨rfl, fun zz => ih⟩ (.cons ⟨rfl, fun zz h => h.imp s .nil⟩ .nil))
  | call1 f a i1 i2 => walk_at "l"; exact fun h => h.imp s (.cons ⟨rfl, fun zz => i1⟩ (.cons ⟨rfl, fun zz h => h.imp s (.cons (fun zz => i2) .nil)⟩ .nil))
  | call2 f a b i1 i2 i3 => walk_at "l"; exact fun h => h.imp s (.cons ⟨rfl, fun zz => i1⟩ (.cons ⟨rfl, fun zz h => h.imp s (.cons (fun zz => i2) (.cons (fun zz => i3) .nil))⟩ .nil))
  | seq a b i1 i2 => walk_at "l"; exact fun h => h.imp s (.cons ⟨rfl, fun zz h => h.imp s (.cons (fun zz => i1) (.cons (fun zz => i2) .nil))⟩ .nil)
noncomputable def ScIn (w : World) (sz : Addr) (r : Ld) : Nat → Value → Prop
  | 0 => fun v => v = .ref sz
  | n + 1 => InsP w r 882 [("outer", ScIn w sz r n), ("values", fun v => ∃ e oe kvs, v = .ref e ∧ (e, oe) ∈ r ∧ oe.IsDictOf (intKind PW w) kvs ∧ valueAt kvs 1 = none)]
theorem ScIn.mono {w : World} {sz : Addr} {r r' : Ld} (s : Sub r r') {n : Nat} : ∀ {v : Value}, ScIn w sz r n v → ScIn w sz r' n v := by
  walk_at "l"; induction n with
  | zero => walk_at "l"; exact fun h => h
  | succ n ih => walk_at "l"; exact fun h => InsP.imp h s (.cons ⟨rfl, fun zz h => ih h⟩ (.cons ⟨rfl, fun zz h => h.imp fun e h => h.imp fun oe h => h.imp fun kvs h => ⟨h.1, s _ h.2.1, h.2.2⟩⟩ .nil))
noncomputable def Sc (w : World) (sz : Addr) (r : Ld) : Value → Prop := fun v => ∃ n, ScIn w sz r n v
theorem Sc.mono {w : World} {sz : Addr} {r r' : Ld} (s : Sub r r') {v : Value} (h : Sc w sz r v) : Sc w sz r' v := h.imp fun zz h => h.mono s
noncomputable def VlIn (w : World) (sz : Addr) (r : Ld) : Vl → Value → Prop
  | .int i => IsI i
  | .bool b => fun v => v = .bool b
  | .ctl k => InsP w r 468 [("title", Tr), ("word", IsI k)]
  | .clo0 b => InsP w r 938 [("title", Tr), ("node", NdIn w r (.lam0 b)), ("scope", Sc w sz r)]
  | .clo1 b => InsP w r 938 [("title", Tr), ("node", NdIn w r (.lam1 b)), ("scope", Sc w sz r)]
  | .cont => Tr
  | .unspec => Tr
theorem VlIn.mono {w : World} {sz : Addr} {r r' : Ld} (s : Sub r r') : ∀ {u : Vl} {v : Value}, VlIn w sz r u v → VlIn w sz r' u v
  | .int _, _, h => h
  | .bool _, _, h => h
  | .ctl _, _, h => InsP.imp h s (.cons .rfl (.cons .rfl .nil))
  | .clo0 _, _, h => InsP.imp h s (.cons .rfl (.cons ⟨rfl, fun zz h => NdIn.mono s h⟩ (.cons ⟨rfl, fun zz h => h.mono s⟩ .nil)))
  | .clo1 _, _, h => InsP.imp h s (.cons .rfl (.cons ⟨rfl, fun zz h => NdIn.mono s h⟩ (.cons ⟨rfl, fun zz h => h.mono s⟩ .nil)))
  | .cont, _, _ => trivial
  | .unspec, _, _ => trivial
noncomputable def VlsIn (w : World) (sz : Addr) (r : Ld) (us : List Vl) : Value → Prop := LstP r (us.map (VlIn w sz r))
theorem VlsIn.mono {w : World} {sz : Addr} {r r' : Ld} (s : Sub r r') {us : List Vl} {v : Value} (h : VlsIn w sz r us v) : VlsIn w sz r' us v := by
  walk_at "l"; refine LstP.imp h s ?_
  clear h
  walk_at "l"; induction us with
  | nil => walk_at "l"; exact .nil
  | cons u us ih => walk_at "l"; exact .cons (fun zz h => h.mono s) ih
noncomputable def fmF (w : World) (sz : Addr) (r : Ld) : Fm → Fd
  | .seq a b => [("kind", IsI 3), ("node", NdIn w r (.seq a b)), ("scope", Sc w sz r), ("done", LstP r [IsI 0])]
  | .test a b c => [("kind", IsI 0), ("node", NdIn w r (.ite a b c)), ("scope", Sc w sz r), ("done", Tr)]
  | .asg g a => [("kind", IsI 1), ("node", NdIn w r (.setg g a)), ("scope", Tr), ("done", Tr)]
  | .ops nd us => [("kind", IsI 2), ("node", NdIn w r nd), ("scope", Sc w sz r), ("done", VlsIn w sz r us)]
  | .cons u => [("kind", IsI 5), ("node", Tr), ("scope", Tr), ("done", LstP r [VlIn w sz r u])]
theorem fmF_mono {w : World} {sz : Addr} {r r' : Ld} (s : Sub r r') (f : Fm) : All2 FdI (fmF w sz r f) (fmF w sz r' f) := by
  walk_at "e"; cases f with
  | seq a b => walk_at "l"; exact .cons .rfl (.cons ⟨rfl, fun zz h => h.mono s⟩ (.cons ⟨rfl, fun zz h => h.mono s⟩ (.cons ⟨rfl, fun zz h => h.imp s (.cons (fun zz h => h) .nil)⟩ .nil)))
  | test a b c => walk_at "l"; exact .cons .rfl (.cons ⟨rfl, fun zz h => h.mono s⟩ (.cons ⟨rfl, fun zz h => h.mono s⟩ (.cons .rfl .nil)))
  | asg g a => walk_at "l"; exact .cons .rfl (.cons ⟨rfl, fun zz h => h.mono s⟩ (.cons .rfl (.cons .rfl .nil)))
  | ops nd us => walk_at "l"; exact .cons .rfl (.cons ⟨rfl, fun zz h => h.mono s⟩ (.cons ⟨rfl, fun zz h => h.mono s⟩ (.cons ⟨rfl, fun zz h => h.mono s⟩ .nil)))
  | cons u => walk_at "l"; exact .cons .rfl (.cons .rfl (.cons .rfl (.cons ⟨rfl, fun zz h => h.imp s (.cons (fun zz h => h.mono s) .nil)⟩ .nil)))
noncomputable def FsIn (w : World) (sz : Addr) (r : Ld) : List Fm → Value → Prop
  | [] => fun v => v = .none
  | f :: fs => InsP w r 910 (fmF w sz r f ++ ([("outer", FsIn w sz r fs), ("depth", IsI (fs.length + 1))] : Fd))
theorem FsIn.mono {w : World} {sz : Addr} {r r' : Ld} (s : Sub r r') : ∀ {fs : List Fm} {v : Value}, FsIn w sz r fs v → FsIn w sz r' fs v
  | [], _, h => h
  | f :: fs, _, h => InsP.imp h s ((fmF_mono s f).append (.cons ⟨rfl, fun zz h => FsIn.mono s h⟩ (.cons .rfl .nil)))
noncomputable def mdI : Md → Int
  | .look _ => 0
  | .call _ _ => 1
  | .give _ => 2
noncomputable def mdN (w : World) (r : Ld) : Md → Value → Prop
  | .look n => NdIn w r n
  | _ => Tr
noncomputable def mdS (w : World) (sz : Addr) (r : Ld) : Md → Value → Prop
  | .look _ => Sc w sz r
  | _ => Tr
noncomputable def mdP (w : World) (sz : Addr) (r : Ld) : Md → Value → Prop
  | .call u _ => VlIn w sz r u
  | _ => Tr
noncomputable def mdV (w : World) (sz : Addr) (r : Ld) : Md → Value → Prop
  | .look _ => Tr
  | .call _ us => VlsIn w sz r us
  | .give us => VlsIn w sz r us
structure Cst where
  (am dm dv tp ab sz cz dcz : Addr)
  xs : Ld
noncomputable def mF (w : World) (C : Cst) (r : Ld) (σ : St) : Fd := [("tops", fun v => v = .ref C.tp), ("limit", IsI 6000), ("library", fun v => v = .ref C.ab), ("assigned", Tr), ("steps", IsI σ.st), ("calls", fun v => ∃ k, 0 ≤ k ∧ k ≤ σ.st ∧ IsI k v), ("deepest", IsI σ.dp),
  ("mode", IsI (mdI σ.md)), ("node", mdN w r σ.md), ("scope", mdS w C.sz r σ.md), ("procedure", mdP w C.sz r σ.md), ("values", mdV w C.sz r σ.md), ("frame", FsIn w C.sz r σ.fs)]
structure Base (w : World) (C : Cst) (B0 : Nd) (r : Ld) : Prop where
  hI : (C.am, instObj 1165 C.dm) ∈ r
  hT : InsP w r 854 [("table", Tr), ("values", fun v => v = .ref C.dv)] (.ref C.tp)
  hB : InsP w r 997 [("store", Tr)] (.ref C.ab)
  hZ : InsP w r 882 [("outer", fun v => v = .none), ("values", fun v => ∃ e oe, v = .ref e ∧ (e, oe) ∈ r ∧ oe.IsDictOf (intKind PW w) [(1, .ref C.cz)])] (.ref C.sz)
  hC : VlIn w C.sz r (.clo0 B0) (.ref C.cz)
  hC2 : (C.cz, instObj 938 C.dcz) ∈ r
  hd : @Ne Nat C.dm C.dv
  hdm : ∀ p ∈ r, p.1 ≠ C.dm
  hdv : ∀ p ∈ r, p.1 ≠ C.dv
  low : ∀ p ∈ r, @LT.lt Nat _ 1 p.1
  lowm : @LT.lt Nat _ 1 C.dm
  lowv : @LT.lt Nat _ 1 C.dv
  hX : Sub C.xs r
theorem Base.mono {w : World} {C : Cst} {B0 : Nd} {r r' : Ld} (h : Base w C B0 r) (s : Sub r r') (h1 : ∀ p ∈ r', p.1 ≠ C.dm) (h2 : ∀ p ∈ r', p.1 ≠ C.dv) (h3 : ∀ p ∈ r', @LT.lt Nat _ 1 p.1) : Base w C B0 r' :=
  ⟨s _ h.hI, h.hT.imp s (.cons .rfl (.cons .rfl .nil)), h.hB.imp s (.cons .rfl .nil), h.hZ.imp s (.cons .rfl (.cons ⟨rfl, fun _ ⟨e, oe, a, b, c⟩ => ⟨e, oe, a, s _ b, c⟩⟩ .nil)), VlIn.mono s h.hC, s _ h.hC2, h.hd, h1, h2, h3, h.lowm, h.lowv, fun p hp => s _ (h.hX p hp)⟩
noncomputable def FlIn (w : World) (n : Int) (o : Obj) (fl : Int → Bool) : Prop :=
  ∃ kvs, o.IsDictOf (intKind PW w) kvs ∧ (∀ g, 0 ≤ g → g < n → valueAt kvs g = some (.bool (fl g))) ∧ kvs.length ≤ 7
structure StIn (w : World) (C : Cst) (B0 : Nd) (n : Int) (r : Ld) (om ofl : Obj) (σ : St) : Prop where
  base : Base w C B0 r
  mach : ∃ es, DV w es om ∧ All2 FdR (mF w C r σ) es
  fl : FlIn w n ofl σ.fl
end NT
end
section
open PySem PySem.W PySem.Calls PyProof.Rows
namespace NT
noncomputable def mkT (Is : List Int) (Vs : List Value) (D : List (Int × Value)) : Vt := ⟨fun n => Is.getD n 0, fun n => Vs.getD n .none, fun zz => default, fun zz => D, fun zz => []⟩
theorem mkT_V {Is : List Int} {Vs : List Value} {D : List (Int × Value)} (h : ∀ v ∈ Vs, handedIn v = true) (i : Nat) : handedIn ((mkT Is Vs D).V i) = true := by
  walk_at "l"; show handedIn (Vs.getD i .none) = true
  walk_at "l"; rw [List.getD_eq_getElem?_getD]
  walk_at "l"; cases e : Vs[i]? with
  | none => walk_at "l"; rfl
  | some v => walk_at "l"; exact h v (List.mem_of_getElem? e)
section
variable {w : World} {τ : Vt} {ρ ρ' : List Addr} {r : Ld}
theorem VR.ofI {n : Nat} {i : Int} {u : Value} (h : IsI i u) (e : τ.I n = i) : VR τ ρ (.int (n + 1) 0) u := by
  walk_at "e"; obtain ⟨t, rfl⟩ := h
  walk_at "l"; exact ⟨t, by rw [← e]; show _ = Value.int (τ.I n + 0) t; rw [Int.add_zero]⟩
theorem VR.lit {i : Int} {u : Value} (h : IsI i u) : VR τ ρ (.int 0 i) u := h
theorem VR.isI {n : Nat} {k i : Int} {u : Value} (h : VR τ ρ (.int (n + 1) k) u) (e : τ.I n + k = i) : IsI i u := by
  walk_at "e"; obtain ⟨t, rfl⟩ := h
  walk_at "l"; exact ⟨t, by rw [← e]; rfl⟩
noncomputable def RoI (w : World) (τ : Vt) (ρ : List Addr) (r : Ld) (l : List (Nat × SO)) : Prop := ∀ p ∈ l, ∃ x ob, ρ[p.1]? = some x ∧ (x, ob) ∈ r ∧ OR w τ ρ p.2 ob
theorem RoI.nil : RoI w τ ρ r [] := fun zz h => nomatch h
theorem RoI.cons {i : Nat} {so : SO} {x : Addr} {ob : Obj} {l : List (Nat × SO)} (a : ρ[i]? = some x) (b : (x, ob) ∈ r) (c : OR w τ ρ so ob) (h : RoI w τ ρ r l) : RoI w τ ρ r ((i, so) :: l) := fun p hp => by
  walk_at "e"; rcases List.mem_cons.mp hp with rfl | hp
  · walk_at "l"; exact ⟨x, ob, a, b, c⟩
  · walk_at "l"; exact h p hp
theorem RoI.app {l m : List (Nat × SO)} (h : RoI w τ ρ r l) (h' : RoI w τ ρ r m) : RoI w τ ρ r (l ++ m) := fun p hp => (List.mem_append.mp hp).elim (h p) (h' p)
noncomputable abbrev SvE (τ : Vt) (ρ : List Addr) (s : Str × SV) (e : Str × Value) : Prop := s.1 = e.1 ∧ VR τ ρ s.2 e.2
theorem DV.or {es : List (Str × Value)} {o : Obj} (h : DV w es o) {ses : List (Str × SV)} (a : All2 (SvE τ ρ) ses es) : OR w τ ρ (.dict ses es.length) o := by
  walk_at "e"; obtain ⟨des, e, b⟩ := h
  walk_at "l"; refine ⟨des, e, ?_⟩
  clear e
  walk_at "l"; induction a generalizing des with
  | nil => walk_at "e"; cases b; walk_at "l"; exact .nil
  | cons x _ ih => walk_at "e"; cases b with
    | cons y ys =>
      walk_at "e"; obtain ⟨t, rfl⟩ := y
      walk_at "l"; exact .cons ⟨t, _, by rw [x.1], x.2⟩ (ih _ ys)
theorem DV.of {ses : List (Str × SV)} {n : Nat} {o : Obj} (h : OR w τ ρ (.dict ses n) o) (hn : n = ses.length) : ∃ es, DV w es o ∧ All2 (SvE τ ρ) ses es := by
  obtain ⟨des, rfl, b⟩ := h
  subst hn
  have : ∃ es, All2 (fun (p : Str × Value) (e : DictEntry) => ∃ t, e = ⟨PyData.keyHash w.params p.1, .str p.1 t, p.2⟩) es des ∧ All2 (SvE τ ρ) ses es := by
    induction b with
    | nil => exact ⟨[], .nil, .nil⟩
    | @cons s e _ _ x _ ih =>
      obtain ⟨t, v, rfl, hv⟩ := x
      obtain ⟨es, h1, h2⟩ := ih
      exact ⟨(s.1, v) :: es, .cons ⟨t, rfl⟩ h1, .cons ⟨rfl, hv⟩ h2⟩
  obtain ⟨es, h1, h2⟩ := this
  exact ⟨es, ⟨des, by rw [h2.length], h1⟩, h2⟩
theorem RoI.ins {i d C n : Nat} {ses : List (Str × SV)} {es : List (Str × Value)} {x dx : Addr} {o : Obj} {l : List (Nat × SO)} (a : ρ[i]? = some x) (b : ρ[d]? = some dx) (hx : (x, instObj C dx) ∈ r) (hd : (dx, o) ∈ r) (hD : DV w es o) (hn : n = es.length) (hv : All2 (SvE τ ρ) ses es) (h : RoI w τ ρ r l) :
    RoI w τ ρ r ((i, .inst C d) :: (d, .dict ses n) :: l) := .cons a hx ⟨dx, b, rfl⟩ (.cons b hd (hn ▸ hD.or hv) h)
theorem RoI.lst {i : Nat} {ss : List SV} {l : List Value} {x : Addr} {rest : List (Nat × SO)} (a : ρ[i]? = some x) (b : (x, listOf l.toArray 0) ∈ r) (hv : All2 (VR τ ρ) ss l) (h : RoI w τ ρ r rest) : RoI w τ ρ r ((i, .list ss 0) :: rest) := .cons a b ⟨l, rfl, hv⟩ h
theorem RoI.look {l : List (Nat × SO)} (h : RoI w τ ρ r l) : ∀ i o, l.lookup i = some o → ∃ x ob, ρ[i]? = some x ∧ (x, ob) ∈ r ∧ OR w τ ρ o ob := by
  walk_at "l"; intro i o e
  have : (i, o) ∈ l := by
    clear h
    walk_at "l"; induction l with
    | nil => walk_at "e"; cases e
    | cons p l ih =>
      walk_at "e"; obtain ⟨j, oj⟩ := p
      rw [List.lookup_cons] at e
      walk_at "l"; cases q : (i == j) with
      | true => rw [q] at e; cases e; rw [eq_of_beq q]; exact .head _
      | false => rw [q] at e; exact .tail _ (ih e)
  walk_at "l"; exact h (i, o) this
theorem InsP.open {C : Nat} {fs : Fd} {v : Value} {P : Prop} (h : InsP w r C fs v) (k : ∀ x dx o es, v = .ref x → (x, instObj C dx) ∈ r → (dx, o) ∈ r → DV w es o → All2 FdR fs es → P) : P := by
  walk_at "e"; obtain ⟨x, dx, o, es, a, b, c, d, e⟩ := h
  walk_at "l"; exact k x dx o es a b c d e
theorem All2.o0 {α β : Type} {R : α → β → Prop} {m : List β} {P : Prop} (h : All2 R [] m) (k : m = [] → P) : P := by
  walk_at "e"; cases h; walk_at "l"; exact k rfl
theorem All2.oc {α β : Type} {R : α → β → Prop} {a : α} {l : List α} {m : List β} {P : Prop} (h : All2 R (a :: l) m) (k : ∀ b m', m = b :: m' → R a b → All2 R l m' → P) : P := by
  walk_at "e"; cases h with
  | cons x y => walk_at "l"; exact k _ _ rfl x y
theorem FdR.o {n : Str} {p : Value → Prop} {e : Str × Value} {P : Prop} (h : FdR (n, p) e) (k : ∀ u, e = (n, u) → p u → handedIn u = true → P) : P := by
  walk_at "e"; obtain ⟨e1, e2⟩ := e
  walk_at "e"; obtain ⟨a, b, c⟩ := h
  dsimp only at a
  walk_at "e"; subst a
  walk_at "l"; exact k _ rfl b c
theorem InsP.o1 {C : Nat} {n1 : Str} {p1 : Value → Prop} {v : Value} {P : Prop} (h : InsP w r C [(n1, p1)] v) (k : ∀ x dx o u1, v = .ref x → (x, instObj C dx) ∈ r → (dx, o) ∈ r → DV w [(n1, u1)] o → p1 u1 → handedIn u1 = true → P) : P := by
  walk_at "l"; refine h.open fun x dx o es a b c d e => e.oc fun zz zz e1 f1 e => e.o0 fun e2 => f1.o fun u1 q1 g1 h1 => ?_
  walk_at "e"; subst e2 q1 e1
  walk_at "l"; exact k x dx o u1 a b c d g1 h1
theorem InsP.o2 {C : Nat} {n1 n2 : Str} {p1 p2 : Value → Prop} {v : Value} {P : Prop} (h : InsP w r C [(n1, p1), (n2, p2)] v) (k : ∀ x dx o u1 u2, v = .ref x → (x, instObj C dx) ∈ r → (dx, o) ∈ r → DV w [(n1, u1), (n2, u2)] o → p1 u1 → p2 u2 → handedIn u1 = true → handedIn u2 = true → P) : P := by
  walk_at "l"; refine h.open fun x dx o es a b c d e => e.oc fun zz zz e1 f1 e => e.oc fun zz zz e2 f2 e => e.o0 fun e3 => f1.o fun u1 q1 g1 h1 => f2.o fun u2 q2 g2 h2 => ?_
  walk_at "e"; subst e3 q1 q2 e2 e1
  walk_at "l"; exact k x dx o u1 u2 a b c d g1 g2 h1 h2
theorem InsP.o3 {C : Nat} {n1 n2 n3 : Str} {p1 p2 p3 : Value → Prop} {v : Value} {P : Prop} (h : InsP w r C [(n1, p1), (n2, p2), (n3, p3)] v) (k : ∀ x dx o u1 u2 u3, v = .ref x → (x, instObj C dx) ∈ r → (dx, o) ∈ r → DV w [(n1, u1), (n2, u2), (n3, u3)] o → p1 u1 → p2 u2 → p3 u3 → handedIn u1 = true → handedIn u2 = true → handedIn u3 = true → P) : P := by
  walk_at "l"; refine h.open fun x dx o es a b c d e => e.oc fun zz zz e1 f1 e => e.oc fun zz zz e2 f2 e => e.oc fun zz zz e3 f3 e => e.o0 fun e4 => f1.o fun u1 q1 g1 h1 => f2.o fun u2 q2 g2 h2 => f3.o fun u3 q3 g3 h3 => ?_
  walk_at "e"; subst e4 q1 q2 q3 e3 e2 e1
  walk_at "l"; exact k x dx o u1 u2 u3 a b c d g1 g2 g3 h1 h2 h3
theorem InsP.o4 {C : Nat} {n1 n2 n3 n4 : Str} {p1 p2 p3 p4 : Value → Prop} {v : Value} {P : Prop} (h : InsP w r C [(n1, p1), (n2, p2), (n3, p3), (n4, p4)] v) (k : ∀ x dx o u1 u2 u3 u4, v = .ref x → (x, instObj C dx) ∈ r → (dx, o) ∈ r → DV w [(n1, u1), (n2, u2), (n3, u3), (n4, u4)] o → p1 u1 → p2 u2 → p3 u3 → p4 u4 → handedIn u1 = true → handedIn u2 = true → handedIn u3 = true → handedIn u4 = true → P) : P := by
  walk_at "l"; refine h.open fun x dx o es a b c d e => e.oc fun zz zz e1 f1 e => e.oc fun zz zz e2 f2 e => e.oc fun zz zz e3 f3 e => e.oc fun zz zz e4 f4 e => e.o0 fun e5 => f1.o fun u1 q1 g1 h1 => f2.o fun u2 q2 g2 h2 => f3.o fun u3 q3 g3 h3 => f4.o fun u4 q4 g4 h4 => ?_
  walk_at "e"; subst e5 q1 q2 q3 q4 e4 e3 e2 e1
  walk_at "l"; exact k x dx o u1 u2 u3 u4 a b c d g1 g2 g3 g4 h1 h2 h3 h4
theorem LstP.o0 {v : Value} {P : Prop} (h : LstP r [] v) (k : ∀ x, v = .ref x → (x, listOf [].toArray 0) ∈ r → P) : P := by
  walk_at "e"; obtain ⟨x, l, a, b, c⟩ := h
  walk_at "e"; cases c
  walk_at "l"; exact k x a b
theorem LstP.o1 {p1 : Value → Prop} {v : Value} {P : Prop} (h : LstP r [p1] v) (k : ∀ x u1, v = .ref x → (x, listOf [u1].toArray 0) ∈ r → p1 u1 → handedIn u1 = true → P) : P := by
  walk_at "e"; obtain ⟨x, l, a, b, c⟩ := h
  walk_at "l"; refine c.oc fun u1 zz e1 f1 c => c.o0 fun e2 => ?_
  walk_at "e"; subst e2 e1
  walk_at "l"; exact k x u1 a b f1.1 f1.2
theorem LstP.o2 {p1 p2 : Value → Prop} {v : Value} {P : Prop} (h : LstP r [p1, p2] v) (k : ∀ x u1 u2, v = .ref x → (x, listOf [u1, u2].toArray 0) ∈ r → p1 u1 → p2 u2 → handedIn u1 = true → handedIn u2 = true → P) : P := by
  walk_at "e"; obtain ⟨x, l, a, b, c⟩ := h
  walk_at "l"; refine c.oc fun u1 zz e1 f1 c => c.oc fun u2 zz e2 f2 c => c.o0 fun e3 => ?_
  walk_at "e"; subst e3 e2 e1
  walk_at "l"; exact k x u1 u2 a b f1.1 f2.1 f1.2 f2.2
noncomputable def FdS (τ : Vt) (ρ : List Addr) (f : Str × (Value → Prop)) (s : Str × SV) : Prop := s.1 = f.1 ∧ (∀ u, VR τ ρ s.2 u → f.2 u) ∧ handS s.2 = true
theorem FdS.all (hV : ∀ i, handedIn (τ.V i) = true) {fs : Fd} {ses : List (Str × SV)} {es : List (Str × Value)} (h : All2 (FdS τ ρ) fs ses) (a : All2 (SvE τ ρ) ses es) : All2 FdR fs es := by
  walk_at "l"; induction h generalizing es with
  | nil => walk_at "e"; cases a; walk_at "l"; exact .nil
  | cons x _ ih => walk_at "e"; cases a with
    | cons y ys => walk_at "l"; exact .cons ⟨y.1.symm.trans x.1, x.2.1 _ y.2, y.2.handed hV x.2.2⟩ (ih ys)
theorem ins_mk {nl : List (Nat × SO)} {nw : Ld} (hV : ∀ i, handedIn (τ.V i) = true) (L : LR w τ ρ nl nw) {i d C n : Nat} {ses : List (Str × SV)} {fs : Fd} (h1 : nl.lookup i = some (.inst C d)) (h2 : nl.lookup d = some (.dict ses n)) (hn : n = ses.length) (hf : All2 (FdS τ ρ) fs ses) {v : Value} (hv : VR τ ρ (.a i) v) : InsP w (nw ++ r) C fs v := by
  walk_at "e"; obtain ⟨x, ob, a1, a2, dx, a3, rfl⟩ := L.look h1
  walk_at "e"; obtain ⟨dx', ob', b1, b2, b3⟩ := L.look h2
  rw [a3] at b1; walk_at "e"; cases b1
  walk_at "e"; obtain ⟨es, hD, hE⟩ := DV.of b3 hn
  walk_at "e"; obtain ⟨x', c1, rfl⟩ := hv
  rw [a1] at c1; walk_at "e"; cases c1
  walk_at "l"; exact ⟨x, dx, ob', es, rfl, List.mem_append_left _ a2, List.mem_append_left _ b2, hD, FdS.all hV hf hE⟩
theorem lst_mk {nl : List (Nat × SO)} {nw : Ld} (hV : ∀ i, handedIn (τ.V i) = true) (L : LR w τ ρ nl nw) {i : Nat} {ss : List SV} {ps : List (Value → Prop)} (h1 : nl.lookup i = some (.list ss 0)) (hf : All2 (fun (p : Value → Prop) s => (∀ u, VR τ ρ s u → p u) ∧ handS s = true) ps ss) {v : Value} (hv : VR τ ρ (.a i) v) : LstP (nw ++ r) ps v := by
  walk_at "e"; obtain ⟨x, ob, a1, a2, l, rfl, a3⟩ := L.look h1
  walk_at "e"; obtain ⟨x', c1, rfl⟩ := hv
  rw [a1] at c1; walk_at "e"; cases c1
  walk_at "l"; refine ⟨x, l, rfl, List.mem_append_left _ a2, ?_⟩
  clear a1 a2 h1
  walk_at "l"; induction hf generalizing l with
  | nil => walk_at "e"; cases a3; walk_at "l"; exact .nil
  | cons p _ ih => walk_at "e"; cases a3 with
    | cons y ys => walk_at "l"; exact .cons ⟨p.1 _ y, y.handed hV p.2⟩ (ih _ ys)
end
end NT
end
section
open PySem PySem.W PySem.Calls PyProof.Rows
namespace NT
theorem All2.split {α β : Type} {R : α → β → Prop} {a b : List α} : ∀ {m : List β}, All2 R (a ++ b) m → ∃ m1 m2, m = m1 ++ m2 ∧ All2 R a m1 ∧ All2 R b m2 := by
  walk_at "l"; induction a with
  | nil => walk_at "l"; exact fun {m} h => ⟨[], m, rfl, .nil, h⟩
  | cons x a ih =>
    walk_at "l"; intro m h
    walk_at "e"; cases h with
    | cons r h =>
      walk_at "e"; obtain ⟨m1, m2, rfl, h1, h2⟩ := ih h
      walk_at "l"; exact ⟨_ :: m1, m2, rfl, .cons r h1, h2⟩
noncomputable def gB (w : World) : Gx := ⟨w, mkT [] [] [], ⟨K w.params, [], [], [], [], []⟩, [], [], 0, []⟩
noncomputable def Turn (w : World) (cs : Scope) (t : PySem.Expr) (b : List Stmt) (am : Addr) (pre : Ld) (Post : Ld → Prop) : Prop :=
  ∀ (f : Fx) (m : Str → Option Value) (s : Shared), FOk (gB w) cs 60 f → Fr f.h₀ f.L s.heap m → News f.h₀ f.L s.heap pre → m "self" = some (.ref am) →
    wpAny (model PW w) f.A (PySem.isTrue t f.env (eval t f.env)) (fun c s₂ => if c = true then wpAny (model PW w) f.A (execs b f.env) (fun fl s' => fl = .next ∧ ∃ m' h tk post, s' = { s with heap := h, toks := tk } ∧ Fr f.h₀ f.L h m' ∧ News f.h₀ f.L h post ∧ m' "self" = some (.ref am) ∧ Post post) f.E s₂ else False) f.E s
theorem pair_two {p q : Addr × Obj} (h : @Ne Nat q.1 p.1) : [p, q].Pairwise fun p q => q.1 ≠ p.1 := by
  walk_at "l"; simp only [List.pairwise_cons, List.mem_cons, List.not_mem_nil, or_false, forall_eq, false_implies, implies_true, List.Pairwise.nil, and_true]
  walk_at "l"; exact h
theorem sub3 {a b : Addr × Obj} {nw r : Ld} : Sub (a :: b :: (nw ++ r)) ((nw ++ [a, b]) ++ r) := by
  walk_at "l"; intro p hp
  walk_at "l"; simp only [List.mem_cons, List.mem_append, List.not_mem_nil, or_false] at hp ⊢
  walk_at "l"; rcases hp with h | h | h | h <;> simp [h]
section
variable {w : World} {C : Cst} {B0 : Nd} {n : Int} {r : Ld} {om ofl : Obj} {σ σ' : St}
theorem tr {i : TI} {o : TO} {cs : Scope} {t : PySem.Expr} {b : List Stmt} (hl : loopOf (K w.params) = some (cs, t, b)) (hgo : i.go w.params = some o.st) (H : StIn w C B0 n r om ofl σ)
    (τ : Vt) (ρ : List Addr) (hρ : ρ.length = i.nx) (h0 : ρ[0]? = some C.am) (h1 : ρ[1]? = some C.dm) (h2 : ρ[2]? = some C.dv)
    {us : List (Str × Value)} (hD : DV w us om) (hm : All2 (SvE τ ρ) (mS i.sm) us)
    (hfc : ∀ op a b r, (op, a, b, r) ∈ i.fc → cmpOk op (τ.iv a.1 a.2) (τ.iv b.1 b.2) r) (hV : ∀ i, handedIn (τ.V i) = true)
    (hdk : ∀ j k sv, (j, k, sv) ∈ i.dk → ∃ v, valueAt (τ.D j) (τ.iv k.1 k.2) = some v ∧ VR τ ρ sv v)
    (hext : ∀ fa args sv, (fa, args, sv) ∈ i.ext → ∀ vs, All2 (VR τ ρ) args vs → ∀ led : Ld, (∀ p ∈ r, p ∈ led) → (∀ p ∈ led, @LT.lt Nat _ 1 p.1) → Says w 10 fa vs led (fun r l => VR τ ρ sv r ∧ l = led))
    (hro : RoI w τ ρ r i.ro) (hfl : ofl.IsDictOf (intKind PW w) (τ.D 0)) (hfl2 : (τ.D 0).length ≤ 1000) (hn : o.nl.all (fun p => Nat.ble i.nx p.1) = true)
    (post : ∀ ρ' nw, Le ρ ρ' → LR w τ ρ' o.nl nw → (∀ ofl', OR w τ ρ' o.dv ofl' → FlIn w n ofl' σ'.fl) ∧ All2 (FdS τ ρ') (mF w C (nw ++ r) σ') (mS o.sm)) :
    Turn w cs t b C.am ((C.dm, om) :: (C.dv, ofl) :: r) (fun l => ∃ om' ofl' r', Sub ((C.dm, om') :: (C.dv, ofl') :: r') l ∧ StIn w C B0 n r' om' ofl' σ') := by
  walk_at "l"; intro f m s O F N hself
  have B := H.base
  let g : Gx := ⟨w, τ, i.X w.params, r, (C.dm, om) :: (C.dv, ofl) :: r, i.nx, ρ⟩
  have G : g.Ok := ⟨rfl, hfc, hV, hdk, hext⟩
  have O' : FOk g cs 60 f := O.to rfl rfl
  have S : SR g f ρ ⟨[("self", .a 0)], [(1, .dict (mS i.sm) 13), (2, .xdict 0)], i.nx⟩ m [(C.dm, om), (C.dv, ofl)] s.heap := by
    walk_at "l"; refine ⟨F, N, ?_, .cons ⟨h1, ?_⟩ (.cons ⟨h2, hfl, hfl2⟩ .nil), hρ, ?_, ?_, ?_, hro.look, fun q hq => ⟨q.2, hq⟩, .refl _, ?_, ?_⟩
    · walk_at "l"; intro x sv hx
      rw [List.lookup_cons] at hx
      walk_at "l"; cases q : (x == ("self" : Str)) with
      | true =>
        rw [q] at hx; walk_at "e"; cases hx
        walk_at "l"; rw [eq_of_beq q]
        walk_at "l"; exact ⟨_, hself, _, h0, rfl⟩
      | false => rw [q] at hx; cases hx
    · have := hD.or hm
      rw [← hm.length] at this
      walk_at "l"; exact this
    · walk_at "l"; intro p hp q hq
      walk_at "e"; rcases List.mem_cons.mp hp with rfl | hp
      · walk_at "l"; exact B.hdm q hq
      · walk_at "e"; rcases List.mem_cons.mp hp with rfl | hp
        · walk_at "l"; exact B.hdv q hq
        · walk_at "l"; nomatch hp
    · walk_at "l"; exact pair_two B.hd.symm
    · walk_at "l"; intro j hj x hx
      have := (List.getElem?_eq_some_iff.mp hx).1
      rw [hρ] at this
      walk_at "l"; exact absurd hj (Nat.not_le.mpr this)
    · walk_at "l"; exact List.forall_mem_cons.mpr ⟨B.lowm, List.forall_mem_cons.mpr ⟨B.lowv, B.low⟩⟩
    · walk_at "l"; exact List.ne_nil_of_mem B.hI
  unfold TI.go turn at hgo
  have hl' : loopOf (i.X w.params).K = some (cs, t, b) := hl
  rw [hl'] at hgo
  walk_at "e"; obtain ⟨⟨c, st₁⟩, k1, k2⟩ := bs hgo
  walk_at "e"; obtain ⟨_, k3, k4⟩ := bs k2
  walk_at "e"; obtain ⟨⟨fl, st₂⟩, k5, k6⟩ := bs k4
  walk_at "l"; refine seq (f := f) (g := g) ((recN_ok 200).T k1 (g := g) rfl G O' S rfl) fun v ρ₁ m₁ news₁ h₁ tk₁ le S₁ rv => ?_
  walk_at "l"; rw [rv, ck_t k3]
  walk_at "l"; refine ite_pos rfl (wpAny_mono ((recN_ok 200).B k5 (g := g) (s := { s with heap := h₁, toks := tk₁ }) rfl G O' S₁) (fun v s' q => ?_) fun zz zz q => q)
  walk_at "e"; obtain ⟨ρ₂, m₂, news₂, h', tk', le₂, rfl, S₂, rfl'⟩ := q
  walk_at "e"; cases fl with
  | ret _ => walk_at "e"; cases k6
  | next =>
    have k7 : st₂ = o.st := Option.some.inj k6
    walk_at "e"; subst k7
    have le' := le.trans le₂
    walk_at "e"; obtain ⟨nw, m2, e, L, L2⟩ := All2.split (a := o.nl) S₂.led
    walk_at "l"; refine ⟨rfl', m₂, h', tk', _, rfl, S₂.F, S₂.N, ?_, ?_⟩
    · walk_at "e"; obtain ⟨v, a, x, c, d⟩ := S₂.loc "self" (.a 0) rfl
      rw [le' _ _ h0] at c
      walk_at "e"; cases c
      walk_at "l"; rw [a, d]
    · walk_at "l"; refine L2.oc fun q1 zz e1 f1 L2 => L2.oc fun q2 zz e2 f2 L2 => L2.o0 fun e3 => ?_
      walk_at "e"; subst e3 e2 e1
      have d1 : q1.1 = C.dm := by have := f1.1; rw [le' _ _ h1] at this; exact (Option.some.inj this).symm
      have d2 : q2.1 = C.dv := by have := f2.1; rw [le' _ _ h2] at this; exact (Option.some.inj this).symm
      have up : ∀ p ∈ nw, ∀ q ∈ (C.dm, om) :: (C.dv, ofl) :: r, @LT.lt Nat _ q.1 p.1 := by
        walk_at "l"; intro p hp
        have : ∃ j, Nat.ble i.nx j = true ∧ ρ₂[j]? = some p.1 := by
          clear e S₂ k6
          revert hn
          walk_at "l"; generalize o.nl = nl at L
          walk_at "l"; intro hn
          walk_at "l"; induction L with
          | nil => walk_at "l"; nomatch hp
          | @cons a b _ _ x _ ih =>
            rw [List.all_cons, Bool.and_eq_true] at hn
            walk_at "e"; rcases List.mem_cons.mp hp with rfl | hp
            · walk_at "l"; exact ⟨a.1, hn.1, x.1⟩
            · walk_at "l"; exact ih hp hn.2
        walk_at "e"; obtain ⟨j, j1, j2⟩ := this
        walk_at "l"; exact fun q hq => S₂.up j (Nat.le_of_ble_eq_true j1) _ j2 q hq
      walk_at "e"; obtain ⟨pf, pm⟩ := post ρ₂ nw le' L
      have hdm : @LT.lt Nat _ 1 C.dm := B.lowm
      walk_at "l"; refine ⟨q1.2, q2.2, nw ++ r, ?_, B.mono (fun p hp => List.mem_append_right _ hp) ?_ ?_ ?_, ?_, pf _ f2.2⟩
      · walk_at "e"; subst e
        walk_at "l"; rw [show ((C.dm, q1.2) : Addr × Obj) = q1 from by rw [← d1], show ((C.dv, q2.2) : Addr × Obj) = q2 from by rw [← d2]]
        walk_at "l"; exact sub3
      · walk_at "l"; intro p hp
        walk_at "e"; rcases List.mem_append.mp hp with hp | hp
        · walk_at "l"; exact Nat.ne_of_gt (up p hp (C.dm, om) (.head _))
        · walk_at "l"; exact B.hdm p hp
      · walk_at "l"; intro p hp
        walk_at "e"; rcases List.mem_append.mp hp with hp | hp
        · walk_at "l"; exact Nat.ne_of_gt (up p hp (C.dv, ofl) (.tail _ (.head _)))
        · walk_at "l"; exact B.hdv p hp
      · walk_at "l"; intro p hp
        walk_at "e"; rcases List.mem_append.mp hp with hp | hp
        · walk_at "l"; exact Nat.lt_trans hdm (up p hp (C.dm, om) (.head _))
        · walk_at "l"; exact B.low p hp
      · walk_at "e"; obtain ⟨es, hD', hE⟩ := DV.of f1.2 rfl
        walk_at "l"; exact ⟨es, hD', FdS.all hV pm hE⟩
end
end NT
end
section
open PySem PySem.W PySem.Calls PyProof.Rows
namespace NT
structure MV where
  (tops lim lib asg steps calls deep mode node scope proc vals frame : Value)
noncomputable def MV.es (d : MV) : List (Str × Value) := [("tops", d.tops), ("limit", d.lim), ("library", d.lib), ("assigned", d.asg), ("steps", d.steps), ("calls", d.calls), ("deepest", d.deep), ("mode", d.mode), ("node", d.node), ("scope", d.scope), ("procedure", d.proc), ("values", d.vals), ("frame", d.frame)]
noncomputable def MV.vs (d : MV) : List Value := [d.tops, d.lib, d.asg, d.node, d.scope, d.proc, d.vals, d.frame]
structure MOp (w : World) (C : Cst) (r : Ld) (σ : St) (om : Obj) (d : MV) (kc : Int) : Prop where
  dv : DV w d.es om
  tops : d.tops = .ref C.tp
  lim : IsI 6000 d.lim
  lib : d.lib = .ref C.ab
  steps : IsI σ.st d.steps
  calls : IsI kc d.calls
  c0 : 0 ≤ kc
  c1 : kc ≤ σ.st
  deep : IsI σ.dp d.deep
  mode : IsI (mdI σ.md) d.mode
  node : mdN w r σ.md d.node
  scope : mdS w C.sz r σ.md d.scope
  proc : mdP w C.sz r σ.md d.proc
  vals : mdV w C.sz r σ.md d.vals
  frame : FsIn w C.sz r σ.fs d.frame
  hd : ∀ v ∈ d.vs, handedIn v = true
theorem hl_nil : ∀ v ∈ ([] : List Value), handedIn v = true := fun zz h => nomatch h
theorem hl_cons {a : Value} {l : List Value} (h : handedIn a = true) (t : ∀ v ∈ l, handedIn v = true) : ∀ v ∈ a :: l, handedIn v = true := List.forall_mem_cons.mpr ⟨h, t⟩
theorem hl_app {l m : List Value} (h : ∀ v ∈ l, handedIn v = true) (t : ∀ v ∈ m, handedIn v = true) : ∀ v ∈ l ++ m, handedIn v = true := fun v hv => (List.mem_append.mp hv).elim (h v) (t v)
section
variable {w : World} {C : Cst} {B0 : Nd} {n : Int} {r : Ld} {om ofl : Obj} {σ σ' : St}
theorem StIn.open (H : StIn w C B0 n r om ofl σ) {P : Prop} (k : ∀ d kc, MOp w C r σ om d kc → P) : P := by
  walk_at "e"; obtain ⟨es, hD, h⟩ := H.mach
  walk_at "l"; refine h.oc fun zz zz e1 f1 h => h.oc fun zz zz e2 f2 h => h.oc fun zz zz e3 f3 h => h.oc fun zz zz e4 f4 h => h.oc fun zz zz e5 f5 h => h.oc fun zz zz e6 f6 h => h.oc fun zz zz e7 f7 h => h.oc fun zz zz e8 f8 h => h.oc fun zz zz e9 f9 h => h.oc fun zz zz e10 f10 h => h.oc fun zz zz e11 f11 h => h.oc fun zz zz e12 f12 h => h.oc fun zz zz e13 f13 h => h.o0 fun e14 => ?_
  walk_at "l"; refine f1.o fun u1 q1 g1 h1 => f2.o fun u2 q2 g2 h2 => f3.o fun u3 q3 g3 h3 => f4.o fun u4 q4 g4 h4 => f5.o fun u5 q5 g5 h5 => f6.o fun u6 q6 g6 h6 => f7.o fun u7 q7 g7 h7 => f8.o fun u8 q8 g8 h8 => f9.o fun u9 q9 g9 h9 => f10.o fun u10 q10 g10 h10 => f11.o fun u11 q11 g11 h11 => f12.o fun u12 q12 g12 h12 => f13.o fun u13 q13 g13 h13 => ?_
  walk_at "e"; subst e14 q13 q12 q11 q10 q9 q8 q7 q6 q5 q4 q3 q2 q1 e13 e12 e11 e10 e9 e8 e7 e6 e5 e4 e3 e2 e1
  walk_at "e"; obtain ⟨kc, c0, c1, g6⟩ := g6
  walk_at "l"; exact k ⟨u1, u2, u3, u4, u5, u6, u7, u8, u9, u10, u11, u12, u13⟩ kc ⟨hD, g1, g2, g3, g5, g6, c0, c1, g7, g8, g9, g10, g11, g12, g13, hl_cons h1 (hl_cons h3 (hl_cons h4 (hl_cons h9 (hl_cons h10 (hl_cons h11 (hl_cons h12 (hl_cons h13 hl_nil)))))))⟩
theorem VR.ref_eq {τ : Vt} {ρ ρ' : List Addr} {sv : SV} {x : Addr} {u : Value} (h : VR τ ρ sv (.ref x)) (le : Le ρ ρ') (h' : VR τ ρ' sv u) : u = .ref x := by
  walk_at "e"; cases sv with
  | k => walk_at "e"; cases h; walk_at "l"; exact h'
  | v => walk_at "l"; exact h'.trans h.symm
  | a i =>
    walk_at "e"; obtain ⟨y, a, e⟩ := h
    walk_at "e"; obtain ⟨z, b, e'⟩ := h'
    rw [le _ _ a] at b
    walk_at "e"; cases b
    walk_at "l"; exact e'.trans e.symm
  | none => walk_at "e"; cases h
  | bool => walk_at "e"; cases h
  | bi => walk_at "e"; cases h
  | ty => walk_at "e"; cases h
  | int => walk_at "e"; obtain ⟨_, h⟩ := h; cases h
  | str => walk_at "e"; obtain ⟨_, h⟩ := h; cases h
theorem VR.keep {τ : Vt} {ρ ρ' : List Addr} {sv : SV} {x : Addr} {v : Value} (h : VR τ ρ sv v) (e : v = .ref x) (le : Le ρ ρ') {P : Value → Prop} (p : P v) : ∀ u, VR τ ρ' sv u → P u := fun u h' => by
  walk_at "e"; subst e
  walk_at "l"; rw [h.ref_eq le h']; exact p
theorem mop_in {d : MV} {kc : Int} (M : MOp w C r σ om d kc) {τ : Vt} {ρ : List Addr} {st sl sn ss sp sv sf : SV} {mo : Int} (e0 : τ.I 0 = σ.st) (e1 : τ.I 1 = kc) (e2 : τ.I 2 = σ.dp) (ea : τ.V 2 = d.asg) (em : mdI σ.md = mo)
    (ht : VR τ ρ st d.tops) (hl : VR τ ρ sl d.lib) (hn : VR τ ρ sn d.node) (hs : VR τ ρ ss d.scope) (hp : VR τ ρ sp d.proc) (hv : VR τ ρ sv d.vals) (hf : VR τ ρ sf d.frame) :
    All2 (SvE τ ρ) (mS ⟨st, .int 0 6000, sl, .v 2, .int 1 0, .int 2 0, .int 3 0, .int 0 mo, sn, ss, sp, sv, sf⟩) d.es :=
  .cons ⟨rfl, ht⟩ (.cons ⟨rfl, .lit M.lim⟩ (.cons ⟨rfl, hl⟩ (.cons ⟨rfl, ea.symm⟩ (.cons ⟨rfl, .ofI M.steps e0⟩ (.cons ⟨rfl, .ofI M.calls e1⟩ (.cons ⟨rfl, .ofI M.deep e2⟩ (.cons ⟨rfl, .lit (em ▸ M.mode)⟩ (.cons ⟨rfl, hn⟩ (.cons ⟨rfl, hs⟩ (.cons ⟨rfl, hp⟩ (.cons ⟨rfl, hv⟩ (.cons ⟨rfl, hf⟩ .nil))))))))))))
theorem mop_out {d : MV} {kc : Int} (M : MOp w C r σ om d kc) {τ : Vt} {ρ ρ' : List Addr} (le : Le ρ ρ') {r' : Ld} {st sl sn ss sp sv sf sd : SV} {mo c : Int} (e0 : τ.I 0 = σ.st) (e1 : τ.I 1 = kc) (hst : σ'.st = σ.st + 1) (hc : 0 ≤ c ∧ c ≤ 1) (em : mdI σ'.md = mo)
    (ht : VR τ ρ st d.tops) (hl : VR τ ρ sl d.lib) (hd : ∀ u, VR τ ρ' sd u → IsI σ'.dp u) (hn : ∀ u, VR τ ρ' sn u → mdN w r' σ'.md u) (hs : ∀ u, VR τ ρ' ss u → mdS w C.sz r' σ'.md u) (hp : ∀ u, VR τ ρ' sp u → mdP w C.sz r' σ'.md u)
    (hv : ∀ u, VR τ ρ' sv u → mdV w C.sz r' σ'.md u) (hf : ∀ u, VR τ ρ' sf u → FsIn w C.sz r' σ'.fs u) (hsd : handS sd = true) (hh : ([st, sl, sn, ss, sp, sv, sf].all handS) = true) :
    All2 (FdS τ ρ') (mF w C r' σ') (mS ⟨st, .int 0 6000, sl, .v 2, .int 1 1, .int 2 c, sd, .int 0 mo, sn, ss, sp, sv, sf⟩) := by
  simp only [List.all_cons, List.all_nil, Bool.and_true, Bool.and_eq_true] at hh
  walk_at "e"; obtain ⟨a1, a2, a4, a5, a6, a7, a8⟩ := hh
  rw [M.tops] at ht
  rw [M.lib] at hl
  walk_at "l"; exact .cons ⟨rfl, fun u h => ht.ref_eq le h, a1⟩ (.cons ⟨rfl, fun u h => h, rfl⟩ (.cons ⟨rfl, fun u h => hl.ref_eq le h, a2⟩ (.cons ⟨rfl, fun zz zz => trivial, rfl⟩ (.cons ⟨rfl, fun u h => h.isI (by rw [e0, hst]), rfl⟩
    (.cons ⟨rfl, fun u h => ⟨kc + c, by have := M.c0; lia, by have := M.c1; lia, h.isI (by rw [e1])⟩, rfl⟩ (.cons ⟨rfl, hd, hsd⟩ (.cons ⟨rfl, fun u h => em ▸ h, rfl⟩ (.cons ⟨rfl, hn, a4⟩ (.cons ⟨rfl, hs, a5⟩ (.cons ⟨rfl, hp, a6⟩ (.cons ⟨rfl, hv, a7⟩ (.cons ⟨rfl, hf, a8⟩ .nil))))))))))))
theorem fc1 {τ : Vt} {s : Int} (e : τ.I 0 = s) (h : s < 6000) : ∀ op a b r, (op, a, b, r) ∈ ([(.GtE, (1, 0), (0, 6000), false)] : Facts) → cmpOk op (τ.iv a.1 a.2) (τ.iv b.1 b.2) r := by
  walk_at "l"; intro op a b r hm
  walk_at "e"; rcases List.mem_cons.mp hm with e' | hm
  · walk_at "e"; cases e'
    walk_at "l"; show decide ((6000 : Int) ≤ τ.I 0 + 0) = false
    walk_at "l"; exact decide_eq_false (by lia)
  · walk_at "l"; nomatch hm
theorem no_dk {P : Nat → Nat × Int → SV → Prop} : ∀ j k sv, (j, k, sv) ∈ ([] : List (Nat × (Nat × Int) × SV)) → P j k sv := fun zz zz zz h => nomatch h
theorem no_ext {P : Nat → List SV → SV → Prop} : ∀ j k sv, (j, k, sv) ∈ ([] : List (Nat × List SV × SV)) → P j k sv := fun zz zz zz h => nomatch h
theorem fl_keep {τ : Vt} {ρ : List Addr} {kvs : List (Int × Value)} {fl : Int → Bool} (hD : τ.D 0 = kvs) (h : (∀ g, 0 ≤ g → g < n → valueAt kvs g = some (.bool (fl g)))) (hl : kvs.length ≤ 7) : ∀ o, OR w τ ρ (.xdict 0) o → FlIn w n o fl := fun o ho => ⟨kvs, hD ▸ ho.1, h, hl⟩
noncomputable abbrev Nxt (w : World) (C : Cst) (B0 : Nd) (n : Int) (σ' : St) : Ld → Prop := fun l => ∃ om' ofl' r', Sub ((C.dm, om') :: (C.dv, ofl') :: r') l ∧ StIn w C B0 n r' om' ofl' σ'
theorem sub_app {nw : Ld} : Sub r (nw ++ r) := fun zz h => List.mem_append_right _ h
variable {cs : Scope} {t : PySem.Expr} {b : List Stmt} {fs : List Fm} {fl : Int → Bool} {st dp : Int}
end
end NT
end
section
open PySem PySem.W PySem.Calls PyProof.Rows
namespace NT
section
variable {w : World} {C : Cst} {B0 : Nd} {n : Int} {r : Ld} {om ofl : Obj}
theorem InsP.o6 {C : Nat} {n1 n2 n3 n4 n5 n6 : Str} {p1 p2 p3 p4 p5 p6 : Value → Prop} {v : Value} {P : Prop} (h : InsP w r C [(n1, p1), (n2, p2), (n3, p3), (n4, p4), (n5, p5), (n6, p6)] v) (k : ∀ x dx o u1 u2 u3 u4 u5 u6, v = .ref x → (x, instObj C dx) ∈ r → (dx, o) ∈ r → DV w [(n1, u1), (n2, u2), (n3, u3), (n4, u4), (n5, u5), (n6, u6)] o →
    p1 u1 → p2 u2 → p3 u3 → p4 u4 → p5 u5 → p6 u6 → handedIn u1 = true → handedIn u2 = true → handedIn u3 = true → handedIn u4 = true → handedIn u5 = true → P) : P := by
  walk_at "l"; refine h.open fun x dx o es a b c d e => e.oc fun zz zz e1 f1 e => e.oc fun zz zz e2 f2 e => e.oc fun zz zz e3 f3 e => e.oc fun zz zz e4 f4 e => e.oc fun zz zz e5 f5 e => e.oc fun zz zz e6 f6 e => e.o0 fun e7 =>
    f1.o fun u1 q1 g1 h1 => f2.o fun u2 q2 g2 h2 => f3.o fun u3 q3 g3 h3 => f4.o fun u4 q4 g4 h4 => f5.o fun u5 q5 g5 h5 => f6.o fun u6 q6 g6 h6 => ?_
  walk_at "e"; subst e7 q1 q2 q3 q4 q5 q6 e6 e5 e4 e3 e2 e1
  walk_at "l"; exact k x dx o u1 u2 u3 u4 u5 u6 a b c d g1 g2 g3 g4 g5 g6 h1 h2 h3 h4 h5
structure PV (w : World) (C : Cst) (r : Ld) (fs : List Fm) (fv : Value) (dp st : Int) (v : Nat) (fx fdx : Addr) (f1 f2 f3 f4 f5 : Value) (dj : Int) : Prop where
  lt : v < 4
  hd : handedIn f1 = true ∧ handedIn f2 = true ∧ handedIn f3 = true ∧ handedIn f4 = true ∧ handedIn f5 = true
  use : ∀ (a j : Nat) (τ : Vt) (ρ : List Addr), ρ[a]? = some fx → ρ[a + 1]? = some fdx → τ.V 8 = f1 → τ.V 9 = f2 → τ.V 10 = f3 → τ.V 11 = f4 → τ.V 12 = f5 → τ.I j = dj → τ.I 2 = dp → τ.I 0 = st →
    VR τ ρ (frP a v) fv ∧ RoI w τ ρ r (roP a (j + 1) v) ∧ (∀ op a b r, (op, a, b, r) ∈ fcP (j + 1) v → cmpOk op (τ.iv a.1 a.2) (τ.iv b.1 b.2) r) ∧
    ∀ ρ', Le ρ ρ' → (∀ u, VR τ ρ' (frP a v) u → u = fv) ∧ (∀ u, VR τ ρ' (depP (j + 1) v) u → IsI (fs.length + 1) u) ∧ (∀ u, VR τ ρ' (deepP (j + 1) v) u → IsI (up fs dp) u)
  hs : ∀ a j, handS (frP a v) = true ∧ handS (depP j v) = true ∧ handS (deepP j v) = true
theorem fc2 {τ : Vt} {x y : Nat × Int} {q : Bool} (h : τ.I 0 < 6000) (h2 : decide (τ.iv y.1 y.2 < τ.iv x.1 x.2) = q) : ∀ op a b r, (op, a, b, r) ∈ ([(.GtE, (1, 0), (0, 6000), false), (.Gt, x, y, q)] : Facts) → cmpOk op (τ.iv a.1 a.2) (τ.iv b.1 b.2) r := by
  walk_at "l"; intro op a b r hm
  walk_at "e"; rcases List.mem_cons.mp hm with e' | hm
  · walk_at "l"; exact fc1 rfl h op a b r (e' ▸ .head _)
  · walk_at "e"; rcases List.mem_cons.mp hm with e' | hm
    · walk_at "e"; cases e'; walk_at "l"; exact h2
    · walk_at "l"; nomatch hm
theorem pv_of {fs : List Fm} {fv : Value} {dp st : Int} (h : FsIn w C.sz r fs fv) (h1 : st < 6000) {P : Prop} (k : ∀ v fx fdx f1 f2 f3 f4 f5 dj, PV w C r fs fv dp st v fx fdx f1 f2 f3 f4 f5 dj → P) : P := by
  walk_at "e"; cases fs with
  | nil =>
    have h : fv = .none := h
    walk_at "e"; subst h
    walk_at "e"; by_cases q : (1 : Int) > dp
    · walk_at "l"; refine k 0 0 0 .none .none .none .none .none 0 ⟨by decide, ⟨rfl, rfl, rfl, rfl, rfl⟩, fun a j τ ρ zz zz zz zz zz zz zz zz e2 e0 => ⟨rfl, .nil, fc2 (e0 ▸ h1) ?_, fun ρ' le => ⟨fun u h => h, fun u h => h, fun u h => ?_⟩⟩, fun zz zz => ⟨rfl, rfl, rfl⟩⟩
      · walk_at "l"; show decide (τ.I 2 + 0 < 1) = true; exact decide_eq_true (by lia)
      · have : up [] dp = 1 := if_pos q
        walk_at "l"; rw [this]; exact h
    · walk_at "l"; refine k 1 0 0 .none .none .none .none .none 0 ⟨by decide, ⟨rfl, rfl, rfl, rfl, rfl⟩, fun a j τ ρ zz zz zz zz zz zz zz zz e2 e0 => ⟨rfl, .nil, fc2 (e0 ▸ h1) ?_, fun ρ' le => ⟨fun u h => h, fun u h => h, fun u h => ?_⟩⟩, fun zz zz => ⟨rfl, rfl, rfl⟩⟩
      · walk_at "l"; show decide (τ.I 2 + 0 < 1) = false; exact decide_eq_false (by lia)
      · have : up [] dp = dp := if_neg q
        walk_at "l"; rw [this]; exact VR.isI h (by rw [e2]; exact Int.add_zero _)
  | cons f fs =>
    have hf : ∃ p1 p2 p3 p4, fmF w C.sz r f = ([("kind", p1), ("node", p2), ("scope", p3), ("done", p4)] : Fd) := by cases f <;> exact ⟨_, _, _, _, rfl⟩
    walk_at "e"; obtain ⟨p1, p2, p3, p4, hf⟩ := hf
    have h : InsP w r 910 (fmF w C.sz r f ++ ([("outer", FsIn w C.sz r fs), ("depth", IsI (fs.length + 1))] : Fd)) fv := h
    rw [hf] at h
    walk_at "l"; refine InsP.o6 h fun x dx o u1 u2 u3 u4 u5 u6 e1 hx hdx hD zz zz zz zz zz g6 a1 a2 a3 a4 a5 => ?_
    have ro : ∀ (a j : Nat) (τ : Vt) (ρ : List Addr), ρ[a]? = some x → ρ[a + 1]? = some dx → τ.V 8 = u1 → τ.V 9 = u2 → τ.V 10 = u3 → τ.V 11 = u4 → τ.V 12 = u5 → τ.I j = (fs.length : Int) + 1 → RoI w τ ρ r [(a, .inst 910 (a + 1)), (a + 1, .dict [("kind", .v 8), ("node", .v 9), ("scope", .v 10), ("done", .v 11), ("outer", .v 12), ("depth", .int (j + 1) 0)] 6)] :=
      fun a j τ ρ e1 e2 v1 v2 v3 v4 v5 hI => .ins e1 e2 hx hdx hD rfl (.cons ⟨rfl, v1.symm⟩ (.cons ⟨rfl, v2.symm⟩ (.cons ⟨rfl, v3.symm⟩ (.cons ⟨rfl, v4.symm⟩ (.cons ⟨rfl, v5.symm⟩ (.cons ⟨rfl, .ofI g6 hI⟩ .nil)))))) .nil
    have fr : ∀ {τ : Vt} {ρ ρ' : List Addr} {a : Nat}, ρ[a]? = some x → Le ρ ρ' → ∀ u, VR τ ρ' (.a a) u → u = fv := fun ha le u h => by
      walk_at "l"; rw [e1]; exact VR.ref_eq (sv := .a _) ⟨x, ha, rfl⟩ le h
    have len : ((f :: fs).length : Int) + 1 = (fs.length : Int) + 1 + 1 := rfl
    walk_at "e"; by_cases q : (fs.length : Int) + 1 + 1 > dp
    · walk_at "l"; refine k 2 x dx u1 u2 u3 u4 u5 (fs.length + 1) ⟨by decide, ⟨a1, a2, a3, a4, a5⟩, fun a j τ ρ ea eb v1 v2 v3 v4 v5 ej e2 e0 => ⟨⟨x, ea, e1⟩, ro a j τ ρ ea eb v1 v2 v3 v4 v5 ej, fc2 (e0 ▸ h1) ?_, fun ρ' le => ⟨fr ea le, fun u h => ?_, fun u h => ?_⟩⟩, fun zz zz => ⟨rfl, rfl, rfl⟩⟩
      · walk_at "l"; show decide (τ.I 2 + 0 < τ.I j + 1) = true; exact decide_eq_true (by lia)
      · walk_at "l"; exact VR.isI h (by rw [ej, len])
      · have : up (f :: fs) dp = (fs.length : Int) + 1 + 1 := if_pos q
        walk_at "l"; rw [this]; exact VR.isI h (by rw [ej])
    · walk_at "l"; refine k 3 x dx u1 u2 u3 u4 u5 (fs.length + 1) ⟨by decide, ⟨a1, a2, a3, a4, a5⟩, fun a j τ ρ ea eb v1 v2 v3 v4 v5 ej e2 e0 => ⟨⟨x, ea, e1⟩, ro a j τ ρ ea eb v1 v2 v3 v4 v5 ej, fc2 (e0 ▸ h1) ?_, fun ρ' le => ⟨fr ea le, fun u h => ?_, fun u h => ?_⟩⟩, fun zz zz => ⟨rfl, rfl, rfl⟩⟩
      · walk_at "l"; show decide (τ.I 2 + 0 < τ.I j + 1) = false; exact decide_eq_false (by lia)
      · walk_at "l"; exact VR.isI h (by rw [ej, len])
      · have : up (f :: fs) dp = dp := if_neg q
        walk_at "l"; rw [this]; exact VR.isI h (by rw [e2]; exact Int.add_zero _)
end
end NT
end
section
open PySem PySem.W PySem.Calls PyProof.Rows
namespace NT
section
variable {w : World} {C : Cst} {B0 : Nd} {n : Int} {r : Ld} {om ofl : Obj} {cs : Scope} {t : PySem.Expr} {b : List Stmt} {fs : List Fm} {fl : Int → Bool} {st dp : Int}
theorem len7 {kvs : List (Int × Value)} (h : kvs.length ≤ 7) : kvs.length ≤ 1000 := by lia
theorem t_ite {a c e : Nd} (hl : loopOf (K w.params) = some (cs, t, b)) (H : StIn w C B0 n r om ofl ⟨.look (.ite a c e), fs, fl, st, dp⟩) (h1 : st < 6000) :
    Turn w cs t b C.am ((C.dm, om) :: (C.dv, ofl) :: r) (Nxt w C B0 n ⟨.look a, .test a c e :: fs, fl, st + 1, up fs dp⟩) := by
  walk_at "l"; refine H.open fun d kc M => InsP.o3 M.node fun x dx o u1 u2 u3 e1 hx hdx hD p1 p2 p3 a1 a2 a3 => pv_of (dp := dp) M.frame h1 fun v fx fdx f1 f2 f3 f4 f5 dj V => ?_
  walk_at "e"; obtain ⟨kvs, hk, hv, hlen⟩ := H.fl
  have hV := mkT_V (Is := [st, kc, dp, dj]) (D := kvs) (hl_app M.hd (hl_cons V.hd.1 (hl_cons V.hd.2.1 (hl_cons V.hd.2.2.1 (hl_cons V.hd.2.2.2.1 (hl_cons V.hd.2.2.2.2 (hl_cons a1 (hl_cons a2 (hl_cons a3 hl_nil)))))))))
  walk_at "e"; obtain ⟨vfr, vro, vfc, vout⟩ := V.use 3 3 (mkT [st, kc, dp, dj] (d.vs ++ [f1, f2, f3, f4, f5, u1, u2, u3]) kvs) [C.am, C.dm, C.dv, fx, fdx, x, dx] rfl rfl rfl rfl rfl rfl rfl rfl rfl rfl
  walk_at "l"; refine tr hl (go_ite w.params V.lt) H (mkT [st, kc, dp, dj] (d.vs ++ [f1, f2, f3, f4, f5, u1, u2, u3]) kvs) [C.am, C.dm, C.dv, fx, fdx, x, dx] rfl rfl rfl rfl M.dv
    (mop_in M rfl rfl rfl rfl rfl rfl rfl ⟨x, rfl, e1⟩ rfl rfl rfl vfr) vfc hV no_dk no_ext (vro.app (.cons rfl H.base.hI ⟨_, rfl, rfl⟩ (.ins rfl rfl hx hdx hD rfl (.cons ⟨rfl, rfl⟩ (.cons ⟨rfl, rfl⟩ (.cons ⟨rfl, rfl⟩ .nil))) .nil))) hk (len7 hlen) rfl
    fun ρ' nw le L => ⟨fl_keep rfl hv hlen, mop_out M le rfl rfl rfl (by decide) rfl rfl rfl (vout ρ' le).2.2 (fun u h => h ▸ p1.mono sub_app) (fun u h => h ▸ M.scope.mono sub_app) (fun zz zz => trivial) (fun zz zz => trivial) (fun u h => ins_mk hV L rfl rfl rfl (.cons ⟨rfl, fun u h => h, rfl⟩ (.cons ⟨rfl, VR.keep (sv := .a 5) ⟨x, rfl, e1⟩ e1 le (M.node.mono sub_app), rfl⟩ (.cons ⟨rfl, fun u h => h ▸ M.scope.mono sub_app, rfl⟩ (.cons ⟨rfl, fun zz zz => trivial, rfl⟩ (.cons ⟨rfl, fun u h => (vout ρ' le).1 u h ▸ M.frame.mono sub_app, (V.hs 3 4).1⟩ (.cons ⟨rfl, (vout ρ' le).2.1, (V.hs 3 4).2.1⟩ .nil)))))) h) (V.hs 3 4).2.2 rfl⟩
theorem t_setg {g : Int} {a : Nd} (hl : loopOf (K w.params) = some (cs, t, b)) (H : StIn w C B0 n r om ofl ⟨.look (.setg g a), fs, fl, st, dp⟩) (h1 : st < 6000) :
    Turn w cs t b C.am ((C.dm, om) :: (C.dv, ofl) :: r) (Nxt w C B0 n ⟨.look a, .asg g a :: fs, fl, st + 1, up fs dp⟩) := by
  walk_at "l"; refine H.open fun d kc M => InsP.o2 M.node fun x dx o u1 u2 e1 hx hdx hD p1 p2 a1 a2 => pv_of (dp := dp) M.frame h1 fun v fx fdx f1 f2 f3 f4 f5 dj V => ?_
  walk_at "e"; obtain ⟨kvs, hk, hv, hlen⟩ := H.fl
  have hV := mkT_V (Is := [st, kc, dp, dj]) (D := kvs) (hl_app M.hd (hl_cons V.hd.1 (hl_cons V.hd.2.1 (hl_cons V.hd.2.2.1 (hl_cons V.hd.2.2.2.1 (hl_cons V.hd.2.2.2.2 (hl_cons a1 (hl_cons a2 hl_nil))))))))
  walk_at "e"; obtain ⟨vfr, vro, vfc, vout⟩ := V.use 3 3 (mkT [st, kc, dp, dj] (d.vs ++ [f1, f2, f3, f4, f5, u1, u2]) kvs) [C.am, C.dm, C.dv, fx, fdx, x, dx] rfl rfl rfl rfl rfl rfl rfl rfl rfl rfl
  walk_at "l"; refine tr hl (go_setg w.params V.lt) H (mkT [st, kc, dp, dj] (d.vs ++ [f1, f2, f3, f4, f5, u1, u2]) kvs) [C.am, C.dm, C.dv, fx, fdx, x, dx] rfl rfl rfl rfl M.dv
    (mop_in M rfl rfl rfl rfl rfl rfl rfl ⟨x, rfl, e1⟩ rfl rfl rfl vfr) vfc hV no_dk no_ext (vro.app (.cons rfl H.base.hI ⟨_, rfl, rfl⟩ (.ins rfl rfl hx hdx hD rfl (.cons ⟨rfl, rfl⟩ (.cons ⟨rfl, rfl⟩ .nil)) .nil))) hk (len7 hlen) rfl
    fun ρ' nw le L => ⟨fl_keep rfl hv hlen, mop_out M le rfl rfl rfl (by decide) rfl rfl rfl (vout ρ' le).2.2 (fun u h => h ▸ p2.mono sub_app) (fun u h => h ▸ M.scope.mono sub_app) (fun zz zz => trivial) (fun zz zz => trivial) (fun u h => ins_mk hV L rfl rfl rfl (.cons ⟨rfl, fun u h => h, rfl⟩ (.cons ⟨rfl, VR.keep (sv := .a 5) ⟨x, rfl, e1⟩ e1 le (M.node.mono sub_app), rfl⟩ (.cons ⟨rfl, fun zz zz => trivial, rfl⟩ (.cons ⟨rfl, fun zz zz => trivial, rfl⟩ (.cons ⟨rfl, fun u h => (vout ρ' le).1 u h ▸ M.frame.mono sub_app, (V.hs 3 4).1⟩ (.cons ⟨rfl, (vout ρ' le).2.1, (V.hs 3 4).2.1⟩ .nil)))))) h) (V.hs 3 4).2.2 rfl⟩
theorem t_call {nd f : Nd} {q : Value → Prop} (hN : ∀ v, NdIn w r nd v → InsP w r 741 [("operator", NdIn w r f), ("operands", q)] v) (hl : loopOf (K w.params) = some (cs, t, b)) (H : StIn w C B0 n r om ofl ⟨.look (nd), fs, fl, st, dp⟩) (h1 : st < 6000) :
    Turn w cs t b C.am ((C.dm, om) :: (C.dv, ofl) :: r) (Nxt w C B0 n ⟨.look f, .ops nd [] :: fs, fl, st + 1, up fs dp⟩) := by
  walk_at "l"; refine H.open fun d kc M => InsP.o2 (hN _ M.node) fun x dx o u1 u2 e1 hx hdx hD p1 p2 a1 a2 => pv_of (dp := dp) M.frame h1 fun v fx fdx f1 f2 f3 f4 f5 dj V => ?_
  walk_at "e"; obtain ⟨kvs, hk, hv, hlen⟩ := H.fl
  have hV := mkT_V (Is := [st, kc, dp, dj]) (D := kvs) (hl_app M.hd (hl_cons V.hd.1 (hl_cons V.hd.2.1 (hl_cons V.hd.2.2.1 (hl_cons V.hd.2.2.2.1 (hl_cons V.hd.2.2.2.2 (hl_cons a1 (hl_cons a2 hl_nil))))))))
  walk_at "e"; obtain ⟨vfr, vro, vfc, vout⟩ := V.use 3 3 (mkT [st, kc, dp, dj] (d.vs ++ [f1, f2, f3, f4, f5, u1, u2]) kvs) [C.am, C.dm, C.dv, fx, fdx, x, dx] rfl rfl rfl rfl rfl rfl rfl rfl rfl rfl
  walk_at "l"; refine tr hl (go_call w.params V.lt) H (mkT [st, kc, dp, dj] (d.vs ++ [f1, f2, f3, f4, f5, u1, u2]) kvs) [C.am, C.dm, C.dv, fx, fdx, x, dx] rfl rfl rfl rfl M.dv
    (mop_in M rfl rfl rfl rfl rfl rfl rfl ⟨x, rfl, e1⟩ rfl rfl rfl vfr) vfc hV no_dk no_ext (vro.app (.cons rfl H.base.hI ⟨_, rfl, rfl⟩ (.ins rfl rfl hx hdx hD rfl (.cons ⟨rfl, rfl⟩ (.cons ⟨rfl, rfl⟩ .nil)) .nil))) hk (len7 hlen) rfl
    fun ρ' nw le L => ⟨fl_keep rfl hv hlen, mop_out M le rfl rfl rfl (by decide) rfl rfl rfl (vout ρ' le).2.2 (fun u h => h ▸ p1.mono sub_app) (fun u h => h ▸ M.scope.mono sub_app) (fun zz zz => trivial) (fun zz zz => trivial) (fun u h => ins_mk hV L rfl rfl rfl (.cons ⟨rfl, fun u h => h, rfl⟩ (.cons ⟨rfl, VR.keep (sv := .a 5) ⟨x, rfl, e1⟩ e1 le (M.node.mono sub_app), rfl⟩ (.cons ⟨rfl, fun u h => h ▸ M.scope.mono sub_app, rfl⟩ (.cons ⟨rfl, fun u h => lst_mk hV L rfl .nil h, rfl⟩ (.cons ⟨rfl, fun u h => (vout ρ' le).1 u h ▸ M.frame.mono sub_app, (V.hs 3 4).1⟩ (.cons ⟨rfl, (vout ρ' le).2.1, (V.hs 3 4).2.1⟩ .nil)))))) h) (V.hs 3 4).2.2 rfl⟩
theorem t_seq {a c : Nd} (hl : loopOf (K w.params) = some (cs, t, b)) (H : StIn w C B0 n r om ofl ⟨.look (.seq a c), fs, fl, st, dp⟩) (h1 : st < 6000) :
    Turn w cs t b C.am ((C.dm, om) :: (C.dv, ofl) :: r) (Nxt w C B0 n ⟨.look a, .seq a c :: fs, fl, st + 1, up fs dp⟩) := by
  walk_at "l"; refine H.open fun d kc M => InsP.o1 M.node fun x dx o u1 e1 hx hdx hD p1 a1 => LstP.o2 p1 fun y v1 v2 e2 hy q1 q2 b1 b2 => pv_of (dp := dp) M.frame h1 fun v fx fdx f1 f2 f3 f4 f5 dj V => ?_
  walk_at "e"; obtain ⟨kvs, hk, hv, hlen⟩ := H.fl
  have hV := mkT_V (Is := [st, kc, dp, dj]) (D := kvs) (hl_app M.hd (hl_cons V.hd.1 (hl_cons V.hd.2.1 (hl_cons V.hd.2.2.1 (hl_cons V.hd.2.2.2.1 (hl_cons V.hd.2.2.2.2 (hl_cons b1 (hl_cons b2 hl_nil))))))))
  walk_at "e"; obtain ⟨vfr, vro, vfc, vout⟩ := V.use 3 3 (mkT [st, kc, dp, dj] (d.vs ++ [f1, f2, f3, f4, f5, v1, v2]) kvs) [C.am, C.dm, C.dv, fx, fdx, x, dx, y] rfl rfl rfl rfl rfl rfl rfl rfl rfl rfl
  walk_at "l"; refine tr hl (go_seq w.params V.lt) H (mkT [st, kc, dp, dj] (d.vs ++ [f1, f2, f3, f4, f5, v1, v2]) kvs) [C.am, C.dm, C.dv, fx, fdx, x, dx, y] rfl rfl rfl rfl M.dv
    (mop_in M rfl rfl rfl rfl rfl rfl rfl ⟨x, rfl, e1⟩ rfl rfl rfl vfr) vfc hV no_dk no_ext (vro.app (.cons rfl H.base.hI ⟨_, rfl, rfl⟩ (.ins rfl rfl hx hdx hD rfl (.cons ⟨rfl, y, rfl, e2⟩ .nil) (.lst rfl hy (.cons rfl (.cons rfl .nil)) .nil)))) hk (len7 hlen) rfl
    fun ρ' nw le L => ⟨fl_keep rfl hv hlen, mop_out M le rfl rfl rfl (by decide) rfl rfl rfl (vout ρ' le).2.2 (fun u h => h ▸ q1.mono sub_app) (fun u h => h ▸ M.scope.mono sub_app) (fun zz zz => trivial) (fun zz zz => trivial) (fun u h => ins_mk hV L rfl rfl rfl (.cons ⟨rfl, fun u h => h, rfl⟩ (.cons ⟨rfl, VR.keep (sv := .a 5) ⟨x, rfl, e1⟩ e1 le (M.node.mono sub_app), rfl⟩ (.cons ⟨rfl, fun u h => h ▸ M.scope.mono sub_app, rfl⟩ (.cons ⟨rfl, fun u h => lst_mk hV L rfl (.cons ⟨fun u h => h, rfl⟩ .nil) h, rfl⟩ (.cons ⟨rfl, fun u h => (vout ρ' le).1 u h ▸ M.frame.mono sub_app, (V.hs 3 4).1⟩ (.cons ⟨rfl, (vout ρ' le).2.1, (V.hs 3 4).2.1⟩ .nil)))))) h) (V.hs 3 4).2.2 rfl⟩
end
theorem valueAt_stored {kvs : List (Int × Value)} {g : Int} {v u : Value} (h : valueAt kvs g = some u) (x : Int) : valueAt (stored kvs g v) x = if x = g then some v else valueAt kvs x := by
  have hany : kvs.any (fun kv => decide (kv.1 = g)) = true := by
    unfold valueAt at h
    walk_at "l"; cases hf : kvs.find? (fun kv => decide (kv.1 = g)) with
    | none => rw [hf] at h; cases h
    | some p => walk_at "l"; exact List.any_eq_true.mpr ⟨p, List.mem_of_find?_eq_some hf, List.find?_some (p := fun kv : Int × Value => decide (kv.1 = g)) hf⟩
  walk_at "l"; unfold stored
  walk_at "l"; rw [if_pos hany]
  clear h
  walk_at "l"; induction kvs with
  | nil => walk_at "e"; cases hany
  | cons p r ih =>
    walk_at "e"; obtain ⟨k, w⟩ := p
    walk_at "l"; unfold valueAt at ih ⊢
    walk_at "l"; simp only [List.map_cons, List.find?_cons]
    walk_at "e"; by_cases hk : k = g
    · walk_at "e"; subst hk
      walk_at "l"; simp only [if_true]
      walk_at "e"; by_cases hx : x = k
      · walk_at "e"; subst hx; walk_at "l"; simp
      · have : ¬ k = x := fun e => hx e.symm
        walk_at "l"; simp only [this, decide_false, hx, if_false]
        clear ih hany
        walk_at "l"; induction r with
        | nil => walk_at "l"; rfl
        | cons q r ih2 =>
          walk_at "e"; obtain ⟨k2, w2⟩ := q
          walk_at "l"; simp only [List.map_cons, List.find?_cons]
          walk_at "e"; by_cases h2 : k2 = k
          · walk_at "e"; subst h2; walk_at "l"; simp only [if_true, this, decide_false]; exact ih2
          · walk_at "l"; simp only [h2, if_false]
            walk_at "e"; by_cases h3 : k2 = x
            · walk_at "l"; simp [h3]
            · walk_at "l"; simp only [h3, decide_false]; exact ih2
    · walk_at "l"; simp only [hk, if_false]
      walk_at "e"; by_cases hx : k = x
      · walk_at "e"; subst hx; walk_at "l"; simp [hk]
      · walk_at "l"; simp only [hx, decide_false]
        have : r.any (fun kv => decide (kv.1 = g)) = true := by simpa [hk] using hany
        walk_at "l"; exact ih this
theorem length_stored {kvs : List (Int × Value)} {g : Int} {v u : Value} (h : valueAt kvs g = some u) : (stored kvs g v).length = kvs.length := by
  have hany : kvs.any (fun kv => decide (kv.1 = g)) = true := by
    unfold valueAt at h
    walk_at "l"; cases hf : kvs.find? (fun kv => decide (kv.1 = g)) with
    | none => rw [hf] at h; cases h
    | some p => walk_at "l"; exact List.any_eq_true.mpr ⟨p, List.mem_of_find?_eq_some hf, List.find?_some (p := fun kv : Int × Value => decide (kv.1 = g)) hf⟩
  walk_at "l"; unfold stored
  walk_at "l"; rw [if_pos hany, List.length_map]
section
variable {w : World} {C : Cst} {B0 : Nd} {n : Int} {r : Ld} {om ofl : Obj} {cs : Scope} {t : PySem.Expr} {b : List Stmt} {fs : List Fm} {fl : Int → Bool} {st dp : Int}
theorem fl_set {τ : Vt} {ρ : List Addr} {kvs : List (Int × Value)} {g : Int} {bb : Bool} {sv : SV} {u0 : Value} (hD : τ.D 0 = kvs) (hg : τ.I 4 = g) (h : (∀ g, 0 ≤ g → g < n → valueAt kvs g = some (.bool (fl g)))) (hl : kvs.length ≤ 7) (h0 : valueAt kvs g = some u0) (hu : ∀ u, VR τ ρ sv u → u = .bool bb) :
    ∀ o, OR w τ ρ (.xset 0 (5, 0) sv) o → FlIn w n o (fun x => if x = g then bb else fl x) := by
  walk_at "l"; rintro o ⟨u, ho, hr⟩
  have e : τ.iv 5 0 = g := by rw [← hg]; exact Int.add_zero _
  dsimp only at ho
  rw [hD, e, hu _ hr] at ho
  walk_at "l"; refine ⟨_, ho, fun x x0 x1 => ?_, by rw [length_stored h0]; exact hl⟩
  walk_at "l"; rw [valueAt_stored h0]
  walk_at "e"; by_cases q : x = g
  · walk_at "l"; rw [if_pos q]; show _ = some (Value.bool (if x = g then bb else fl x)); rw [if_pos q]
  · walk_at "l"; rw [if_neg q]; show _ = some (Value.bool (if x = g then bb else fl x)); rw [if_neg q]; exact h x x0 x1
theorem t_const {nd : Nd} {vl : Vl} (hN : ∀ v, NdIn w r nd v → InsP w r 557 [("value", VlIn w C.sz r vl)] v) (hl : loopOf (K w.params) = some (cs, t, b)) (H : StIn w C B0 n r om ofl ⟨.look nd, fs, fl, st, dp⟩) (h1 : st < 6000) :
    Turn w cs t b C.am ((C.dm, om) :: (C.dv, ofl) :: r) (Nxt w C B0 n ⟨.give [vl], fs, fl, st + 1, dp⟩) := by
  walk_at "l"; refine H.open fun d kc M => (hN _ M.node).o1 fun x dx o u e1 hx hdx hD p1 a1 => ?_
  walk_at "e"; obtain ⟨kvs, hk, hv, hlen⟩ := H.fl
  have hV := mkT_V (Is := [st, kc, dp]) (D := kvs) (hl_app M.hd (hl_cons (a := .none) rfl (hl_cons (a := .none) rfl (hl_cons (a := .none) rfl (hl_cons (a := .none) rfl (hl_cons (a := .none) rfl (hl_cons a1 hl_nil)))))))
  walk_at "l"; refine tr hl (go_const w.params) H (mkT [st, kc, dp] (d.vs ++ [.none, .none, .none, .none, .none, u]) kvs) [C.am, C.dm, C.dv, C.am, C.am, x, dx] rfl rfl rfl rfl M.dv
    (mop_in M rfl rfl rfl rfl rfl rfl rfl ⟨x, rfl, e1⟩ rfl rfl rfl rfl) (fc1 rfl h1) hV no_dk no_ext (.cons rfl H.base.hI ⟨_, rfl, rfl⟩ (.ins rfl rfl hx hdx hD rfl (.cons ⟨rfl, rfl⟩ .nil) .nil)) hk (len7 hlen) rfl
    fun ρ' nw le L => ⟨fl_keep rfl hv hlen, mop_out M le rfl rfl rfl (by decide) rfl rfl rfl (fun u h => h.isI (Int.add_zero _)) (fun zz zz => trivial) (fun zz zz => trivial) (fun zz zz => trivial) (fun u h => lst_mk hV L rfl (.cons ⟨fun u h => h ▸ p1.mono sub_app, rfl⟩ .nil) h) (fun u h => h ▸ M.frame.mono sub_app) rfl rfl⟩
theorem t_loc (hsc : ∀ v, Sc w C.sz r v → ∀ t led, Sub r led → (∀ p ∈ led, @LT.lt Nat _ 1 p.1) → Says w 10 893 [v, .int 1 t] led (fun x l => x = .ref C.sz ∧ l = led)) (hl : loopOf (K w.params) = some (cs, t, b)) (H : StIn w C B0 n r om ofl ⟨.look .loc, fs, fl, st, dp⟩) (h1 : st < 6000) :
    Turn w cs t b C.am ((C.dm, om) :: (C.dv, ofl) :: r) (Nxt w C B0 n ⟨.give [.clo0 B0], fs, fl, st + 1, dp⟩) := by
  walk_at "l"; refine H.open fun d kc M => InsP.o1 M.node fun x dx o u e1 hx hdx hD p1 a1 => InsP.o2 H.base.hZ fun z dz oz uo uv e2 hz hdz hDz q1 q2 b1 b2 => ?_
  walk_at "e"; obtain ⟨kvs, hk, hv, hlen⟩ := H.fl
  walk_at "e"; obtain ⟨e, oe, e3, he, hed⟩ := q2
  walk_at "e"; cases e2
  have hV := mkT_V (Is := [st, kc, dp]) (D := kvs) (hl_app M.hd (hl_cons (a := Value.none) rfl hl_nil))
  walk_at "l"; refine tr hl (go_loc w.params) H (mkT [st, kc, dp] (d.vs ++ [Value.none]) kvs) [C.am, C.dm, C.dv, C.am, C.am, x, dx, C.sz, dz, e, C.cz, C.dcz] rfl rfl rfl rfl M.dv
    (mop_in M rfl rfl rfl rfl rfl rfl rfl ⟨x, rfl, e1⟩ rfl rfl rfl rfl) (fc1 rfl h1) hV no_dk (by
      walk_at "l"; intro fa args sv hm vs ra led sub lo
      walk_at "e"; rcases List.mem_cons.mp hm with q | hm
      · walk_at "e"; cases q
        walk_at "l"; refine ra.oc fun v1 zz k1 r1 ra => ra.oc fun v2 zz k2 r2 ra => ra.o0 fun k3 => ?_
        walk_at "e"; subst k3 k2 k1
        walk_at "e"; obtain ⟨tk, rfl⟩ := r2
        walk_at "e"; cases r1
        walk_at "l"; exact (hsc d.scope M.scope tk led sub lo).imp (Nat.le_refl _) fun v l q => ⟨l, fun zz h => h, ⟨C.sz, rfl, q.1⟩, q.2⟩
      · walk_at "l"; nomatch hm) (.cons rfl H.base.hI ⟨_, rfl, rfl⟩ (.ins rfl rfl hx hdx hD rfl (.cons ⟨rfl, p1⟩ .nil) (.ins rfl rfl hz hdz hDz rfl (.cons ⟨rfl, q1⟩ (.cons ⟨rfl, e, rfl, e3⟩ .nil)) (.cons rfl he ⟨_, hed, .cons ⟨rfl, C.cz, rfl, rfl⟩ .nil⟩ (.cons rfl H.base.hC2 ⟨_, rfl, rfl⟩ .nil))))) hk (len7 hlen) rfl
    fun ρ' nw le L => ⟨fl_keep rfl hv hlen, mop_out M le rfl rfl rfl (by decide) rfl rfl rfl (fun u h => h.isI (Int.add_zero _)) (fun zz zz => trivial) (fun zz zz => trivial) (fun zz zz => trivial) (fun u h => lst_mk hV L rfl (.cons ⟨VR.keep (sv := .a 10) ⟨C.cz, rfl, rfl⟩ rfl le (H.base.hC.mono sub_app), rfl⟩ .nil) h) (fun u h => h ▸ M.frame.mono sub_app) rfl rfl⟩
theorem t_glob {g : Int} (g0 : 0 ≤ g) (g1 : g < n) (hl : loopOf (K w.params) = some (cs, t, b)) (H : StIn w C B0 n r om ofl ⟨.look (.glob g), fs, fl, st, dp⟩) (h1 : st < 6000) :
    Turn w cs t b C.am ((C.dm, om) :: (C.dv, ofl) :: r) (Nxt w C B0 n ⟨.give [.bool (fl g)], fs, fl, st + 1, dp⟩) := by
  walk_at "l"; refine H.open fun d kc M => InsP.o1 M.node fun x dx o u e1 hx hdx hD p1 a1 => InsP.o2 H.base.hT fun y dy oy v1 v2 e2 hy hdy hDy q1 q2 b1 b2 => ?_
  walk_at "e"; obtain ⟨kvs, hk, hv, hlen⟩ := H.fl
  have hV := mkT_V (Is := [st, kc, dp, 0, g]) (D := kvs) (hl_app M.hd (hl_cons (a := .none) rfl (hl_cons (a := .none) rfl (hl_cons (a := .none) rfl (hl_cons (a := .none) rfl (hl_cons (a := .none) rfl (hl_cons b1 (hl_cons (a := .bool (fl g)) rfl hl_nil))))))))
  walk_at "l"; refine tr hl (go_glob w.params) H (mkT [st, kc, dp, 0, g] (d.vs ++ [.none, .none, .none, .none, .none, v1, .bool (fl g)]) kvs) [C.am, C.dm, C.dv, C.am, C.am, x, dx, y, dy] rfl rfl rfl rfl M.dv
    (mop_in M rfl rfl rfl rfl rfl ⟨y, rfl, M.tops.trans e2⟩ rfl ⟨x, rfl, e1⟩ rfl rfl rfl rfl) (fc1 rfl h1) hV (by
      walk_at "l"; intro j k sv hm
      walk_at "e"; rcases List.mem_cons.mp hm with q | hm
      · walk_at "e"; cases q
        walk_at "l"; exact ⟨_, by rw [show (mkT [st, kc, dp, 0, g] (d.vs ++ [.none, .none, .none, .none, .none, v1, .bool (fl g)]) kvs).iv 5 0 = g from Int.add_zero _]; exact hv g g0 g1, rfl⟩
      · walk_at "l"; nomatch hm) no_ext (.cons rfl H.base.hI ⟨_, rfl, rfl⟩ (.ins rfl rfl hx hdx hD rfl (.cons ⟨rfl, .ofI p1 rfl⟩ .nil) (.ins rfl rfl hy hdy hDy rfl (.cons ⟨rfl, rfl⟩ (.cons ⟨rfl, C.dv, rfl, q2⟩ .nil)) .nil))) hk (len7 hlen) rfl
    fun ρ' nw le L => ⟨fl_keep rfl hv hlen, mop_out M le rfl rfl rfl (by decide) rfl ⟨y, rfl, M.tops.trans e2⟩ rfl (fun u h => h.isI (Int.add_zero _)) (fun zz zz => trivial) (fun zz zz => trivial) (fun zz zz => trivial) (fun u h => lst_mk (ss := [.v 14]) (ps := [VlIn w C.sz (nw ++ r) (.bool (fl g))]) hV L rfl (.cons ⟨fun u h => h, rfl⟩ .nil) h) (fun u h => h ▸ M.frame.mono sub_app) rfl rfl⟩
theorem t_lam {nd : Nd} {vl : Vl} {q1 q2 q3 q4 : Value → Prop} (hN : ∀ v, NdIn w r nd v → InsP w r 708 [("label", q1), ("params", q2), ("rest", q3), ("body", q4)] v) (hW : ∀ r' v, InsP w r' 938 [("title", Tr), ("node", NdIn w r' nd), ("scope", Sc w C.sz r')] v → VlIn w C.sz r' vl v) (hl : loopOf (K w.params) = some (cs, t, b)) (H : StIn w C B0 n r om ofl ⟨.look nd, fs, fl, st, dp⟩) (h1 : st < 6000) :
    Turn w cs t b C.am ((C.dm, om) :: (C.dv, ofl) :: r) (Nxt w C B0 n ⟨.give [vl], fs, fl, st + 1, dp⟩) := by
  walk_at "l"; refine H.open fun d kc M => (hN _ M.node).o4 fun x dx o u1 u2 u3 u4 e1 hx hdx hD p1 p2 p3 p4 a1 a2 a3 a4 => InsP.o1 H.base.hB fun y dy oy v1 e2 hy hdy hDy c1 b1 => ?_
  walk_at "e"; obtain ⟨kvs, hk, hv, hlen⟩ := H.fl
  have hV := mkT_V (Is := [st, kc, dp]) (D := kvs) (hl_app M.hd (hl_cons (a := .none) rfl (hl_cons (a := .none) rfl (hl_cons (a := .none) rfl (hl_cons (a := .none) rfl (hl_cons (a := .none) rfl (hl_cons a1 (hl_cons a2 (hl_cons a3 (hl_cons a4 (hl_cons b1 hl_nil)))))))))))
  walk_at "l"; refine tr hl (go_lam w.params) H (mkT [st, kc, dp] (d.vs ++ [.none, .none, .none, .none, .none, u1, u2, u3, u4, v1]) kvs) [C.am, C.dm, C.dv, C.am, C.am, x, dx, y, dy] rfl rfl rfl rfl M.dv
    (mop_in M rfl rfl rfl rfl rfl rfl ⟨y, rfl, M.lib.trans e2⟩ ⟨x, rfl, e1⟩ rfl rfl rfl rfl) (fc1 rfl h1) hV no_dk no_ext (.cons rfl H.base.hI ⟨_, rfl, rfl⟩ (.ins rfl rfl hx hdx hD rfl (.cons ⟨rfl, rfl⟩ (.cons ⟨rfl, rfl⟩ (.cons ⟨rfl, rfl⟩ (.cons ⟨rfl, rfl⟩ .nil)))) (.ins rfl rfl hy hdy hDy rfl (.cons ⟨rfl, rfl⟩ .nil) .nil))) hk (len7 hlen) rfl
    fun ρ' nw le L => ⟨fl_keep rfl hv hlen, mop_out M le rfl rfl rfl (by decide) rfl rfl ⟨y, rfl, M.lib.trans e2⟩ (fun u h => h.isI (Int.add_zero _)) (fun zz zz => trivial) (fun zz zz => trivial) (fun zz zz => trivial) (fun u h => lst_mk hV L rfl (.cons ⟨fun u h => hW _ _ (ins_mk hV L rfl rfl rfl (.cons ⟨rfl, fun zz zz => trivial, rfl⟩ (.cons ⟨rfl, VR.keep (sv := .a 5) ⟨x, rfl, e1⟩ e1 le (M.node.mono sub_app), rfl⟩ (.cons ⟨rfl, fun u h => h ▸ M.scope.mono sub_app, rfl⟩ .nil))) h), rfl⟩ .nil) h) (fun u h => h ▸ M.frame.mono sub_app) rfl rfl⟩
theorem t_hseq {a c : Nd} {vl : Vl} (hl : loopOf (K w.params) = some (cs, t, b)) (H : StIn w C B0 n r om ofl ⟨.give [vl], .seq a c :: fs, fl, st, dp⟩) (h1 : st < 6000) :
    Turn w cs t b C.am ((C.dm, om) :: (C.dv, ofl) :: r) (Nxt w C B0 n ⟨.look c, fs, fl, st + 1, dp⟩) := by
  walk_at "l"; refine H.open fun d kc M => InsP.o6 M.frame fun x dx o u1 u2 u3 u4 u5 u6 e1 hx hdx hD p1 p2 p3 p4 p5 p6 a1 a2 a3 a4 a5 => LstP.o1 M.vals fun l y e2 hl2 q1 b1 => InsP.o1 p2 fun z dz oz z1 e3 hz hdz hDz w1 d1 => LstP.o2 w1 fun it i1 i2 e4 hit s1 s2 d2 d3 => LstP.o1 p4 fun dn n1 e5 hdn g1 d4 => ?_
  walk_at "e"; obtain ⟨kvs, hk, hv, hlen⟩ := H.fl
  have hV := mkT_V (Is := [st, kc, dp, fs.length + 1]) (D := kvs) (hl_app M.hd (hl_cons a5 (hl_cons (a := .none) rfl (hl_cons a3 (hl_cons (a := .none) rfl (hl_cons (a := .none) rfl (hl_cons d2 (hl_cons d3 (hl_cons b1 hl_nil)))))))))
  walk_at "l"; refine tr hl (go_hseq w.params) H (mkT [st, kc, dp, fs.length + 1] (d.vs ++ [u5, .none, u3, .none, .none, i1, i2, y]) kvs) [C.am, C.dm, C.dv, x, dx, l, z, dz, dn, it] rfl rfl rfl rfl M.dv
    (mop_in M rfl rfl rfl rfl rfl rfl rfl rfl rfl rfl ⟨l, rfl, e2⟩ ⟨x, rfl, e1⟩) (fc1 rfl h1) hV no_dk no_ext (.cons rfl H.base.hI ⟨_, rfl, rfl⟩ (.ins rfl rfl hx hdx hD rfl (.cons ⟨rfl, p1⟩ (.cons ⟨rfl, z, rfl, e3⟩ (.cons ⟨rfl, rfl⟩ (.cons ⟨rfl, dn, rfl, e5⟩ (.cons ⟨rfl, rfl⟩ (.cons ⟨rfl, .ofI p6 rfl⟩ .nil)))))) (.lst rfl hl2 (.cons rfl .nil) (.ins rfl rfl hz hdz hDz rfl (.cons ⟨rfl, it, rfl, e4⟩ .nil) (.lst rfl hdn (.cons g1 .nil) (.lst rfl hit (.cons rfl (.cons rfl .nil)) .nil)))))) hk (len7 hlen) rfl
    fun ρ' nw le L => ⟨fl_keep rfl hv hlen, mop_out M le rfl rfl rfl (by decide) rfl rfl rfl (fun u h => h.isI (Int.add_zero _)) (fun u h => h ▸ s2.mono sub_app) (fun u h => h ▸ p3.mono sub_app) (fun zz zz => trivial) (fun zz zz => trivial) (fun u h => h ▸ p5.mono sub_app) rfl rfl⟩
theorem t_htestT {a c e : Nd} (hl : loopOf (K w.params) = some (cs, t, b)) (H : StIn w C B0 n r om ofl ⟨.give [.bool true], .test a c e :: fs, fl, st, dp⟩) (h1 : st < 6000) :
    Turn w cs t b C.am ((C.dm, om) :: (C.dv, ofl) :: r) (Nxt w C B0 n ⟨.look c, fs, fl, st + 1, dp⟩) := by
  walk_at "l"; refine H.open fun d kc M => InsP.o6 M.frame fun x dx o u1 u2 u3 u4 u5 u6 e1 hx hdx hD p1 p2 p3 p4 p5 p6 a1 a2 a3 a4 a5 => LstP.o1 M.vals fun l y e2 hl2 q1 b1 => InsP.o3 p2 fun z dz oz z1 z2 z3 e3 hz hdz hDz s1 s2 s3 d1 d2 d3 => ?_
  walk_at "e"; obtain ⟨kvs, hk, hv, hlen⟩ := H.fl
  have hV := mkT_V (Is := [st, kc, dp, fs.length + 1]) (D := kvs) (hl_app M.hd (hl_cons a5 (hl_cons (a := .none) rfl (hl_cons a3 (hl_cons a4 (hl_cons (a := .none) rfl (hl_cons d1 (hl_cons d2 (hl_cons d3 hl_nil)))))))))
  walk_at "l"; refine tr hl (go_htestT w.params) H (mkT [st, kc, dp, fs.length + 1] (d.vs ++ [u5, .none, u3, u4, .none, z1, z2, z3]) kvs) [C.am, C.dm, C.dv, x, dx, l, z, dz] rfl rfl rfl rfl M.dv
    (mop_in M rfl rfl rfl rfl rfl rfl rfl rfl rfl rfl ⟨l, rfl, e2⟩ ⟨x, rfl, e1⟩) (fc1 rfl h1) hV no_dk no_ext (.cons rfl H.base.hI ⟨_, rfl, rfl⟩ (.ins rfl rfl hx hdx hD rfl (.cons ⟨rfl, p1⟩ (.cons ⟨rfl, z, rfl, e3⟩ (.cons ⟨rfl, rfl⟩ (.cons ⟨rfl, rfl⟩ (.cons ⟨rfl, rfl⟩ (.cons ⟨rfl, .ofI p6 rfl⟩ .nil)))))) (.lst rfl hl2 (.cons q1 .nil) (.ins rfl rfl hz hdz hDz rfl (.cons ⟨rfl, rfl⟩ (.cons ⟨rfl, rfl⟩ (.cons ⟨rfl, rfl⟩ .nil))) .nil)))) hk (len7 hlen) rfl
    fun ρ' nw le L => ⟨fl_keep rfl hv hlen, mop_out M le rfl rfl rfl (by decide) rfl rfl rfl (fun u h => h.isI (Int.add_zero _)) (fun u h => h ▸ s2.mono sub_app) (fun u h => h ▸ p3.mono sub_app) (fun zz zz => trivial) (fun zz zz => trivial) (fun u h => h ▸ p5.mono sub_app) rfl rfl⟩
theorem t_htestF {a c e : Nd} (hl : loopOf (K w.params) = some (cs, t, b)) (H : StIn w C B0 n r om ofl ⟨.give [.bool false], .test a c e :: fs, fl, st, dp⟩) (h1 : st < 6000) :
    Turn w cs t b C.am ((C.dm, om) :: (C.dv, ofl) :: r) (Nxt w C B0 n ⟨.look e, fs, fl, st + 1, dp⟩) := by
  walk_at "l"; refine H.open fun d kc M => InsP.o6 M.frame fun x dx o u1 u2 u3 u4 u5 u6 e1 hx hdx hD p1 p2 p3 p4 p5 p6 a1 a2 a3 a4 a5 => LstP.o1 M.vals fun l y e2 hl2 q1 b1 => InsP.o3 p2 fun z dz oz z1 z2 z3 e3 hz hdz hDz s1 s2 s3 d1 d2 d3 => ?_
  walk_at "e"; obtain ⟨kvs, hk, hv, hlen⟩ := H.fl
  have hV := mkT_V (Is := [st, kc, dp, fs.length + 1]) (D := kvs) (hl_app M.hd (hl_cons a5 (hl_cons (a := .none) rfl (hl_cons a3 (hl_cons a4 (hl_cons (a := .none) rfl (hl_cons d1 (hl_cons d2 (hl_cons d3 hl_nil)))))))))
  walk_at "l"; refine tr hl (go_htestF w.params) H (mkT [st, kc, dp, fs.length + 1] (d.vs ++ [u5, .none, u3, u4, .none, z1, z2, z3]) kvs) [C.am, C.dm, C.dv, x, dx, l, z, dz] rfl rfl rfl rfl M.dv
    (mop_in M rfl rfl rfl rfl rfl rfl rfl rfl rfl rfl ⟨l, rfl, e2⟩ ⟨x, rfl, e1⟩) (fc1 rfl h1) hV no_dk no_ext (.cons rfl H.base.hI ⟨_, rfl, rfl⟩ (.ins rfl rfl hx hdx hD rfl (.cons ⟨rfl, p1⟩ (.cons ⟨rfl, z, rfl, e3⟩ (.cons ⟨rfl, rfl⟩ (.cons ⟨rfl, rfl⟩ (.cons ⟨rfl, rfl⟩ (.cons ⟨rfl, .ofI p6 rfl⟩ .nil)))))) (.lst rfl hl2 (.cons q1 .nil) (.ins rfl rfl hz hdz hDz rfl (.cons ⟨rfl, rfl⟩ (.cons ⟨rfl, rfl⟩ (.cons ⟨rfl, rfl⟩ .nil))) .nil)))) hk (len7 hlen) rfl
    fun ρ' nw le L => ⟨fl_keep rfl hv hlen, mop_out M le rfl rfl rfl (by decide) rfl rfl rfl (fun u h => h.isI (Int.add_zero _)) (fun u h => h ▸ s3.mono sub_app) (fun u h => h ▸ p3.mono sub_app) (fun zz zz => trivial) (fun zz zz => trivial) (fun u h => h ▸ p5.mono sub_app) rfl rfl⟩
theorem t_hasg {g : Int} {a : Nd} {bb : Bool} (g0 : 0 ≤ g) (g1 : g < n) (hl : loopOf (K w.params) = some (cs, t, b)) (H : StIn w C B0 n r om ofl ⟨.give [.bool bb], .asg g a :: fs, fl, st, dp⟩) (h1 : st < 6000) :
    Turn w cs t b C.am ((C.dm, om) :: (C.dv, ofl) :: r) (Nxt w C B0 n ⟨.give [.unspec], fs, (fun x => if x = g then bb else fl x), st + 1, dp⟩) := by
  walk_at "l"; refine H.open fun d kc M => InsP.o6 M.frame fun x dx o u1 u2 u3 u4 u5 u6 e1 hx hdx hD p1 p2 p3 p4 p5 p6 a1 a2 a3 a4 a5 => LstP.o1 M.vals fun l y e2 hl2 q1 b1 => InsP.o2 p2 fun z dz oz z1 z2 e3 hz hdz hDz s1 s2 d1 d2 => InsP.o2 H.base.hT fun tp dt ot v1 v2 e4 htp hdt hDt t1 t2 c1 c2 => ?_
  walk_at "e"; obtain ⟨kvs, hk, hv, hlen⟩ := H.fl
  have hV := mkT_V (Is := [st, kc, dp, fs.length + 1, g]) (D := kvs) (hl_app M.hd (hl_cons a5 (hl_cons (a := .none) rfl (hl_cons a3 (hl_cons a4 (hl_cons (a := .none) rfl (hl_cons d2 (hl_cons c1 (hl_cons b1 (hl_cons (a := .bool (fl g)) rfl hl_nil))))))))))
  walk_at "l"; refine tr hl (go_hasg w.params) H (mkT [st, kc, dp, fs.length + 1, g] (d.vs ++ [u5, .none, u3, u4, .none, z2, v1, y, .bool (fl g)]) kvs) [C.am, C.dm, C.dv, x, dx, l, z, dz, tp, dt] rfl rfl rfl rfl M.dv
    (mop_in M rfl rfl rfl rfl rfl ⟨tp, rfl, M.tops.trans e4⟩ rfl rfl rfl rfl ⟨l, rfl, e2⟩ ⟨x, rfl, e1⟩) (fc1 rfl h1) hV (by
      walk_at "l"; intro j k sv hm
      walk_at "e"; rcases List.mem_cons.mp hm with q | hm
      · walk_at "e"; cases q
        walk_at "l"; exact ⟨_, by rw [show (mkT [st, kc, dp, fs.length + 1, g] (d.vs ++ [u5, .none, u3, u4, .none, z2, v1, y, .bool (fl g)]) kvs).iv 5 0 = g from Int.add_zero _]; exact hv g g0 g1, rfl⟩
      · walk_at "l"; nomatch hm) no_ext (.cons rfl H.base.hI ⟨_, rfl, rfl⟩ (.ins rfl rfl hx hdx hD rfl (.cons ⟨rfl, p1⟩ (.cons ⟨rfl, z, rfl, e3⟩ (.cons ⟨rfl, rfl⟩ (.cons ⟨rfl, rfl⟩ (.cons ⟨rfl, rfl⟩ (.cons ⟨rfl, .ofI p6 rfl⟩ .nil)))))) (.lst rfl hl2 (.cons rfl .nil) (.ins rfl rfl hz hdz hDz rfl (.cons ⟨rfl, .ofI s1 rfl⟩ (.cons ⟨rfl, rfl⟩ .nil)) (.ins rfl rfl htp hdt hDt rfl (.cons ⟨rfl, rfl⟩ (.cons ⟨rfl, C.dv, rfl, t2⟩ .nil)) .nil))))) hk (len7 hlen) rfl
    fun ρ' nw le L => ⟨fl_set rfl rfl hv hlen (hv g g0 g1) (fun u h => h.trans q1), mop_out M le rfl rfl rfl (by decide) rfl ⟨tp, rfl, M.tops.trans e4⟩ rfl (fun u h => h.isI (Int.add_zero _)) (fun zz zz => trivial) (fun zz zz => trivial) (fun zz zz => trivial) (fun u h => lst_mk hV L rfl (.cons ⟨fun zz zz => trivial, rfl⟩ .nil) h) (fun u h => h ▸ p5.mono sub_app) rfl rfl⟩
theorem t_hcons {vl ul : Vl} (hl : loopOf (K w.params) = some (cs, t, b)) (H : StIn w C B0 n r om ofl ⟨.give [ul], .cons vl :: fs, fl, st, dp⟩) (h1 : st < 6000) :
    Turn w cs t b C.am ((C.dm, om) :: (C.dv, ofl) :: r) (Nxt w C B0 n ⟨.call vl [ul], fs, fl, st + 1, dp⟩) := by
  walk_at "l"; refine H.open fun d kc M => InsP.o6 M.frame fun x dx o u1 u2 u3 u4 u5 u6 e1 hx hdx hD p1 p2 p3 p4 p5 p6 a1 a2 a3 a4 a5 => LstP.o1 M.vals fun l y e2 hl2 q1 b1 => LstP.o1 p4 fun dn n1 e5 hdn g1 d4 => ?_
  walk_at "e"; obtain ⟨kvs, hk, hv, hlen⟩ := H.fl
  have hV := mkT_V (Is := [st, kc, dp, fs.length + 1]) (D := kvs) (hl_app M.hd (hl_cons a5 (hl_cons (a := .none) rfl (hl_cons a2 (hl_cons a3 (hl_cons (a := .none) rfl (hl_cons d4 (hl_cons (a := .none) rfl (hl_cons b1 hl_nil)))))))))
  walk_at "l"; refine tr hl (go_hcons w.params) H (mkT [st, kc, dp, fs.length + 1] (d.vs ++ [u5, .none, u2, u3, .none, n1, .none, y]) kvs) [C.am, C.dm, C.dv, x, dx, l, dn] rfl rfl rfl rfl M.dv
    (mop_in M rfl rfl rfl rfl rfl rfl rfl rfl rfl rfl ⟨l, rfl, e2⟩ ⟨x, rfl, e1⟩) (fc1 rfl h1) hV no_dk no_ext (.cons rfl H.base.hI ⟨_, rfl, rfl⟩ (.ins rfl rfl hx hdx hD rfl (.cons ⟨rfl, p1⟩ (.cons ⟨rfl, rfl⟩ (.cons ⟨rfl, rfl⟩ (.cons ⟨rfl, dn, rfl, e5⟩ (.cons ⟨rfl, rfl⟩ (.cons ⟨rfl, .ofI p6 rfl⟩ .nil)))))) (.lst rfl hl2 (.cons rfl .nil) (.lst rfl hdn (.cons rfl .nil) .nil)))) hk (len7 hlen) rfl
    fun ρ' nw le L => ⟨fl_keep rfl hv hlen, mop_out M le rfl rfl rfl (by decide) rfl rfl rfl (fun u h => h.isI (Int.add_zero _)) (fun zz zz => trivial) (fun zz zz => trivial) (fun u h => h ▸ g1.mono sub_app) (VR.keep (sv := .a 5) ⟨l, rfl, e2⟩ e2 le (M.vals.mono sub_app)) (fun u h => h ▸ p5.mono sub_app) rfl rfl⟩
theorem t_hops0 {nd f : Nd} {vl : Vl} (hN : ∀ v, NdIn w r nd v → InsP w r 741 [("operator", NdIn w r f), ("operands", LstP r [])] v) (hl : loopOf (K w.params) = some (cs, t, b)) (H : StIn w C B0 n r om ofl ⟨.give [vl], .ops nd [] :: fs, fl, st, dp⟩) (h1 : st < 6000) :
    Turn w cs t b C.am ((C.dm, om) :: (C.dv, ofl) :: r) (Nxt w C B0 n ⟨.call vl [], fs, fl, st + 1, dp⟩) := by
  walk_at "l"; refine H.open fun d kc M => InsP.o6 M.frame fun x dx o u1 u2 u3 u4 u5 u6 e1 hx hdx hD p1 p2 p3 p4 p5 p6 a1 a2 a3 a4 a5 => LstP.o1 M.vals fun l y e2 hl2 q1 b1 => (hN _ p2).o2 fun z dz oz z1 z2 e3 hz hdz hDz s1 s2 d1 d2 => LstP.o0 s2 fun it e4 hit => LstP.o0 p4 fun dn e5 hdn => ?_
  walk_at "e"; obtain ⟨kvs, hk, hv, hlen⟩ := H.fl
  have hV := mkT_V (Is := [st, kc, dp, fs.length + 1]) (D := kvs) (hl_app M.hd (hl_cons a5 (hl_cons (a := .none) rfl (hl_cons a3 (hl_cons (a := .none) rfl (hl_cons (a := .none) rfl (hl_cons d1 (hl_cons (a := .none) rfl (hl_cons b1 (hl_cons (a := .none) rfl (hl_cons (a := .none) rfl (hl_cons (a := .none) rfl (hl_cons a3 (hl_cons (a := .none) rfl (hl_cons (a := .none) rfl (hl_cons (a := .none) rfl (hl_cons (a := .none) rfl hl_nil)))))))))))))))))
  walk_at "l"; refine tr hl (go_hops0 w.params) H (mkT [st, kc, dp, fs.length + 1] (d.vs ++ [u5, .none, u3, .none, .none, z1, .none, y, .none, .none, .none, u3, .none, .none, .none, .none]) kvs) [C.am, C.dm, C.dv, x, dx, l, C.am, C.am, z, dz, it, dn] rfl rfl rfl rfl M.dv
    (mop_in M rfl rfl rfl rfl rfl rfl rfl rfl rfl rfl ⟨l, rfl, e2⟩ ⟨x, rfl, e1⟩) (fc1 rfl h1) hV no_dk no_ext (.cons rfl H.base.hI ⟨_, rfl, rfl⟩ (.ins rfl rfl hx hdx hD rfl (.cons ⟨rfl, p1⟩ (.cons ⟨rfl, z, rfl, e3⟩ (.cons ⟨rfl, rfl⟩ (.cons ⟨rfl, dn, rfl, e5⟩ (.cons ⟨rfl, rfl⟩ (.cons ⟨rfl, .ofI p6 rfl⟩ .nil)))))) (.lst rfl hl2 (.cons rfl .nil) (.ins rfl rfl hz hdz hDz rfl (.cons ⟨rfl, rfl⟩ (.cons ⟨rfl, it, rfl, e4⟩ .nil)) (.lst rfl hit .nil (.lst rfl hdn .nil .nil)))))) hk (len7 hlen) rfl
    fun ρ' nw le L => ⟨fl_keep rfl hv hlen, mop_out M le rfl rfl rfl (by decide) rfl rfl rfl (fun u h => h.isI (Int.add_zero _)) (fun zz zz => trivial) (fun zz zz => trivial) (fun u h => h ▸ q1.mono sub_app) (fun u h => lst_mk hV L rfl .nil h) (fun u h => h ▸ p5.mono sub_app) rfl rfl⟩
theorem t_hops1a {nd f : Nd} {vl : Vl} {UA0 : Nd} (hN : ∀ v, NdIn w r nd v → InsP w r 741 [("operator", NdIn w r f), ("operands", LstP r [NdIn w r UA0])] v) (hl : loopOf (K w.params) = some (cs, t, b)) (H : StIn w C B0 n r om ofl ⟨.give [vl], .ops nd [] :: fs, fl, st, dp⟩) (h1 : st < 6000) :
    Turn w cs t b C.am ((C.dm, om) :: (C.dv, ofl) :: r) (Nxt w C B0 n ⟨.look UA0, .ops nd [vl] :: fs, fl, st + 1, up fs dp⟩) := by
  walk_at "l"; refine H.open fun d kc M => InsP.o6 M.frame fun x dx o u1 u2 u3 u4 u5 u6 e1 hx hdx hD p1 p2 p3 p4 p5 p6 a1 a2 a3 a4 a5 => LstP.o1 M.vals fun l y e2 hl2 q1 b1 => (hN _ p2).o2 fun z dz oz z1 z2 e3 hz hdz hDz s1 s2 d1 d2 => LstP.o1 s2 fun it i0 e4 hit si0 di0 => LstP.o0 p4 fun dn e5 hdn => pv_of (dp := dp) p5 h1 fun v fx fdx f1 f2 f3 f4 f5 dj V => ?_
  walk_at "e"; obtain ⟨kvs, hk, hv, hlen⟩ := H.fl
  have hV := mkT_V (Is := [st, kc, dp, fs.length + 1, 0, dj]) (D := kvs) (hl_app M.hd (hl_cons V.hd.1 (hl_cons V.hd.2.1 (hl_cons V.hd.2.2.1 (hl_cons V.hd.2.2.2.1 (hl_cons V.hd.2.2.2.2 (hl_cons d1 (hl_cons (a := .none) rfl (hl_cons b1 (hl_cons (a := .none) rfl (hl_cons (a := .none) rfl (hl_cons (a := .none) rfl (hl_cons a3 (hl_cons di0 (hl_cons (a := .none) rfl (hl_cons (a := .none) rfl (hl_cons (a := .none) rfl hl_nil)))))))))))))))))
  walk_at "e"; obtain ⟨vfr, vro, vfc, vout⟩ := V.use 6 5 (mkT [st, kc, dp, fs.length + 1, 0, dj] (d.vs ++ [f1, f2, f3, f4, f5, z1, .none, y, .none, .none, .none, u3, i0, .none, .none, .none]) kvs) [C.am, C.dm, C.dv, x, dx, l, fx, fdx, z, dz, it, dn] rfl rfl rfl rfl rfl rfl rfl rfl rfl rfl
  walk_at "l"; refine tr hl (go_hops1a w.params V.lt) H (mkT [st, kc, dp, fs.length + 1, 0, dj] (d.vs ++ [f1, f2, f3, f4, f5, z1, .none, y, .none, .none, .none, u3, i0, .none, .none, .none]) kvs) [C.am, C.dm, C.dv, x, dx, l, fx, fdx, z, dz, it, dn] rfl rfl rfl rfl M.dv
    (mop_in M rfl rfl rfl rfl rfl rfl rfl rfl rfl rfl ⟨l, rfl, e2⟩ ⟨x, rfl, e1⟩) vfc hV no_dk no_ext (vro.app (.cons rfl H.base.hI ⟨_, rfl, rfl⟩ (.ins rfl rfl hx hdx hD rfl (.cons ⟨rfl, p1⟩ (.cons ⟨rfl, z, rfl, e3⟩ (.cons ⟨rfl, rfl⟩ (.cons ⟨rfl, dn, rfl, e5⟩ (.cons ⟨rfl, vfr⟩ (.cons ⟨rfl, .ofI p6 rfl⟩ .nil)))))) (.lst rfl hl2 (.cons rfl .nil) (.ins rfl rfl hz hdz hDz rfl (.cons ⟨rfl, rfl⟩ (.cons ⟨rfl, it, rfl, e4⟩ .nil)) (.lst rfl hit (.cons rfl .nil) (.lst rfl hdn .nil .nil))))))) hk (len7 hlen) rfl
    fun ρ' nw le L => ⟨fl_keep rfl hv hlen, mop_out M le rfl rfl rfl (by decide) rfl rfl rfl (vout ρ' le).2.2 (fun u h => h ▸ si0.mono sub_app) (fun u h => h ▸ p3.mono sub_app) (fun zz zz => trivial) (fun zz zz => trivial) (fun u h => ins_mk hV L rfl rfl rfl (.cons ⟨rfl, fun u h => h, rfl⟩ (.cons ⟨rfl, VR.keep (sv := .a 8) ⟨z, rfl, e3⟩ e3 le (p2.mono sub_app), rfl⟩ (.cons ⟨rfl, fun u h => h ▸ p3.mono sub_app, rfl⟩ (.cons ⟨rfl, fun u h => lst_mk hV L rfl (.cons ⟨fun u h => h ▸ q1.mono sub_app, rfl⟩ .nil) h, rfl⟩ (.cons ⟨rfl, fun u h => (vout ρ' le).1 u h ▸ p5.mono sub_app, (V.hs 6 6).1⟩ (.cons ⟨rfl, (vout ρ' le).2.1, (V.hs 6 6).2.1⟩ .nil)))))) h) (V.hs 6 6).2.2 rfl⟩
theorem t_hops1b {nd f : Nd} {vl : Vl} {UA0 : Nd} {UD0 : Vl} (hN : ∀ v, NdIn w r nd v → InsP w r 741 [("operator", NdIn w r f), ("operands", LstP r [NdIn w r UA0])] v) (hl : loopOf (K w.params) = some (cs, t, b)) (H : StIn w C B0 n r om ofl ⟨.give [vl], .ops nd [UD0] :: fs, fl, st, dp⟩) (h1 : st < 6000) :
    Turn w cs t b C.am ((C.dm, om) :: (C.dv, ofl) :: r) (Nxt w C B0 n ⟨.call UD0 [vl], fs, fl, st + 1, dp⟩) := by
  walk_at "l"; refine H.open fun d kc M => InsP.o6 M.frame fun x dx o u1 u2 u3 u4 u5 u6 e1 hx hdx hD p1 p2 p3 p4 p5 p6 a1 a2 a3 a4 a5 => LstP.o1 M.vals fun l y e2 hl2 q1 b1 => (hN _ p2).o2 fun z dz oz z1 z2 e3 hz hdz hDz s1 s2 d1 d2 => LstP.o1 s2 fun it i0 e4 hit si0 di0 => LstP.o1 p4 fun dn n0 e5 hdn g0 dg0 => ?_
  walk_at "e"; obtain ⟨kvs, hk, hv, hlen⟩ := H.fl
  have hV := mkT_V (Is := [st, kc, dp, fs.length + 1]) (D := kvs) (hl_app M.hd (hl_cons a5 (hl_cons (a := .none) rfl (hl_cons a3 (hl_cons (a := .none) rfl (hl_cons (a := .none) rfl (hl_cons d1 (hl_cons (a := .none) rfl (hl_cons b1 (hl_cons (a := .none) rfl (hl_cons (a := .none) rfl (hl_cons (a := .none) rfl (hl_cons a3 (hl_cons di0 (hl_cons (a := .none) rfl (hl_cons dg0 (hl_cons (a := .none) rfl hl_nil)))))))))))))))))
  walk_at "l"; refine tr hl (go_hops1b w.params) H (mkT [st, kc, dp, fs.length + 1] (d.vs ++ [u5, .none, u3, .none, .none, z1, .none, y, .none, .none, .none, u3, i0, .none, n0, .none]) kvs) [C.am, C.dm, C.dv, x, dx, l, C.am, C.am, z, dz, it, dn] rfl rfl rfl rfl M.dv
    (mop_in M rfl rfl rfl rfl rfl rfl rfl rfl rfl rfl ⟨l, rfl, e2⟩ ⟨x, rfl, e1⟩) (fc1 rfl h1) hV no_dk no_ext (.cons rfl H.base.hI ⟨_, rfl, rfl⟩ (.ins rfl rfl hx hdx hD rfl (.cons ⟨rfl, p1⟩ (.cons ⟨rfl, z, rfl, e3⟩ (.cons ⟨rfl, rfl⟩ (.cons ⟨rfl, dn, rfl, e5⟩ (.cons ⟨rfl, rfl⟩ (.cons ⟨rfl, .ofI p6 rfl⟩ .nil)))))) (.lst rfl hl2 (.cons rfl .nil) (.ins rfl rfl hz hdz hDz rfl (.cons ⟨rfl, rfl⟩ (.cons ⟨rfl, it, rfl, e4⟩ .nil)) (.lst rfl hit (.cons rfl .nil) (.lst rfl hdn (.cons rfl .nil) .nil)))))) hk (len7 hlen) rfl
    fun ρ' nw le L => ⟨fl_keep rfl hv hlen, mop_out M le rfl rfl rfl (by decide) rfl rfl rfl (fun u h => h.isI (Int.add_zero _)) (fun zz zz => trivial) (fun zz zz => trivial) (fun u h => h ▸ g0.mono sub_app) (fun u h => lst_mk hV L rfl (.cons ⟨fun u h => h ▸ q1.mono sub_app, rfl⟩ .nil) h) (fun u h => h ▸ p5.mono sub_app) rfl rfl⟩
theorem t_hops2a {nd f : Nd} {vl : Vl} {UA0 : Nd} {UA1 : Nd} (hN : ∀ v, NdIn w r nd v → InsP w r 741 [("operator", NdIn w r f), ("operands", LstP r [NdIn w r UA0, NdIn w r UA1])] v) (hl : loopOf (K w.params) = some (cs, t, b)) (H : StIn w C B0 n r om ofl ⟨.give [vl], .ops nd [] :: fs, fl, st, dp⟩) (h1 : st < 6000) :
    Turn w cs t b C.am ((C.dm, om) :: (C.dv, ofl) :: r) (Nxt w C B0 n ⟨.look UA0, .ops nd [vl] :: fs, fl, st + 1, up fs dp⟩) := by
  walk_at "l"; refine H.open fun d kc M => InsP.o6 M.frame fun x dx o u1 u2 u3 u4 u5 u6 e1 hx hdx hD p1 p2 p3 p4 p5 p6 a1 a2 a3 a4 a5 => LstP.o1 M.vals fun l y e2 hl2 q1 b1 => (hN _ p2).o2 fun z dz oz z1 z2 e3 hz hdz hDz s1 s2 d1 d2 => LstP.o2 s2 fun it i0 i1 e4 hit si0 si1 di0 di1 => LstP.o0 p4 fun dn e5 hdn => pv_of (dp := dp) p5 h1 fun v fx fdx f1 f2 f3 f4 f5 dj V => ?_
  walk_at "e"; obtain ⟨kvs, hk, hv, hlen⟩ := H.fl
  have hV := mkT_V (Is := [st, kc, dp, fs.length + 1, 0, dj]) (D := kvs) (hl_app M.hd (hl_cons V.hd.1 (hl_cons V.hd.2.1 (hl_cons V.hd.2.2.1 (hl_cons V.hd.2.2.2.1 (hl_cons V.hd.2.2.2.2 (hl_cons d1 (hl_cons (a := .none) rfl (hl_cons b1 (hl_cons (a := .none) rfl (hl_cons (a := .none) rfl (hl_cons (a := .none) rfl (hl_cons a3 (hl_cons di0 (hl_cons di1 (hl_cons (a := .none) rfl (hl_cons (a := .none) rfl hl_nil)))))))))))))))))
  walk_at "e"; obtain ⟨vfr, vro, vfc, vout⟩ := V.use 6 5 (mkT [st, kc, dp, fs.length + 1, 0, dj] (d.vs ++ [f1, f2, f3, f4, f5, z1, .none, y, .none, .none, .none, u3, i0, i1, .none, .none]) kvs) [C.am, C.dm, C.dv, x, dx, l, fx, fdx, z, dz, it, dn] rfl rfl rfl rfl rfl rfl rfl rfl rfl rfl
  walk_at "l"; refine tr hl (go_hops2a w.params V.lt) H (mkT [st, kc, dp, fs.length + 1, 0, dj] (d.vs ++ [f1, f2, f3, f4, f5, z1, .none, y, .none, .none, .none, u3, i0, i1, .none, .none]) kvs) [C.am, C.dm, C.dv, x, dx, l, fx, fdx, z, dz, it, dn] rfl rfl rfl rfl M.dv
    (mop_in M rfl rfl rfl rfl rfl rfl rfl rfl rfl rfl ⟨l, rfl, e2⟩ ⟨x, rfl, e1⟩) vfc hV no_dk no_ext (vro.app (.cons rfl H.base.hI ⟨_, rfl, rfl⟩ (.ins rfl rfl hx hdx hD rfl (.cons ⟨rfl, p1⟩ (.cons ⟨rfl, z, rfl, e3⟩ (.cons ⟨rfl, rfl⟩ (.cons ⟨rfl, dn, rfl, e5⟩ (.cons ⟨rfl, vfr⟩ (.cons ⟨rfl, .ofI p6 rfl⟩ .nil)))))) (.lst rfl hl2 (.cons rfl .nil) (.ins rfl rfl hz hdz hDz rfl (.cons ⟨rfl, rfl⟩ (.cons ⟨rfl, it, rfl, e4⟩ .nil)) (.lst rfl hit (.cons rfl (.cons rfl .nil)) (.lst rfl hdn .nil .nil))))))) hk (len7 hlen) rfl
    fun ρ' nw le L => ⟨fl_keep rfl hv hlen, mop_out M le rfl rfl rfl (by decide) rfl rfl rfl (vout ρ' le).2.2 (fun u h => h ▸ si0.mono sub_app) (fun u h => h ▸ p3.mono sub_app) (fun zz zz => trivial) (fun zz zz => trivial) (fun u h => ins_mk hV L rfl rfl rfl (.cons ⟨rfl, fun u h => h, rfl⟩ (.cons ⟨rfl, VR.keep (sv := .a 8) ⟨z, rfl, e3⟩ e3 le (p2.mono sub_app), rfl⟩ (.cons ⟨rfl, fun u h => h ▸ p3.mono sub_app, rfl⟩ (.cons ⟨rfl, fun u h => lst_mk hV L rfl (.cons ⟨fun u h => h ▸ q1.mono sub_app, rfl⟩ .nil) h, rfl⟩ (.cons ⟨rfl, fun u h => (vout ρ' le).1 u h ▸ p5.mono sub_app, (V.hs 6 6).1⟩ (.cons ⟨rfl, (vout ρ' le).2.1, (V.hs 6 6).2.1⟩ .nil)))))) h) (V.hs 6 6).2.2 rfl⟩
theorem t_hops2b {nd f : Nd} {vl : Vl} {UA0 : Nd} {UA1 : Nd} {UD0 : Vl} (hN : ∀ v, NdIn w r nd v → InsP w r 741 [("operator", NdIn w r f), ("operands", LstP r [NdIn w r UA0, NdIn w r UA1])] v) (hl : loopOf (K w.params) = some (cs, t, b)) (H : StIn w C B0 n r om ofl ⟨.give [vl], .ops nd [UD0] :: fs, fl, st, dp⟩) (h1 : st < 6000) :
    Turn w cs t b C.am ((C.dm, om) :: (C.dv, ofl) :: r) (Nxt w C B0 n ⟨.look UA1, .ops nd [UD0, vl] :: fs, fl, st + 1, up fs dp⟩) := by
  walk_at "l"; refine H.open fun d kc M => InsP.o6 M.frame fun x dx o u1 u2 u3 u4 u5 u6 e1 hx hdx hD p1 p2 p3 p4 p5 p6 a1 a2 a3 a4 a5 => LstP.o1 M.vals fun l y e2 hl2 q1 b1 => (hN _ p2).o2 fun z dz oz z1 z2 e3 hz hdz hDz s1 s2 d1 d2 => LstP.o2 s2 fun it i0 i1 e4 hit si0 si1 di0 di1 => LstP.o1 p4 fun dn n0 e5 hdn g0 dg0 => pv_of (dp := dp) p5 h1 fun v fx fdx f1 f2 f3 f4 f5 dj V => ?_
  walk_at "e"; obtain ⟨kvs, hk, hv, hlen⟩ := H.fl
  have hV := mkT_V (Is := [st, kc, dp, fs.length + 1, 0, dj]) (D := kvs) (hl_app M.hd (hl_cons V.hd.1 (hl_cons V.hd.2.1 (hl_cons V.hd.2.2.1 (hl_cons V.hd.2.2.2.1 (hl_cons V.hd.2.2.2.2 (hl_cons d1 (hl_cons (a := .none) rfl (hl_cons b1 (hl_cons (a := .none) rfl (hl_cons (a := .none) rfl (hl_cons (a := .none) rfl (hl_cons a3 (hl_cons di0 (hl_cons di1 (hl_cons dg0 (hl_cons (a := .none) rfl hl_nil)))))))))))))))))
  walk_at "e"; obtain ⟨vfr, vro, vfc, vout⟩ := V.use 6 5 (mkT [st, kc, dp, fs.length + 1, 0, dj] (d.vs ++ [f1, f2, f3, f4, f5, z1, .none, y, .none, .none, .none, u3, i0, i1, n0, .none]) kvs) [C.am, C.dm, C.dv, x, dx, l, fx, fdx, z, dz, it, dn] rfl rfl rfl rfl rfl rfl rfl rfl rfl rfl
  walk_at "l"; refine tr hl (go_hops2b w.params V.lt) H (mkT [st, kc, dp, fs.length + 1, 0, dj] (d.vs ++ [f1, f2, f3, f4, f5, z1, .none, y, .none, .none, .none, u3, i0, i1, n0, .none]) kvs) [C.am, C.dm, C.dv, x, dx, l, fx, fdx, z, dz, it, dn] rfl rfl rfl rfl M.dv
    (mop_in M rfl rfl rfl rfl rfl rfl rfl rfl rfl rfl ⟨l, rfl, e2⟩ ⟨x, rfl, e1⟩) vfc hV no_dk no_ext (vro.app (.cons rfl H.base.hI ⟨_, rfl, rfl⟩ (.ins rfl rfl hx hdx hD rfl (.cons ⟨rfl, p1⟩ (.cons ⟨rfl, z, rfl, e3⟩ (.cons ⟨rfl, rfl⟩ (.cons ⟨rfl, dn, rfl, e5⟩ (.cons ⟨rfl, vfr⟩ (.cons ⟨rfl, .ofI p6 rfl⟩ .nil)))))) (.lst rfl hl2 (.cons rfl .nil) (.ins rfl rfl hz hdz hDz rfl (.cons ⟨rfl, rfl⟩ (.cons ⟨rfl, it, rfl, e4⟩ .nil)) (.lst rfl hit (.cons rfl (.cons rfl .nil)) (.lst rfl hdn (.cons rfl .nil) .nil))))))) hk (len7 hlen) rfl
    fun ρ' nw le L => ⟨fl_keep rfl hv hlen, mop_out M le rfl rfl rfl (by decide) rfl rfl rfl (vout ρ' le).2.2 (fun u h => h ▸ si1.mono sub_app) (fun u h => h ▸ p3.mono sub_app) (fun zz zz => trivial) (fun zz zz => trivial) (fun u h => ins_mk hV L rfl rfl rfl (.cons ⟨rfl, fun u h => h, rfl⟩ (.cons ⟨rfl, VR.keep (sv := .a 8) ⟨z, rfl, e3⟩ e3 le (p2.mono sub_app), rfl⟩ (.cons ⟨rfl, fun u h => h ▸ p3.mono sub_app, rfl⟩ (.cons ⟨rfl, fun u h => lst_mk hV L rfl (.cons ⟨fun u h => h ▸ g0.mono sub_app, rfl⟩ (.cons ⟨fun u h => h ▸ q1.mono sub_app, rfl⟩ .nil)) h, rfl⟩ (.cons ⟨rfl, fun u h => (vout ρ' le).1 u h ▸ p5.mono sub_app, (V.hs 6 6).1⟩ (.cons ⟨rfl, (vout ρ' le).2.1, (V.hs 6 6).2.1⟩ .nil)))))) h) (V.hs 6 6).2.2 rfl⟩
theorem t_hops2c {nd f : Nd} {vl : Vl} {UA0 : Nd} {UA1 : Nd} {UD0 : Vl} {UD1 : Vl} (hN : ∀ v, NdIn w r nd v → InsP w r 741 [("operator", NdIn w r f), ("operands", LstP r [NdIn w r UA0, NdIn w r UA1])] v) (hl : loopOf (K w.params) = some (cs, t, b)) (H : StIn w C B0 n r om ofl ⟨.give [vl], .ops nd [UD0, UD1] :: fs, fl, st, dp⟩) (h1 : st < 6000) :
    Turn w cs t b C.am ((C.dm, om) :: (C.dv, ofl) :: r) (Nxt w C B0 n ⟨.call UD0 [UD1, vl], fs, fl, st + 1, dp⟩) := by
  walk_at "l"; refine H.open fun d kc M => InsP.o6 M.frame fun x dx o u1 u2 u3 u4 u5 u6 e1 hx hdx hD p1 p2 p3 p4 p5 p6 a1 a2 a3 a4 a5 => LstP.o1 M.vals fun l y e2 hl2 q1 b1 => (hN _ p2).o2 fun z dz oz z1 z2 e3 hz hdz hDz s1 s2 d1 d2 => LstP.o2 s2 fun it i0 i1 e4 hit si0 si1 di0 di1 => LstP.o2 p4 fun dn n0 n1 e5 hdn g0 g1 dg0 dg1 => ?_
  walk_at "e"; obtain ⟨kvs, hk, hv, hlen⟩ := H.fl
  have hV := mkT_V (Is := [st, kc, dp, fs.length + 1]) (D := kvs) (hl_app M.hd (hl_cons a5 (hl_cons (a := .none) rfl (hl_cons a3 (hl_cons (a := .none) rfl (hl_cons (a := .none) rfl (hl_cons d1 (hl_cons (a := .none) rfl (hl_cons b1 (hl_cons (a := .none) rfl (hl_cons (a := .none) rfl (hl_cons (a := .none) rfl (hl_cons a3 (hl_cons di0 (hl_cons di1 (hl_cons dg0 (hl_cons dg1 hl_nil)))))))))))))))))
  walk_at "l"; refine tr hl (go_hops2c w.params) H (mkT [st, kc, dp, fs.length + 1] (d.vs ++ [u5, .none, u3, .none, .none, z1, .none, y, .none, .none, .none, u3, i0, i1, n0, n1]) kvs) [C.am, C.dm, C.dv, x, dx, l, C.am, C.am, z, dz, it, dn] rfl rfl rfl rfl M.dv
    (mop_in M rfl rfl rfl rfl rfl rfl rfl rfl rfl rfl ⟨l, rfl, e2⟩ ⟨x, rfl, e1⟩) (fc1 rfl h1) hV no_dk no_ext (.cons rfl H.base.hI ⟨_, rfl, rfl⟩ (.ins rfl rfl hx hdx hD rfl (.cons ⟨rfl, p1⟩ (.cons ⟨rfl, z, rfl, e3⟩ (.cons ⟨rfl, rfl⟩ (.cons ⟨rfl, dn, rfl, e5⟩ (.cons ⟨rfl, rfl⟩ (.cons ⟨rfl, .ofI p6 rfl⟩ .nil)))))) (.lst rfl hl2 (.cons rfl .nil) (.ins rfl rfl hz hdz hDz rfl (.cons ⟨rfl, rfl⟩ (.cons ⟨rfl, it, rfl, e4⟩ .nil)) (.lst rfl hit (.cons rfl (.cons rfl .nil)) (.lst rfl hdn (.cons rfl (.cons rfl .nil)) .nil)))))) hk (len7 hlen) rfl
    fun ρ' nw le L => ⟨fl_keep rfl hv hlen, mop_out M le rfl rfl rfl (by decide) rfl rfl rfl (fun u h => h.isI (Int.add_zero _)) (fun zz zz => trivial) (fun zz zz => trivial) (fun u h => h ▸ g0.mono sub_app) (fun u h => lst_mk hV L rfl (.cons ⟨fun u h => h ▸ g1.mono sub_app, rfl⟩ (.cons ⟨fun u h => h ▸ q1.mono sub_app, rfl⟩ .nil)) h) (fun u h => h ▸ p5.mono sub_app) rfl rfl⟩
theorem t_clo0 {a : Nd} (hl : loopOf (K w.params) = some (cs, t, b)) (H : StIn w C B0 n r om ofl ⟨.call (.clo0 a) [], fs, fl, st, dp⟩) (h1 : st < 6000) :
    Turn w cs t b C.am ((C.dm, om) :: (C.dv, ofl) :: r) (Nxt w C B0 n ⟨.look a, fs, fl, st + 1, dp⟩) := by
  walk_at "l"; refine H.open fun d kc M => InsP.o3 M.proc fun x dx o u1 u2 u3 e1 hx hdx hD p1 p2 p3 a1 a2 a3 => LstP.o0 M.vals fun l e2 hl2 => InsP.o4 p2 fun z dz oz z1 z2 z3 z4 e3 hz hdz hDz s1 s2 s3 s4 d1 d2 d3 d4 => LstP.o0 s2 fun pl e4 hpl =>  ?_
  walk_at "e"; obtain ⟨kvs, hk, hv, hlen⟩ := H.fl
  walk_at "e"; obtain ⟨k, p3'⟩ := p3
  have hV := mkT_V (Is := [st, kc, dp, 0]) (D := kvs) (hl_app M.hd (hl_cons (a := .none) rfl (hl_cons (a := .none) rfl (hl_cons (a := .none) rfl (hl_cons (a := .none) rfl (hl_cons (a := .none) rfl (hl_cons a1 (hl_cons a3 (hl_cons d1 (hl_cons d4 hl_nil))))))))))
  walk_at "l"; refine tr hl (go_clo0 w.params) H (mkT [st, kc, dp, 0] (d.vs ++ [.none, .none, .none, .none, .none, u1, u3, z1, z4]) kvs) [C.am, C.dm, C.dv, C.am, C.am, l, x, dx, z, dz, pl] rfl rfl rfl rfl M.dv
    (mop_in M rfl rfl rfl rfl rfl rfl rfl rfl rfl ⟨x, rfl, e1⟩ ⟨l, rfl, e2⟩ rfl) (fc1 rfl h1) hV no_dk no_ext (.cons rfl H.base.hI ⟨_, rfl, rfl⟩ (.lst rfl hl2 .nil (.ins rfl rfl hx hdx hD rfl (.cons ⟨rfl, rfl⟩ (.cons ⟨rfl, z, rfl, e3⟩ (.cons ⟨rfl, rfl⟩ .nil))) (.ins rfl rfl hz hdz hDz rfl (.cons ⟨rfl, rfl⟩ (.cons ⟨rfl, pl, rfl, e4⟩ (.cons ⟨rfl, .lit s3⟩ (.cons ⟨rfl, rfl⟩ .nil)))) (.lst rfl hpl .nil .nil))))) hk (len7 hlen) rfl
    fun ρ' nw le L => ⟨fl_keep rfl hv hlen, mop_out M le rfl rfl rfl (by decide) rfl rfl rfl (fun u h => h.isI (Int.add_zero _)) (fun u h => h ▸ s4.mono sub_app) (fun u h => ⟨k + 1, ins_mk hV L rfl rfl rfl (.cons ⟨rfl, fun u h => h ▸ p3'.mono sub_app, rfl⟩ (.cons ⟨rfl, fun u h => (by obtain ⟨e, oe, ze, he, rk, hrk, ha⟩ := L.look (i := 13) rfl; obtain ⟨e', z1', rfl⟩ := h; rw [ze] at z1'; cases z1'; refine ⟨e, oe, rk, rfl, List.mem_append_left _ he, hrk, ?_⟩; cases ha; rfl), rfl⟩ .nil)) h⟩) (fun zz zz => trivial) (fun zz zz => trivial) (fun u h => h ▸ M.frame.mono sub_app) rfl rfl⟩
theorem t_clo1 {a : Nd} {vl : Vl} (hl : loopOf (K w.params) = some (cs, t, b)) (H : StIn w C B0 n r om ofl ⟨.call (.clo1 a) [vl], fs, fl, st, dp⟩) (h1 : st < 6000) :
    Turn w cs t b C.am ((C.dm, om) :: (C.dv, ofl) :: r) (Nxt w C B0 n ⟨.look a, fs, fl, st + 1, dp⟩) := by
  walk_at "l"; refine H.open fun d kc M => InsP.o3 M.proc fun x dx o u1 u2 u3 e1 hx hdx hD p1 p2 p3 a1 a2 a3 => LstP.o1 M.vals fun l y e2 hl2 q1 b1 => InsP.o4 p2 fun z dz oz z1 z2 z3 z4 e3 hz hdz hDz s1 s2 s3 s4 d1 d2 d3 d4 => LstP.o1 s2 fun pl pv e4 hpl pq dpq =>  ?_
  walk_at "e"; obtain ⟨kvs, hk, hv, hlen⟩ := H.fl
  walk_at "e"; obtain ⟨k, p3'⟩ := p3
  walk_at "e"; obtain ⟨q, hq, pq⟩ := pq
  have hV := mkT_V (Is := [st, kc, dp, 0, q]) (D := kvs) (hl_app M.hd (hl_cons (a := .none) rfl (hl_cons (a := .none) rfl (hl_cons (a := .none) rfl (hl_cons (a := .none) rfl (hl_cons (a := .none) rfl (hl_cons a1 (hl_cons a3 (hl_cons d1 (hl_cons d4 (hl_cons b1 hl_nil)))))))))))
  walk_at "l"; refine tr hl (go_clo1 w.params) H (mkT [st, kc, dp, 0, q] (d.vs ++ [.none, .none, .none, .none, .none, u1, u3, z1, z4, y]) kvs) [C.am, C.dm, C.dv, C.am, C.am, l, x, dx, z, dz, pl] rfl rfl rfl rfl M.dv
    (mop_in M rfl rfl rfl rfl rfl rfl rfl rfl rfl ⟨x, rfl, e1⟩ ⟨l, rfl, e2⟩ rfl) (fc1 rfl h1) hV no_dk no_ext (.cons rfl H.base.hI ⟨_, rfl, rfl⟩ (.lst rfl hl2 (.cons rfl .nil) (.ins rfl rfl hx hdx hD rfl (.cons ⟨rfl, rfl⟩ (.cons ⟨rfl, z, rfl, e3⟩ (.cons ⟨rfl, rfl⟩ .nil))) (.ins rfl rfl hz hdz hDz rfl (.cons ⟨rfl, rfl⟩ (.cons ⟨rfl, pl, rfl, e4⟩ (.cons ⟨rfl, .lit s3⟩ (.cons ⟨rfl, rfl⟩ .nil)))) (.lst rfl hpl (.cons (.ofI pq rfl) .nil) .nil))))) hk (len7 hlen) rfl
    fun ρ' nw le L => ⟨fl_keep rfl hv hlen, mop_out M le rfl rfl rfl (by decide) rfl rfl rfl (fun u h => h.isI (Int.add_zero _)) (fun u h => h ▸ s4.mono sub_app) (fun u h => ⟨k + 1, ins_mk hV L rfl rfl rfl (.cons ⟨rfl, fun u h => h ▸ p3'.mono sub_app, rfl⟩ (.cons ⟨rfl, fun u h => (by obtain ⟨e, oe, ze, he, rk, hrk, ha⟩ := L.look (i := 13) rfl; obtain ⟨e', z1', rfl⟩ := h; rw [ze] at z1'; cases z1'; refine ⟨e, oe, rk, rfl, List.mem_append_left _ he, hrk, ?_⟩; exact ha.oc fun b zz k1 r1 ha => ha.o0 fun k2 => by subst k2 k1; exact valueAt_no fun z hz => by rcases List.mem_cons.mp hz with rfl | hz; exact fun e9 => hq (by rw [← e9, r1.1]; exact (Int.add_zero _).symm); nomatch hz), rfl⟩ .nil)) h⟩) (fun zz zz => trivial) (fun zz zz => trivial) (fun u h => h ▸ M.frame.mono sub_app) rfl rfl⟩
theorem t_ctl3 {vl : Vl} (hl : loopOf (K w.params) = some (cs, t, b)) (H : StIn w C B0 n r om ofl ⟨.call (.ctl 3) [vl], fs, fl, st, dp⟩) (h1 : st < 6000) :
    Turn w cs t b C.am ((C.dm, om) :: (C.dv, ofl) :: r) (Nxt w C B0 n ⟨.call vl [.cont], fs, fl, st + 1, dp⟩) := by
  walk_at "l"; refine H.open fun d kc M => InsP.o2 M.proc fun x dx o u1 u2 e1 hx hdx hD p1 p2 a1 a2 => LstP.o1 M.vals fun l y e2 hl2 q1 b1 => ?_
  walk_at "e"; obtain ⟨kvs, hk, hv, hlen⟩ := H.fl
  have hV := mkT_V (Is := [st, kc, dp]) (D := kvs) (hl_app M.hd (hl_cons (a := .none) rfl (hl_cons (a := .none) rfl (hl_cons (a := .none) rfl (hl_cons (a := .none) rfl (hl_cons (a := .none) rfl (hl_cons a1 (hl_cons (a := .none) rfl (hl_cons (a := .none) rfl (hl_cons (a := .none) rfl (hl_cons b1 hl_nil)))))))))))
  walk_at "l"; refine tr hl (go_ctl3 w.params) H (mkT [st, kc, dp] (d.vs ++ [.none, .none, .none, .none, .none, u1, .none, .none, .none, y]) kvs) [C.am, C.dm, C.dv, C.am, C.am, l, x, dx] rfl rfl rfl rfl M.dv
    (mop_in M rfl rfl rfl rfl rfl rfl rfl rfl rfl ⟨x, rfl, e1⟩ ⟨l, rfl, e2⟩ rfl) (fc1 rfl h1) hV no_dk no_ext (.cons rfl H.base.hI ⟨_, rfl, rfl⟩ (.lst rfl hl2 (.cons rfl .nil) (.ins rfl rfl hx hdx hD rfl (.cons ⟨rfl, rfl⟩ (.cons ⟨rfl, p2⟩ .nil)) .nil))) hk (len7 hlen) rfl
    fun ρ' nw le L => ⟨fl_keep rfl hv hlen, mop_out M le rfl rfl rfl (by decide) rfl rfl rfl (fun u h => h.isI (Int.add_zero _)) (fun zz zz => trivial) (fun zz zz => trivial) (fun u h => h ▸ q1.mono sub_app) (fun u h => lst_mk hV L rfl (.cons ⟨fun zz zz => trivial, rfl⟩ .nil) h) (fun u h => h ▸ M.frame.mono sub_app) rfl rfl⟩
theorem t_ctl2 {vl ul : Vl} (hl : loopOf (K w.params) = some (cs, t, b)) (H : StIn w C B0 n r om ofl ⟨.call (.ctl 2) [vl, ul], fs, fl, st, dp⟩) (h1 : st < 6000) :
    Turn w cs t b C.am ((C.dm, om) :: (C.dv, ofl) :: r) (Nxt w C B0 n ⟨.call vl [], .cons ul :: fs, fl, st + 1, up fs dp⟩) := by
  walk_at "l"; refine H.open fun d kc M => InsP.o2 M.proc fun x dx o u1 u2 e1 hx hdx hD p1 p2 a1 a2 => LstP.o2 M.vals fun l y1 y2 e2 hl2 q1 q2 b1 b2 => pv_of (dp := dp) M.frame h1 fun v fx fdx f1 f2 f3 f4 f5 dj V => ?_
  walk_at "e"; obtain ⟨kvs, hk, hv, hlen⟩ := H.fl
  have hV := mkT_V (Is := [st, kc, dp, dj]) (D := kvs) (hl_app M.hd (hl_cons V.hd.1 (hl_cons V.hd.2.1 (hl_cons V.hd.2.2.1 (hl_cons V.hd.2.2.2.1 (hl_cons V.hd.2.2.2.2 (hl_cons a1 (hl_cons (a := .none) rfl (hl_cons (a := .none) rfl (hl_cons (a := .none) rfl (hl_cons b1 (hl_cons b2 hl_nil))))))))))))
  walk_at "e"; obtain ⟨vfr, vro, vfc, vout⟩ := V.use 3 3 (mkT [st, kc, dp, dj] (d.vs ++ [f1, f2, f3, f4, f5, u1, .none, .none, .none, y1, y2]) kvs) [C.am, C.dm, C.dv, fx, fdx, l, x, dx] rfl rfl rfl rfl rfl rfl rfl rfl rfl rfl
  walk_at "l"; refine tr hl (go_ctl2 w.params V.lt) H (mkT [st, kc, dp, dj] (d.vs ++ [f1, f2, f3, f4, f5, u1, .none, .none, .none, y1, y2]) kvs) [C.am, C.dm, C.dv, fx, fdx, l, x, dx] rfl rfl rfl rfl M.dv
    (mop_in M rfl rfl rfl rfl rfl rfl rfl rfl rfl ⟨x, rfl, e1⟩ ⟨l, rfl, e2⟩ vfr) vfc hV no_dk no_ext (vro.app (.cons rfl H.base.hI ⟨_, rfl, rfl⟩ (.lst rfl hl2 (.cons rfl (.cons rfl .nil)) (.ins rfl rfl hx hdx hD rfl (.cons ⟨rfl, rfl⟩ (.cons ⟨rfl, p2⟩ .nil)) .nil)))) hk (len7 hlen) rfl
    fun ρ' nw le L => ⟨fl_keep rfl hv hlen, mop_out M le rfl rfl rfl (by decide) rfl rfl rfl (vout ρ' le).2.2 (fun zz zz => trivial) (fun zz zz => trivial) (fun u h => h ▸ q1.mono sub_app) (fun u h => lst_mk hV L rfl .nil h) (fun u h => ins_mk hV L rfl rfl rfl (.cons ⟨rfl, fun u h => h, rfl⟩ (.cons ⟨rfl, fun zz zz => trivial, rfl⟩ (.cons ⟨rfl, fun zz zz => trivial, rfl⟩ (.cons ⟨rfl, fun u h => lst_mk hV L rfl (.cons ⟨fun u h => h ▸ q2.mono sub_app, rfl⟩ .nil) h, rfl⟩ (.cons ⟨rfl, fun u h => (vout ρ' le).1 u h ▸ M.frame.mono sub_app, (V.hs 3 4).1⟩ (.cons ⟨rfl, (vout ρ' le).2.1, (V.hs 3 4).2.1⟩ .nil)))))) h) (V.hs 3 4).2.2 rfl⟩
end
end NT
end
section
open PySem PySem.W PySem.Calls PyProof.Rows
namespace NT
section
variable {w : World} {C : Cst} {B0 : Nd} {n : Int} {r : Ld} {om ofl : Obj} {cs : Scope} {t : PySem.Expr} {b : List Stmt}
theorem step_turn (hl : loopOf (K w.params) = some (cs, t, b)) (hsc : ∀ v, Sc w C.sz r v → ∀ t led, Sub r led → (∀ p ∈ led, @LT.lt Nat _ 1 p.1) → Says w 10 893 [v, .int 1 t] led (fun x l => x = .ref C.sz ∧ l = led)) {σ σ' : St} (S : Step B0 n σ σ') (H : StIn w C B0 n r om ofl σ) (h1 : σ.st < 6000) :
    Turn w cs t b C.am ((C.dm, om) :: (C.dv, ofl) :: r) (Nxt w C B0 n σ') := by
  walk_at "e"; cases S with
  | int => walk_at "l"; exact t_const (nd := .int _) (vl := .int _) (fun zz h => h) hl H h1
  | bool => walk_at "l"; exact t_const (nd := .bool _) (vl := .bool _) (fun zz h => h) hl H h1
  | ctl => walk_at "l"; exact t_const (nd := .ctl _) (vl := .ctl _) (fun zz h => h) hl H h1
  | loc => walk_at "l"; exact t_loc hsc hl H h1
  | glob a c => walk_at "l"; exact t_glob a c hl H h1
  | lam0 => walk_at "l"; exact t_lam (nd := .lam0 _) (vl := .clo0 _) (fun zz h => h) (fun zz zz h => h) hl H h1
  | lam1 => walk_at "l"; exact t_lam (nd := .lam1 _) (vl := .clo1 _) (fun zz h => h) (fun zz zz h => h) hl H h1
  | ite => walk_at "l"; exact t_ite hl H h1
  | setg => walk_at "l"; exact t_setg hl H h1
  | call0 => walk_at "l"; exact t_call (nd := .call0 _ ) (fun zz h => h) hl H h1
  | call1 => walk_at "l"; exact t_call (nd := .call1 _ _ ) (fun zz h => h) hl H h1
  | call2 => walk_at "l"; exact t_call (nd := .call2 _ _ _ ) (fun zz h => h) hl H h1
  | seq => walk_at "l"; exact t_seq hl H h1
  | hseq => walk_at "l"; exact t_hseq hl H h1
  | @htest _ _ _ c => walk_at "e"; cases c with
    | true => walk_at "l"; exact t_htestT hl H h1
    | false => walk_at "l"; exact t_htestF hl H h1
  | hasg a c => walk_at "l"; exact t_hasg a c hl H h1
  | hops0 => walk_at "l"; exact t_hops0 (nd := .call0 _ ) (fun zz h => h) hl H h1
  | hops1a => walk_at "l"; exact t_hops1a (nd := .call1 _ _ ) (fun zz h => h) hl H h1
  | hops1b => walk_at "l"; exact t_hops1b (nd := .call1 _ _ ) (fun zz h => h) hl H h1
  | hops2a => walk_at "l"; exact t_hops2a (nd := .call2 _ _ _ ) (fun zz h => h) hl H h1
  | hops2b => walk_at "l"; exact t_hops2b (nd := .call2 _ _ _ ) (fun zz h => h) hl H h1
  | hops2c => walk_at "l"; exact t_hops2c (nd := .call2 _ _ _ ) (fun zz h => h) hl H h1
  | hcons => walk_at "l"; exact t_hcons hl H h1
  | clo0 => walk_at "l"; exact t_clo0 hl H h1
  | clo1 => walk_at "l"; exact t_clo1 hl H h1
  | ctl3 => walk_at "l"; exact t_ctl3 hl H h1
  | ctl2 => walk_at "l"; exact t_ctl2 hl H h1
end
end NT
end
section
open PySem PySem.W PySem.Calls PyProof.Rows
namespace NT
noncomputable section
noncomputable def fnI (o : Obj) : FnI := match fnOfD o with
  | some d => ⟨d.qualname, d.params, (stmtsOf d.body).getD [], d.scope, d.defaults, d.code⟩
  | none => ⟨"", ⟨[], [], none, [], [], none, []⟩, [], ⟨.module, [], false, false, []⟩, .none, .none⟩
noncomputable def wT (s : Stmt) : PySem.Expr := sKid s 0
noncomputable def wB (s : Stmt) : List Stmt := sBody s
noncomputable def wP (s : Stmt) : Pos := s.pos
noncomputable def rE (s : Stmt) : PySem.Expr := sKid s 0
noncomputable def rP (s : Stmt) : Pos := s.pos
inductive EndP (f : Fx) (s : Shared) (Ret : Value → Ld → Prop) (fl : Flow) (s' : Shared) : Prop
  | mk (m' led' h tk) : (s' = { s with heap := h, toks := tk }) → (Fr f.h₀ f.L h m') → (News f.h₀ f.L h led') → (Ret (fv fl) led') → EndP f s Ret fl s'
noncomputable def argV (n : Nat) : List SV := (List.range n).map .v
theorem says_enter {w : World} {kd fa : Nat} {I : FnI} {vs : List Value} {led : Ld} {Ret : Value → Ld → Prop} {binds : List (Str × SV)} (hI : fnInfo (K w.params) fa = some I) (hb : bindS I.p I.dV (argV vs.length) = some binds) (hl : (binds.all fun y => isLocal I.scope y.1) = true)
    (body : ∀ (f : Fx) (h₁ : Heap) (tk₁ : Nat) (m : Str → Option Value) (s : Shared), FOk (gB w) I.scope kd f → Fr f.h₀ f.L h₁ m → News f.h₀ f.L h₁ led → (∀ x i v, binds.reverse.lookup x = some (.v i) → vs[i]? = some v → m x = some v) →
      wpAny (model PW w) f.A (execs I.body f.env) (EndP f s Ret) f.E { s with heap := h₁, toks := tk₁ }) : Says w (kd + 1) fa vs led Ret := by
  walk_at "l"; intro p loose mean mg mb dp un gd cn cs a ccd cl outer A₀ base h₀ L m s Q E B F X N T on hk hd hu ret
  let f : Fx := ⟨p, loose, mean, mg, mb, ktrTop dp un gd cn cs L a ccd cl outer, A₀, base, h₀, outer, envX cn cs L a ccd cl, L, E⟩
  have O : COk (gB w) (kd + 1) f := ⟨B, X, T, rfl, rfl, hk, rfl, hd, hu, ⟨cn, cs, a, ccd, cl, rfl⟩, on⟩
  have ra : ∀ (us pre : List Value), vs = pre ++ us → All2 (VR (mkT [] vs []) []) ((List.range' pre.length us.length).map .v) us := by
    walk_at "l"; intro us
    walk_at "l"; induction us with
    | nil => walk_at "l"; intro pre e; exact .nil
    | cons u us ih =>
      walk_at "l"; intro pre e
      walk_at "l"; rw [List.length_cons, List.range'_succ, List.map_cons]
      walk_at "l"; refine .cons ?_ ?_
      · walk_at "l"; show u = vs.getD pre.length .none
        walk_at "l"; rw [e, List.getD_eq_getElem?_getD]; simp
      · have := ih (pre ++ [u]) (by rw [e]; simp)
        rw [List.length_append] at this
        walk_at "l"; exact this
  have ra' : All2 (VR (mkT [] vs []) []) (argV vs.length) vs := by
    have := ra vs [] rfl
    walk_at "l"; unfold argV
    walk_at "l"; rw [List.range_eq_range']
    walk_at "l"; exact this
  walk_at "e"; obtain ⟨vb, hvb, rb⟩ := bindS_ok hb ra'
  walk_at "l"; refine wpAny_call (callB_ok (g := gB w) (f := f) hI (fun name kV doc pm an ct => hvb name _ _ _ kV doc pm _ ct an) (locals_ok rb hl) O F N (Ret := Ret) ?_ ?_)
  · walk_at "l"; intro f' h₁ tk₁ O' F' N'
    walk_at "l"; refine wpAny_mono (body f' h₁ tk₁ _ s O' F' N' fun x i v e1 e2 => ?_) (fun fl s' ⟨a, b, c, d, e, x, y, z⟩ => ⟨a, b, c, d, e, x, y, z⟩) fun zz zz q => q
    walk_at "e"; obtain ⟨u, a1, a2⟩ := lookR rb.reverse e1
    walk_at "l"; rw [a1, a2]
    walk_at "l"; show some (vs.getD i .none) = _
    walk_at "l"; rw [List.getD_eq_getElem?_getD, e2]; rfl
  · walk_at "l"; intro v led' h tk F₂ N₂ r
    walk_at "l"; exact ret v led' h tk F₂ N₂ r
theorem sr_mk {w : World} {τ : Vt} {X : Sx} {R0 : Ld} {ρ : List Addr} {st : SS} {f : Fx} {m : Str → Option Value} {news : Ld} {h : Heap} (F : Fr f.h₀ f.L h m) (N : News f.h₀ f.L h (news ++ R0)) (loc : ∀ x sv, st.loc.lookup x = some sv → ∃ v, m x = some v ∧ VR τ ρ sv v)
    (led : LR w τ ρ st.led news) (nx : ρ.length = st.nx) (off : ∀ p ∈ news, ∀ q ∈ R0, q.1 ≠ p.1) (nd : news.Pairwise fun p q => q.1 ≠ p.1) (ro : RoI w τ ρ R0 X.ro) (low : ∀ p ∈ news ++ R0, @LT.lt Nat _ 1 p.1) (ne : R0 ≠ []) :
    SR ⟨w, τ, X, R0, news ++ R0, st.nx, ρ⟩ f ρ st m news h :=
  ⟨F, N, loc, led, nx, off, nd, fun j hj x hx => by
      have := (List.getElem?_eq_some_iff.mp hx).1
      rw [nx] at this
      walk_at "l"; exact absurd hj (Nat.not_le.mpr this), ro.look, fun q hq => ⟨q.2, hq⟩, .refl _, low, ne⟩
noncomputable def LocR (τ : Vt) (ρ : List Addr) (m : Str → Option Value) (l : List (Str × SV)) : Prop := ∀ x sv, l.lookup x = some sv → ∃ v, m x = some v ∧ VR τ ρ sv v
theorem LocR.nil {τ : Vt} {ρ : List Addr} {m : Str → Option Value} : LocR τ ρ m [] := fun zz zz h => nomatch h
theorem LocR.cons {τ : Vt} {ρ : List Addr} {m : Str → Option Value} {l : List (Str × SV)} {x : Str} {sv : SV} {v : Value} (a : m x = some v) (b : VR τ ρ sv v) (h : LocR τ ρ m l) : LocR τ ρ m ((x, sv) :: l) := fun y s e => by
  rw [List.lookup_cons] at e
  walk_at "l"; cases q : (y == x) with
  | true => rw [q] at e; cases e; rw [eq_of_beq q]; exact ⟨v, a, b⟩
  | false => rw [q] at e; exact h y s e
theorem sr_mk0 {w : World} {τ : Vt} {X : Sx} {R0 : Ld} {ρ : List Addr} {loc : List (Str × SV)} {n : Nat} {f : Fx} {m : Str → Option Value} {h : Heap} (F : Fr f.h₀ f.L h m) (N : News f.h₀ f.L h R0) (hloc : LocR τ ρ m loc) (nx : ρ.length = n) (ro : RoI w τ ρ R0 X.ro) (low : ∀ p ∈ R0, @LT.lt Nat _ 1 p.1) (ne : R0 ≠ []) :
    SR ⟨w, τ, X, R0, R0, n, ρ⟩ f ρ ⟨loc, [], n⟩ m [] h := sr_mk (news := []) (st := ⟨loc, [], n⟩) F N hloc .nil nx (fun zz h => (nomatch h)) .nil ro low ne
noncomputable def turnG (X : Sx) (n kd : Nat) (cs : Scope) (t : PySem.Expr) (b : List Stmt) (st : SS) : Option (SF × SS) := do
  let (c, st) ← (recN X n).T cs kd t st
  ck c
  (recN X n).B cs kd b st
noncomputable def I893 : FnI := fnI e_893
theorem fi893 (P : Params) : fnInfo (K P) 893 = some I893 := by kernel_rfl
theorem b893 : I893.body = [nth I893.body 0, .While (wT (nth I893.body 1)) (wB (nth I893.body 1)) [] (wP (nth I893.body 1)), nth I893.body 2] := by kernel_rfl
noncomputable def so_start (P : Params) : Option (SF × SS) := (recN ⟨K P, [], [], [], [], []⟩ 200).S I893.scope 8 (nth I893.body 0) ⟨[("scope", .v 0), ("number", .int 0 1)], [], 0⟩
noncomputable def so_turn (P : Params) (ro : List (Nat × SO)) : Option (SF × SS) := turnG ⟨K P, [], ro, [], [], []⟩ 200 8 I893.scope (wT (nth I893.body 1)) (wB (nth I893.body 1)) ⟨[("here", .a 0), ("number", .int 0 1)], [], 3⟩
noncomputable def so_ro0 : List (Nat × SO) := [(0, .inst 882 1), (1, .dict [("outer", .none), ("values", .a 2)] 2), (2, .idict [((0, 1), .v 0)])]
noncomputable def so_ro1 : List (Nat × SO) := [(0, .inst 882 1), (1, .dict [("outer", .v 0), ("values", .a 2)] 2), (2, .nokey (0, 1))]
theorem so_runs (P : Params) : (so_start P, so_turn P so_ro0, so_turn P so_ro1) = (some (.next, ⟨[("here", .v 0), ("scope", .v 0), ("number", .int 0 1)], [], 0⟩), some (.ret (.a 0), ⟨[("here", .a 0), ("number", .int 0 1)], [], 3⟩), some (.next, ⟨[("here", .v 0), ("here", .a 0), ("number", .int 0 1)], [], 3⟩)) := by kernel_rfl
theorem so_run (P : Params) : (recN ⟨K P, [], [], [], [], []⟩ 200).S I893.scope 8 (nth I893.body 0) ⟨[("scope", .v 0), ("number", .int 0 1)], [], 0⟩ = some (.next, ⟨[("here", .v 0), ("scope", .v 0), ("number", .int 0 1)], [], 0⟩) := congrArg Prod.fst (so_runs P)
theorem so_run0 (P : Params) : so_turn P so_ro0 = some (.ret (.a 0), ⟨[("here", .a 0), ("number", .int 0 1)], [], 3⟩) := congrArg (fun x => x.2.1) (so_runs P)
theorem so_run1 (P : Params) : so_turn P so_ro1 = some (.next, ⟨[("here", .v 0), ("here", .a 0), ("number", .int 0 1)], [], 3⟩) := congrArg (fun x => x.2.2) (so_runs P)
end
end NT
end
section
open PySem PySem.W PySem.Calls PyProof.Rows
namespace NT
theorem gok0 {w : World} {τ : Vt} {ro : List (Nat × SO)} {R0 N0 : Ld} {n0 : Nat} {ρ : List Addr} (hV : ∀ i, handedIn (τ.V i) = true) : (⟨w, τ, ⟨K w.params, [], ro, [], [], []⟩, R0, N0, n0, ρ⟩ : Gx).Ok :=
  ⟨rfl, fun zz zz zz zz h => (nomatch h), hV, fun zz zz zz h => (nomatch h), fun zz zz zz h => (nomatch h)⟩
theorem ScIn.isRef {w : World} {sz : Addr} {r : Ld} {n : Nat} {v : Value} (h : ScIn w sz r n v) : ∃ x, v = .ref x := by
  walk_at "e"; cases n with
  | zero => walk_at "l"; exact ⟨_, h⟩
  | succ n => walk_at "e"; obtain ⟨x, _, _, _, e, _⟩ := h; walk_at "l"; exact ⟨x, e⟩
theorem all2_nil {α β : Type} {R : α → β → Prop} {m : List β} (h : All2 R [] m) : m = [] := by cases h; rfl
theorem turnG_ok {X : Sx} {n kd : Nat} {cs : Scope} {t : PySem.Expr} {b : List Stmt} {st st' : SS} {fl : SF} (h : turnG X n kd cs t b st = some (fl, st')) {g : Gx} {f : Fx} {ρ : List Addr} {m : Str → Option Value} {news : Ld} {s : Shared} (e : g.X = X) (G : g.Ok) (O : FOk g cs kd f) (S : SR g f ρ st m news s.heap) {Q : Flow → Shared → Prop} {Z : Shared → Prop}
    (k : ∀ v ρ₁ m₁ news₁ h₁ tk₁, Le ρ ρ₁ → SR g f ρ₁ st' m₁ news₁ h₁ → FR g.τ ρ₁ fl v → Q v { s with heap := h₁, toks := tk₁ }) :
    WP g f (PySem.isTrue t f.env (eval t f.env)) (fun c s₂ => if c = true then WP g f (execs b f.env) Q s₂ else Z s₂) s := by
  walk_at "e"; obtain ⟨⟨c, st₁⟩, k1, k2⟩ := bs h
  walk_at "e"; obtain ⟨_, k3, k4⟩ := bs k2
  walk_at "l"; refine seq ((recN_ok n).T k1 e G O S rfl) fun v ρ₁ m₁ news₁ h₁ tk₁ le S₁ rv => ?_
  walk_at "l"; rw [rv, ck_t k3]
  walk_at "l"; refine ite_pos rfl (seq (s := { s with heap := h₁, toks := tk₁ }) ((recN_ok n).B k4 e G O S₁) fun v ρ₂ m₂ news₂ h₂ tk₂ le₂ S₂ rv => k v ρ₂ m₂ news₂ h₂ tk₂ (le.trans le₂) S₂ rv)
noncomputable abbrev ScR (sz : Addr) (led : Ld) (x : Value) (l : Ld) : Prop := x = .ref sz ∧ l = led
noncomputable abbrev ScI (w : World) (sz : Addr) (r led : Ld) (j : Nat) (m : Str → Option Value) (nx : Ld) : Prop := nx = led ∧ (∃ v, ScIn w sz r j v ∧ m "here" = some v) ∧ ∃ t, m "number" = some (.int 1 t)
theorem scope_says {w : World} {sz cz : Addr} {r led : Ld} {v : Value} {n : Nat} {t : Tok} (hZ : InsP w r 882 [("outer", fun v => v = .none), ("values", fun v => ∃ e oe, v = .ref e ∧ (e, oe) ∈ r ∧ oe.IsDictOf (intKind PW w) [(1, .ref cz)])] (.ref sz))
    (hs : ScIn w sz r n v) (sub : Sub r led) (low : ∀ p ∈ led, @LT.lt Nat _ 1 p.1) : Says w 10 893 [v, .int 1 t] led (ScR sz led) := by
  have ne : led ≠ [] := by
    walk_at "e"; obtain ⟨x, _, _, _, _, h, _⟩ := hZ
    walk_at "l"; exact List.ne_nil_of_mem (sub _ h)
  walk_at "l"; refine says_enter (kd := 9) (fi893 _) (binds := [("scope", .v 0), ("number", .v 1)]) rfl rfl ?_
  walk_at "l"; intro f h₁ tk₁ m s O F N hm
  have m1 := hm "scope" 0 v rfl rfl
  have m2 := hm "number" 1 (.int 1 t) rfl rfl
  walk_at "l"; rw [b893]
  walk_at "e"; obtain ⟨x, rfl⟩ := hs.isRef
  have hV := mkT_V (Is := []) (Vs := [.ref x]) (D := []) (hl_cons rfl hl_nil)
  have O8 : FOk (gB w) I893.scope 8 f := ⟨⟨O.B, O.X, O.T, O.hA, O.hf, O.hke, O.hh, by have := O.hd; lia, by have := O.hu; lia, O.env, O.one⟩, O.envo, O.pass⟩
  walk_at "l"; refine wpAny_execs_cons (seq (g := ⟨w, mkT [] [.ref x] [], ⟨K w.params, [], [], [], [], []⟩, led, led, 0, []⟩) (s := { s with heap := h₁, toks := tk₁ }) ((recN_ok 200).S (so_run w.params) rfl (gok0 hV) (O8.to rfl rfl) (sr_mk0 F N (.cons m1 rfl (.cons m2 ⟨t, rfl⟩ .nil)) rfl .nil low ne)) fun fl ρ₁ m₁ news₁ h₂ tk₂ le S₁ rv => ?_)
  walk_at "e"; cases rv
  walk_at "l"; refine wpAny_execs_cons ?_
  have hn1 := all2_nil S₁.led
  walk_at "e"; subst hn1
  have hh : m₁ "here" = some (.ref x) := by
    walk_at "e"; obtain ⟨u, a, b⟩ := S₁.loc "here" (.v 0) rfl
    walk_at "l"; rw [a, b]; rfl
  have hn : ∃ t, m₁ "number" = some (.int 1 t) := by
    walk_at "e"; obtain ⟨u, a, t', b⟩ := S₁.loc "number" (.int 0 1) rfl
    walk_at "l"; exact ⟨t', by rw [a, b]; rfl⟩
  walk_at "l"; refine While_inv2 (ScI w sz r led) S₁.F S₁.N ⟨rfl, ⟨_, hs, hh⟩, hn⟩ ?_ O.pass
  walk_at "l"; rintro j m nx h tk F2 N2 ⟨rfl, ⟨v, hs, e1⟩, t, e2⟩
  walk_at "e"; cases j with
  | zero =>
    walk_at "e"; cases hs
    walk_at "l"; refine InsP.o2 hZ fun z dz oz uo uv e3 hz hdz hDz q1 q2 a1 a2 => ?_
    walk_at "e"; cases e3
    walk_at "e"; obtain ⟨e, oe, rfl, he, hed⟩ := q2
    walk_at "l"; refine turnG_ok (so_run0 w.params) (g := ⟨w, mkT [] [.ref cz] [], ⟨K w.params, [], so_ro0, [], [], []⟩, nx, nx, 3, [sz, dz, e]⟩) rfl (gok0 (mkT_V (hl_cons rfl hl_nil))) (O8.to rfl rfl)
      (sr_mk0 F2 N2 (.cons e1 ⟨sz, rfl, rfl⟩ (.cons e2 ⟨t, rfl⟩ .nil)) rfl (.ins rfl rfl (sub _ hz) (sub _ hdz) hDz rfl (.cons ⟨rfl, q1⟩ (.cons ⟨rfl, e, rfl, rfl⟩ .nil)) (.cons rfl (sub _ he) ⟨_, hed, .cons ⟨rfl, rfl⟩ .nil⟩ .nil)) low ne) ?_
    walk_at "l"; intro v ρ₁ m₁ news₁ h₁ tk₁ le S₁ rv
    walk_at "e"; obtain ⟨u, rfl, y, hy, rfl⟩ := rv
    rw [le 0 sz rfl] at hy
    walk_at "e"; cases hy
    have hn1 := all2_nil S₁.led
    walk_at "e"; subst hn1
    walk_at "l"; exact ⟨m₁, _, h₁, tk₁, rfl, S₁.F, S₁.N, rfl, rfl⟩
  | succ j =>
    walk_at "l"; refine InsP.o2 hs fun z dz oz uo uv e3 hz hdz hDz q1 q2 a1 a2 => ?_
    walk_at "e"; subst e3
    walk_at "e"; obtain ⟨e, oe, kvs, rfl, he, hed, hno⟩ := q2
    walk_at "l"; refine turnG_ok (so_run1 w.params) (g := ⟨w, mkT [] [uo] [], ⟨K w.params, [], so_ro1, [], [], []⟩, nx, nx, 3, [z, dz, e]⟩) rfl (gok0 (mkT_V (hl_cons a1 hl_nil))) (O8.to rfl rfl)
      (sr_mk0 F2 N2 (.cons e1 ⟨z, rfl, rfl⟩ (.cons e2 ⟨t, rfl⟩ .nil)) rfl (.ins rfl rfl (sub _ hz) (sub _ hdz) hDz rfl (.cons ⟨rfl, rfl⟩ (.cons ⟨rfl, e, rfl, rfl⟩ .nil)) (.cons rfl (sub _ he) ⟨_, hed, hno⟩ .nil)) low ne) ?_
    walk_at "l"; intro v ρ₁ m₁ news₁ h₁ tk₁ le S₁ rv
    walk_at "e"; cases rv
    have hn1 := all2_nil S₁.led
    walk_at "e"; subst hn1
    walk_at "e"; obtain ⟨u, a, b⟩ := S₁.loc "here" (.v 0) rfl
    walk_at "e"; obtain ⟨u2, a', t', b'⟩ := S₁.loc "number" (.int 0 1) rfl
    walk_at "l"; exact ⟨h₁, tk₁, m₁, _, j, rfl, S₁.F, S₁.N, Nat.lt_succ_self _, rfl, ⟨u, by rw [b]; exact q1, a⟩, t', by rw [a', b']; rfl⟩
end NT
end
section
open PySem PySem.W PySem.Calls PyProof.Rows
namespace NT
noncomputable section
noncomputable def I1057 : FnI := fnI e_1057
theorem fi1057 (P : Params) : fnInfo (K P) 1057 = some I1057 := by kernel_rfl
theorem b1057 : I1057.body = [.While (wT (nth I1057.body 0)) (wB (nth I1057.body 0)) [] (wP (nth I1057.body 0)), nth I1057.body 1] := by kernel_rfl
theorem loop1057 (P : Params) : loopOf (K P) = some (I1057.scope, wT (nth I1057.body 0), wB (nth I1057.body 0)) := by kernel_rfl
noncomputable def finRo : List (Nat × SO) := [(0, .inst 1165 1), (1, .dict (mS ⟨.v 0, .v 1, .v 2, .v 3, .v 4, .v 5, .v 6, .int 0 2, .v 7, .v 8, .v 9, .v 10, .none⟩) 13)]
noncomputable def finE (P : Params) : Option (SF × SS) := do
  let (c, st) ← (recN ⟨K P, [], finRo, [], [], []⟩ 200).T I1057.scope 60 (wT (nth I1057.body 0)) ⟨[("self", .a 0)], [], 2⟩
  ck (!c)
  (recN ⟨K P, [], finRo, [], [], []⟩ 200).B I1057.scope 60 [nth I1057.body 1] st
theorem fin_run (P : Params) : finE P = some (.ret (.v 10), ⟨[("self", .a 0)], [], 2⟩) := by kernel_rfl
end
theorem IsI.handed {i : Int} {v : Value} (h : IsI i v) : handedIn v = true := by obtain ⟨t, rfl⟩ := h; rfl
inductive FinR (w : World) (am dm dv tp ab : Addr) (B0 : Nd) (n : Int) (xs : Ld) (σ' : St) (us : List Vl) (v : Value) (l : Ld) : Prop
  | mk (sz cz dcz om' ofl' r') : (Sub ((dm, om') :: (dv, ofl') :: r') l) → (StIn w ⟨am, dm, dv, tp, ab, sz, cz, dcz, xs⟩ B0 n r' om' ofl' σ') → (VlsIn w sz r' us v) → FinR w am dm dv tp ab B0 n xs σ' us v l
noncomputable abbrev FinI (w : World) (am dm dv tp ab : Addr) (B0 : Nd) (n : Int) (xs pre : Ld) (σ' : St) (k j : Nat) (m : Str → Option Value) (nx : Ld) : Prop := m "self" = some (.ref am) ∧ ((j = k + 1 ∧ nx = pre) ∨ ∃ sz cz dcz σ om ofl r, nx = (dm, om) :: (dv, ofl) :: r ∧ Runs B0 n j σ σ' ∧ StIn w ⟨am, dm, dv, tp, ab, sz, cz, dcz, xs⟩ B0 n r om ofl σ)
theorem finish_says {w : World} {am dm dv tp ab : Addr} {B0 : Nd} {n : Int} {pre xs : Ld} {σ σ' : St} {k : Nat} {us : List Vl} (T0 : Turn w I1057.scope (wT (nth I1057.body 0)) (wB (nth I1057.body 0)) am pre (fun l => ∃ sz cz dcz, Nxt w ⟨am, dm, dv, tp, ab, sz, cz, dcz, xs⟩ B0 n σ l))
    (R : Runs B0 n k σ σ') (hm : σ'.md = .give us) (hf : σ'.fs = []) (hst : σ'.st ≤ 6000) :
    Says w 61 1057 [.ref am] pre (FinR w am dm dv tp ab B0 n xs σ' us) := by
  walk_at "l"; refine says_enter (kd := 60) (fi1057 _) (binds := [("self", .v 0)]) rfl rfl ?_
  walk_at "l"; intro f h₁ tk₁ m s O F N hmm
  have m1 := hmm "self" 0 _ rfl rfl
  walk_at "l"; rw [b1057]
  walk_at "l"; refine wpAny_execs_cons (While_inv2 (n₀ := k + 1) (FinI w am dm dv tp ab B0 n xs pre σ' k) F N ⟨m1, .inl ⟨rfl, rfl⟩⟩ ?_ O.pass)
  walk_at "l"; rintro j m₂ nx h tk F2 N2 ⟨hself, ⟨rfl, rfl⟩ | ⟨sz, cz, dcz, σ₂, om₂, ofl₂, r₂, rfl, R₂, H₂⟩⟩
  · walk_at "l"; refine wpAny_mono (T0 f m₂ _ O F2 N2 hself) (fun c s₂ q => ?_) fun zz zz q => q
    walk_at "e"; cases c with
    | false => walk_at "l"; exact (show False from q).elim
    | true =>
      walk_at "l"; refine ite_pos rfl (wpAny_mono (show wpAny _ _ _ _ _ _ from q) (fun fl s' q => ?_) fun zz zz q => q)
      walk_at "e"; obtain ⟨rfl, m₃, h₃, tk₃, post, rfl, F₃, N₃, hs₃, sz, cz, dcz, om₃, ofl₃, r₃, sub, H₃⟩ := q
      walk_at "l"; exact ⟨h₃, tk₃, m₃, _, k, rfl, F₃, fun p hp => N₃ p (sub p hp), Nat.lt_succ_self _, hs₃, .inr ⟨sz, cz, dcz, _, _, _, _, rfl, R, H₃⟩⟩
  walk_at "e"; cases R₂ with
  | cons S R₂ =>
    have hlt : σ₂.st < 6000 := by
      have a := S.st
      have b := R₂.st
      walk_at "l"; lia
    walk_at "l"; refine wpAny_mono (step_turn (loop1057 _) (fun v hv t led sub lo => scope_says H₂.base.hZ hv.choose_spec sub lo) S H₂ hlt f m₂ _ O F2 N2 hself) (fun c s₂ q => ?_) fun zz zz q => q
    walk_at "e"; cases c with
    | false => walk_at "l"; exact (show False from q).elim
    | true =>
      walk_at "l"; refine ite_pos rfl (wpAny_mono (show wpAny _ _ _ _ _ _ from q) (fun fl s' q => ?_) fun zz zz q => q)
      walk_at "e"; obtain ⟨rfl, m₃, h₃, tk₃, post, rfl, F₃, N₃, hs₃, om₃, ofl₃, r₃, sub, H₃⟩ := q
      walk_at "l"; exact ⟨h₃, tk₃, m₃, _, _, rfl, F₃, fun p hp => N₃ p (sub p hp), Nat.lt_succ_self _, hs₃, .inr ⟨sz, cz, dcz, _, _, _, _, rfl, R₂, H₃⟩⟩
  | nil =>
    walk_at "l"; refine H₂.open fun d kc M => ?_
    have B := H₂.base
    have hfr : d.frame = .none := by
      have := M.frame
      rw [hf] at this
      walk_at "l"; exact this
    have hmo : IsI 2 d.mode := by
      have := M.mode
      rw [hm] at this
      walk_at "l"; exact this
    have hv : VlsIn w sz r₂ us d.vals := by
      have := M.vals
      rw [hm] at this
      walk_at "l"; exact this
    have hfin := fin_run w.params
    unfold finE at hfin
    walk_at "e"; obtain ⟨⟨c, st₁⟩, k1, k2⟩ := bs hfin
    walk_at "e"; obtain ⟨_, k3, k4⟩ := bs k2
    have hV := mkT_V (Is := []) (Vs := [d.tops, d.lim, d.lib, d.asg, d.steps, d.calls, d.deep, d.node, d.scope, d.proc, d.vals]) (D := []) (hl_cons (M.hd _ (.head _)) (hl_cons M.lim.handed (hl_cons (M.hd _ (.tail _ (.head _))) (hl_cons (M.hd _ (.tail _ (.tail _ (.head _)))) (hl_cons M.steps.handed (hl_cons M.calls.handed (hl_cons M.deep.handed (hl_cons (M.hd _ (.tail _ (.tail _ (.tail _ (.head _))))) (hl_cons (M.hd _ (.tail _ (.tail _ (.tail _ (.tail _ (.head _)))))) (hl_cons (M.hd _ (.tail _ (.tail _ (.tail _ (.tail _ (.tail _ (.head _))))))) (hl_cons (M.hd _ (.tail _ (.tail _ (.tail _ (.tail _ (.tail _ (.tail _ (.head _)))))))) hl_nil)))))))))))
    have hro : RoI w (mkT [] [d.tops, d.lim, d.lib, d.asg, d.steps, d.calls, d.deep, d.node, d.scope, d.proc, d.vals] []) [am, dm] ((dm, om₂) :: (dv, ofl₂) :: r₂) finRo :=
      .cons rfl (.tail _ (.tail _ B.hI)) ⟨_, rfl, rfl⟩ (.cons rfl (.head _) (M.dv.or (.cons ⟨rfl, rfl⟩ (.cons ⟨rfl, rfl⟩ (.cons ⟨rfl, rfl⟩ (.cons ⟨rfl, rfl⟩ (.cons ⟨rfl, rfl⟩ (.cons ⟨rfl, rfl⟩ (.cons ⟨rfl, rfl⟩ (.cons ⟨rfl, hmo⟩ (.cons ⟨rfl, rfl⟩ (.cons ⟨rfl, rfl⟩ (.cons ⟨rfl, rfl⟩ (.cons ⟨rfl, rfl⟩ (.cons ⟨rfl, hfr⟩ .nil)))))))))))))) .nil)
    let g : Gx := ⟨w, mkT [] [d.tops, d.lim, d.lib, d.asg, d.steps, d.calls, d.deep, d.node, d.scope, d.proc, d.vals] [], ⟨K w.params, [], finRo, [], [], []⟩, (dm, om₂) :: (dv, ofl₂) :: r₂, (dm, om₂) :: (dv, ofl₂) :: r₂, 2, [am, dm]⟩
    have S0 : SR g f [am, dm] ⟨[("self", .a 0)], [], 2⟩ m₂ [] h := sr_mk0 F2 N2 (.cons hself ⟨_, rfl, rfl⟩ .nil) rfl hro (List.forall_mem_cons.mpr ⟨B.lowm, List.forall_mem_cons.mpr ⟨B.lowv, B.low⟩⟩) (List.cons_ne_nil _ _)
    walk_at "l"; refine seq (g := g) ((recN_ok 200).T k1 (g := g) rfl (gok0 hV) (O.to rfl rfl) S0 rfl) fun v ρ₁ m₁ news₁ h₁ tk₁ le S₁ rv => ?_
    have hc : c = false := by have := ck_t k3; simpa using this
    walk_at "l"; rw [rv, hc]
    walk_at "l"; refine ite_neg (by decide) ?_
    walk_at "l"; refine seq (g := g) (s := { s with heap := h₁, toks := tk₁ }) ((recN_ok 200).B k4 (g := g) rfl (gok0 hV) (O.to rfl rfl) S₁) fun v ρ₂ m₂ news₂ h₂ tk₂ le₂ S₂ rv => ?_
    walk_at "e"; obtain ⟨u, rfl, hu⟩ := rv
    have hn := all2_nil S₂.led
    walk_at "e"; subst hn
    have hu : u = d.vals := hu
    walk_at "l"; exact ⟨m₂, _, h₂, tk₂, rfl, S₂.F, S₂.N, sz, cz, dcz, _, _, _, fun zz h => h, H₂, by show VlsIn w sz r₂ us u; rw [hu]; exact hv⟩
end NT
end
section
open PySem PySem.W PySem.Calls PyProof.Rows
namespace NT
noncomputable section
noncomputable def I966 : FnI := fnI e_966
noncomputable def alT : PySem.Expr := wT (nth I966.body 2)
noncomputable def alB : List Stmt := wB (nth I966.body 2)
noncomputable def alS (nx : Nat) : SS := ⟨[("waiting", .a 1), ("found", .a 0)], [(1, .plist 1 [.a 2]), (0, .idict [])], nx⟩
noncomputable def al0 (P : Params) : Option (SF × SS) := (recN ⟨K P, [], [], [], [], []⟩ 200).B I966.scope 40 [nth I966.body 0, nth I966.body 1] ⟨[("node", .v 0)], [], 0⟩
noncomputable def alGo (P : Params) (i : List (Nat × SO) × Nat) : Option (SF × SS) := turnG ⟨K P, [], i.1, [], [], []⟩ 200 40 I966.scope alT alB (alS i.2)
noncomputable def alE (P : Params) : Option (SF × SS) := do
  let (c, st) ← (recN ⟨K P, [], [], [], [], []⟩ 200).T I966.scope 40 alT ⟨[("waiting", .a 1), ("found", .a 0)], [(1, .plist 0 []), (0, .idict [])], 2⟩
  ck (!c)
  (recN ⟨K P, [], [], [], [], []⟩ 200).B I966.scope 40 [nth I966.body 3] st
noncomputable def roA (C : Nat) (fs : List (Str × SV)) (more : List (Nat × SO)) : List (Nat × SO) := (2, .inst C 3) :: (3, .dict fs fs.length) :: more
noncomputable def alI : List (List (Nat × SO) × Nat) := [
  (roA 557 [("value", .v 0)] [], 4),
  (roA 576 [("number", .v 0)] [], 4),
  (roA 595 [("symbol", .v 0)] [], 4),
  (roA 708 [("label", .v 0), ("params", .v 1), ("rest", .v 2), ("body", .v 3)] [], 4),
  (roA 661 [("test", .v 0), ("yes", .v 1), ("no", .v 2)] [], 4),
  (roA 628 [("symbol", .v 0), ("value", .v 1)] [], 4),
  (roA 741 [("operator", .v 0), ("operands", .a 4)] [(4, .list [] 0)], 5),
  (roA 741 [("operator", .v 0), ("operands", .a 4)] [(4, .list [.v 1] 0)], 5),
  (roA 741 [("operator", .v 0), ("operands", .a 4)] [(4, .list [.v 1, .v 2] 0)], 5),
  (roA 774 [("items", .a 4)] [(4, .list [.v 0, .v 1] 0)], 5),
  (roA 807 [("numbers", .v 0), ("lambdas", .a 4), ("body", .v 2)] [(4, .list [.v 1] 0)], 5)]
noncomputable def alO : List (Option (SF × SS)) := [some (.next, ⟨[("waiting", .a 1), ("found", .a 0), ("node", .v 0)], [(1, .list [.v 0] 0), (0, .idict [])], 2⟩),
  some (.ret (.a 3), ⟨[("waiting", .a 1), ("found", .a 0)], [(3, .plist 0 []), (2, .list [] 0), (1, .plist 0 []), (0, .idict [])], 4⟩),
  some (.next, ⟨[("here", .a 2), ("waiting", .a 1), ("found", .a 0)], [(5, .list [] 0), (4, .list [] 0), (1, .plist 1 []), (0, .idict [])], 6⟩),
  some (.next, ⟨[("here", .a 2), ("waiting", .a 1), ("found", .a 0)], [(5, .list [] 0), (4, .list [] 0), (1, .plist 1 []), (0, .idict [])], 6⟩),
  some (.next, ⟨[("here", .a 2), ("waiting", .a 1), ("found", .a 0)], [(5, .list [] 0), (4, .list [] 0), (1, .plist 1 []), (0, .idict [])], 6⟩),
  some (.next, ⟨[("part", .v 3), ("here", .a 2), ("waiting", .a 1), ("found", .a 0)], [(5, .list [.v 3] 0), (4, .list [] 0), (1, .plist 1 [.v 3]), (0, .idict [])], 6⟩),
  some (.next, ⟨[("part", .v 2), ("part", .v 1), ("part", .v 0), ("here", .a 2), ("waiting", .a 1), ("found", .a 0)], [(5, .list [.v 0, .v 1, .v 2] 0), (4, .list [] 0), (1, .plist 1 [.v 0, .v 1, .v 2]), (0, .idict [])], 6⟩),
  some (.next, ⟨[("part", .v 1), ("here", .a 2), ("waiting", .a 1), ("found", .a 0)], [(5, .list [.v 1] 0), (4, .list [] 0), (1, .plist 1 [.v 1]), (0, .idict [])], 6⟩),
  some (.next, ⟨[("part", .v 0), ("here", .a 2), ("waiting", .a 1), ("found", .a 0)], [(7, .list [.v 0] 0), (6, .list [.v 0] 0), (5, .list [] 0), (1, .plist 1 [.v 0]), (0, .idict [])], 8⟩),
  some (.next, ⟨[("part", .v 1), ("part", .v 0), ("here", .a 2), ("waiting", .a 1), ("found", .a 0)], [(7, .list [.v 0, .v 1] 0), (6, .list [.v 0] 0), (5, .list [] 0), (1, .plist 1 [.v 0, .v 1]), (0, .idict [])], 8⟩),
  some (.next, ⟨[("part", .v 2), ("part", .v 1), ("part", .v 0), ("here", .a 2), ("waiting", .a 1), ("found", .a 0)], [(7, .list [.v 0, .v 1, .v 2] 0), (6, .list [.v 0] 0), (5, .list [] 0), (1, .plist 1 [.v 0, .v 1, .v 2]), (0, .idict [])], 8⟩),
  some (.next, ⟨[("part", .v 1), ("part", .v 0), ("here", .a 2), ("waiting", .a 1), ("found", .a 0)], [(6, .list [.v 0, .v 1] 1), (5, .list [] 0), (1, .plist 1 [.v 0, .v 1]), (0, .idict [])], 7⟩),
  some (.next, ⟨[("part", .v 2), ("part", .v 1), ("here", .a 2), ("waiting", .a 1), ("found", .a 0)], [(7, .list [.v 1, .v 2] 0), (6, .list [.v 2] 0), (5, .list [] 0), (1, .plist 1 [.v 1, .v 2]), (0, .idict [])], 8⟩)]
end
theorem al_runs (P : Params) : al0 P :: alE P :: alI.map (alGo P) = alO := by kernel_rfl
inductive AI where
  | nd (n : Nd)
  | fix (b : Nd)
noncomputable def Nd.sz : Nd → Nat
  | .int _ => 1
  | .bool _ => 1
  | .ctl _ => 1
  | .loc => 1
  | .glob _ => 1
  | .lam0 b => b.sz + 1
  | .lam1 b => b.sz + 1
  | .ite a b c => a.sz + b.sz + c.sz + 1
  | .setg _ a => a.sz + 1
  | .call0 f => f.sz + 1
  | .call1 f a => f.sz + a.sz + 1
  | .call2 f a b => f.sz + a.sz + b.sz + 1
  | .seq a b => a.sz + b.sz + 1
noncomputable def AI.sz : AI → Nat
  | .nd n => n.sz
  | .fix b => b.sz + 4
noncomputable def FixIn (w : World) (r : Ld) (b : Nd) : Value → Prop := InsP w r 807 [("numbers", LstP r [IsI 1]), ("lambdas", LstP r [NdIn w r (.lam0 b)]), ("body", NdIn w r (.call0 .loc))]
noncomputable def AIn (w : World) (r : Ld) : AI → Value → Prop
  | .nd n => NdIn w r n
  | .fix b => FixIn w r b
noncomputable def AIs (l : List AI) : Nat := (l.map AI.sz).sum
noncomputable def mkP (Vs pre : List Value) : Vt := ⟨fun zz => 0, fun n => Vs.getD n .none, fun zz => default, fun zz => [], fun zz => pre⟩
theorem mkP_V {Vs pre : List Value} (h : ∀ v ∈ Vs, handedIn v = true) (i : Nat) : handedIn ((mkP Vs pre).V i) = true := mkT_V (Is := []) (D := []) h i
structure AlOk (w : World) (rest : Ld) (x : Addr) (parts : List Value) : Prop where
  run : ∃ ro nx loc' led' nx' ps Vs tail, alGo w.params (ro, nx) = some (.next, ⟨loc', led', nx'⟩) ∧ loc'.lookup ("waiting" : Str) = some (.a 1) ∧ loc'.lookup ("found" : Str) = some (.a 0) ∧ led'.lookup 1 = some (.plist 1 ps) ∧ led'.lookup 0 = some (.idict [])
    ∧ (∀ v ∈ Vs, handedIn v = true) ∧ tail.length + 3 = nx ∧ (∀ pre fd wl, RoI w (mkP Vs pre) (fd :: wl :: x :: tail) rest ro) ∧ ∀ pre ρ' us, All2 (VR (mkP Vs pre) ρ') ps us → us = parts
theorem al_turn {w : World} {rest : Ld} {x wl fd : Addr} {parts pre : List Value} {c : Nat} {of : Obj} (A : AlOk w rest x parts) (hpre : pre.length ≤ 1000000) (low : ∀ p ∈ rest, @LT.lt Nat _ 1 p.1) (ne : rest ≠ []) (l1 : @LT.lt Nat _ 1 wl) (l2 : @LT.lt Nat _ 1 fd) (hd : @Ne Nat wl fd)
    (hr1 : ∀ p ∈ rest, p.1 ≠ wl) (hr2 : ∀ p ∈ rest, p.1 ≠ fd) (hof : of.IsDictOf (intKind PW w) []) {f : Fx} {m : Str → Option Value} {s : Shared} (O : FOk (gB w) I966.scope 40 f) (F : Fr f.h₀ f.L s.heap m) (N : News f.h₀ f.L s.heap ((wl, W.listOf (pre ++ [Value.ref x]).toArray c) :: (fd, of) :: rest))
    (hw : m "waiting" = some (.ref wl)) (hf : m "found" = some (.ref fd)) {Q : Flow → Shared → Prop} {Z : Shared → Prop}
    (k : ∀ m' h tk c' of', Fr f.h₀ f.L h m' → News f.h₀ f.L h ((wl, W.listOf (pre ++ parts).toArray c') :: (fd, of') :: rest) → of'.IsDictOf (intKind PW w) [] → m' "waiting" = some (.ref wl) → m' "found" = some (.ref fd) → Q .next { s with heap := h, toks := tk }) :
    wpAny (model PW w) f.A (PySem.isTrue alT f.env (eval alT f.env)) (fun c s₂ => if c = true then wpAny (model PW w) f.A (execs alB f.env) Q f.E s₂ else Z s₂) f.E s := by
  walk_at "e"; obtain ⟨ro, nx, loc', led', nx', ps, Vs, tail, hgo, h1, h2, h3, h4, hV, hnx, hro, hps⟩ := A.run
  let g : Gx := ⟨w, mkP Vs pre, ⟨K w.params, [], ro, [], [], []⟩, rest, (wl, W.listOf (pre ++ [Value.ref x]).toArray c) :: (fd, of) :: rest, nx, fd :: wl :: x :: tail⟩
  have S : SR g f (fd :: wl :: x :: tail) (alS nx) m [(wl, W.listOf (pre ++ [Value.ref x]).toArray c), (fd, of)] s.heap := by
    walk_at "l"; refine sr_mk (τ := mkP Vs pre) (ρ := fd :: wl :: x :: tail) (st := alS nx) F N (LocR.cons hw ⟨wl, rfl, rfl⟩ (LocR.cons hf ⟨fd, rfl, rfl⟩ LocR.nil)) (.cons ⟨rfl, [.ref x], c, rfl, .cons ⟨x, rfl, rfl⟩ .nil, hpre⟩ (.cons ⟨rfl, [], hof, .nil⟩ .nil)) ?_ ?_ ?_ (hro pre fd wl) ?_ ne
    · walk_at "l"; show tail.length + 1 + 1 + 1 = nx
      walk_at "l"; lia
    · walk_at "l"; exact List.forall_mem_cons.mpr ⟨fun q hq => hr1 q hq, List.forall_mem_cons.mpr ⟨fun q hq => hr2 q hq, fun zz h => (nomatch h)⟩⟩
    · walk_at "l"; exact pair_two hd.symm
    · walk_at "l"; exact List.forall_mem_cons.mpr ⟨l1, List.forall_mem_cons.mpr ⟨l2, low⟩⟩
  walk_at "l"; refine turnG_ok hgo (g := g) rfl (gok0 (mkP_V hV)) (O.to rfl rfl) S ?_
  walk_at "l"; intro v ρ₁ m₁ news₁ h₁ tk₁ le S₁ rv
  walk_at "e"; cases rv
  walk_at "e"; obtain ⟨x1, o1, a1, a2, l, c', rfl, a3, _⟩ := S₁.led.look h3
  walk_at "e"; obtain ⟨x0, o0, b1, b2, b3⟩ := S₁.led.look h4
  rw [le 1 wl rfl] at a1; walk_at "e"; cases a1
  rw [le 0 fd rfl] at b1; walk_at "e"; cases b1
  walk_at "e"; obtain ⟨kvs, b4, b5⟩ := b3
  walk_at "e"; cases b5
  walk_at "e"; obtain ⟨u, d1, e1, d2, rfl⟩ := S₁.loc _ _ h1
  rw [le 1 wl rfl] at d2; walk_at "e"; cases d2
  walk_at "e"; obtain ⟨u, d3, e1, d4, rfl⟩ := S₁.loc _ _ h2
  rw [le 0 fd rfl] at d4; walk_at "e"; cases d4
  walk_at "e"; cases hps _ _ _ a3
  walk_at "l"; refine k m₁ h₁ tk₁ c' o0 S₁.F (fun p hp => ?_) b4 d1 d3
  walk_at "e"; rcases List.mem_cons.mp hp with rfl | hp
  · walk_at "l"; exact S₁.N _ (List.mem_append_left _ a2)
  · walk_at "e"; rcases List.mem_cons.mp hp with rfl | hp
    · walk_at "l"; exact S₁.N _ (List.mem_append_left _ b2)
    · walk_at "l"; exact S₁.N _ (List.mem_append_right _ hp)
end NT
end
section
open PySem PySem.W PySem.Calls PyProof.Rows
namespace NT
theorem getD_two {α : Type} (a b : α) (l : List α) (k : Nat) (d : α) : (a :: b :: l).getD (k + 2) d = l.getD k d := rfl
theorem getD_map {α β : Type} (f : α → β) : ∀ (l : List α) (k : Nat) (d : α) (e : β), k < l.length → (l.map f).getD k e = f (l.getD k d)
  | [], _, _, _, h => absurd h (Nat.not_lt_zero _)
  | _ :: _, 0, _, _, _ => rfl
  | _ :: l, k + 1, d, e, h => getD_map f l k d e (Nat.lt_of_succ_lt_succ h)
theorem al_g (P : Params) (k : Nat) (h : k < 11) : alGo P (alI.getD k ([], 0)) = alO.getD (k + 2) none := (getD_map _ _ _ _ none h).symm.trans ((getD_two _ _ _ k none).symm.trans (congrArg (fun l => l.getD (k + 2) none) (al_runs P)))
theorem al_s (P : Params) : al0 P = alO.getD 0 none := List.cons.inj (al_runs P) |>.1
theorem al_e (P : Params) : alE P = alO.getD 1 none := List.cons.inj (List.cons.inj (al_runs P)).2 |>.1
theorem ps_v {τ : Vt} {ρ : List Addr} : ∀ {is : List Nat} {us : List Value}, All2 (VR τ ρ) (is.map .v) us → us = is.map τ.V
  | [], _, h => by cases h; rfl
  | i :: is, _, h => by
    walk_at "e"; cases h with
    | cons a b => walk_at "l"; rw [List.map_cons, ← ps_v b]; exact congrArg (· :: _) a
section
variable {w : World} {rest : Ld}
inductive AlR (w : World) (rest : Ld) (v : Value) (n : Nat) : Prop
  | mk (x new parts) : (v = .ref x) → (AlOk w rest x parts) → (All2 LiR (new.map (AIn w rest)) parts) → (AIs new < n) → AlR w rest v n
theorem al_const {p : Value → Prop} {v : Value} (h : InsP w rest 557 [("value", p)] v) : AlR w rest v 1 :=
  h.o1 fun x dx o u1 e hx hdx hD p1 a1 => ⟨x, [], [], e, ⟨⟨_, _, _, _, _, _, [u1], [dx], al_g w.params 0 (by decide), rfl, rfl, rfl, rfl, hl_cons a1 hl_nil, rfl, fun pre fd wl => .ins rfl rfl hx hdx hD rfl (.cons ⟨rfl, rfl⟩ .nil) .nil, fun zz zz zz h => ps_v (is := []) h⟩⟩, .nil, Nat.zero_lt_one⟩
theorem al_lam {p q t : Value → Prop} {b : Nd} {v : Value} (h : InsP w rest 708 [("label", p), ("params", q), ("rest", t), ("body", NdIn w rest b)] v) : AlR w rest v (b.sz + 1) :=
  h.o4 fun x dx o u1 u2 u3 u4 e hx hdx hD p1 p2 p3 p4 a1 a2 a3 a4 => ⟨x, [.nd b], [u4], e, ⟨⟨_, _, _, _, _, _, [u1, u2, u3, u4], [dx], al_g w.params 3 (by decide), rfl, rfl, rfl, rfl, hl_cons a1 (hl_cons a2 (hl_cons a3 (hl_cons a4 hl_nil))), rfl, fun pre fd wl => .ins rfl rfl hx hdx hD rfl (.cons ⟨rfl, rfl⟩ (.cons ⟨rfl, rfl⟩ (.cons ⟨rfl, rfl⟩ (.cons ⟨rfl, rfl⟩ .nil)))) .nil, fun zz zz zz h => ps_v (is := [3]) h⟩⟩, .cons ⟨p4, a4⟩ .nil, Nat.lt_succ_self _⟩
theorem al_ok {it : AI} {v : Value} (h : AIn w rest it v) : AlR w rest v it.sz := by
  walk_at "e"; cases it with
  | fix b =>
    walk_at "l"; exact InsP.o3 h fun x dx o u1 u2 u3 e hx hdx hD p1 p2 p3 a1 a2 a3 => LstP.o1 p2 fun y v1 e2 hy q1 b1 => ⟨x, [.nd (.lam0 b), .nd (.call0 .loc)], [v1, u3], e, ⟨⟨_, _, _, _, _, _, [u1, v1, u3], [dx, y], al_g w.params 10 (by decide), rfl, rfl, rfl, rfl, hl_cons a1 (hl_cons b1 (hl_cons a3 hl_nil)), rfl, fun pre fd wl => .ins rfl rfl hx hdx hD rfl (.cons ⟨rfl, rfl⟩ (.cons ⟨rfl, y, rfl, e2⟩ (.cons ⟨rfl, rfl⟩ .nil))) (.lst rfl hy (.cons rfl .nil) .nil), fun zz zz zz h => ps_v (is := [1, 2]) h⟩⟩, .cons ⟨q1, b1⟩ (.cons ⟨p3, a3⟩ .nil), by show b.sz + 1 + (1 + 1 + 0) < b.sz + 4; lia⟩
  | nd n => walk_at "e"; cases n with
    | int i => walk_at "l"; exact al_const h
    | bool i => walk_at "l"; exact al_const h
    | ctl i => walk_at "l"; exact al_const h
    | loc => walk_at "l"; exact InsP.o1 h fun x dx o u1 e hx hdx hD p1 a1 => ⟨x, [], [], e, ⟨⟨_, _, _, _, _, _, [u1], [dx], al_g w.params 1 (by decide), rfl, rfl, rfl, rfl, hl_cons a1 hl_nil, rfl, fun pre fd wl => .ins rfl rfl hx hdx hD rfl (.cons ⟨rfl, rfl⟩ .nil) .nil, fun zz zz zz h => ps_v (is := []) h⟩⟩, .nil, Nat.zero_lt_one⟩
    | glob g => walk_at "l"; exact InsP.o1 h fun x dx o u1 e hx hdx hD p1 a1 => ⟨x, [], [], e, ⟨⟨_, _, _, _, _, _, [u1], [dx], al_g w.params 2 (by decide), rfl, rfl, rfl, rfl, hl_cons a1 hl_nil, rfl, fun pre fd wl => .ins rfl rfl hx hdx hD rfl (.cons ⟨rfl, rfl⟩ .nil) .nil, fun zz zz zz h => ps_v (is := []) h⟩⟩, .nil, Nat.zero_lt_one⟩
    | lam0 b => walk_at "l"; exact al_lam h
    | lam1 b => walk_at "l"; exact al_lam h
    | ite a b c => walk_at "l"; exact InsP.o3 h fun x dx o u1 u2 u3 e hx hdx hD p1 p2 p3 a1 a2 a3 => ⟨x, [.nd a, .nd b, .nd c], [u1, u2, u3], e, ⟨⟨_, _, _, _, _, _, [u1, u2, u3], [dx], al_g w.params 4 (by decide), rfl, rfl, rfl, rfl, hl_cons a1 (hl_cons a2 (hl_cons a3 hl_nil)), rfl, fun pre fd wl => .ins rfl rfl hx hdx hD rfl (.cons ⟨rfl, rfl⟩ (.cons ⟨rfl, rfl⟩ (.cons ⟨rfl, rfl⟩ .nil))) .nil, fun zz zz zz h => ps_v (is := [0, 1, 2]) h⟩⟩, .cons ⟨p1, a1⟩ (.cons ⟨p2, a2⟩ (.cons ⟨p3, a3⟩ .nil)), by show a.sz + (b.sz + (c.sz + 0)) < a.sz + b.sz + c.sz + 1; lia⟩
    | setg g a => walk_at "l"; exact InsP.o2 h fun x dx o u1 u2 e hx hdx hD p1 p2 a1 a2 => ⟨x, [.nd a], [u2], e, ⟨⟨_, _, _, _, _, _, [u1, u2], [dx], al_g w.params 5 (by decide), rfl, rfl, rfl, rfl, hl_cons a1 (hl_cons a2 hl_nil), rfl, fun pre fd wl => .ins rfl rfl hx hdx hD rfl (.cons ⟨rfl, rfl⟩ (.cons ⟨rfl, rfl⟩ .nil)) .nil, fun zz zz zz h => ps_v (is := [1]) h⟩⟩, .cons ⟨p2, a2⟩ .nil, Nat.lt_succ_self _⟩
    | call0 a => walk_at "l"; exact InsP.o2 h fun x dx o u1 u2 e hx hdx hD p1 p2 a1 a2 => LstP.o0 p2 fun y e2 hy => ⟨x, [.nd a], [u1], e, ⟨⟨_, _, _, _, _, _, [u1], [dx, y], al_g w.params 6 (by decide), rfl, rfl, rfl, rfl, hl_cons a1 hl_nil, rfl, fun pre fd wl => .ins rfl rfl hx hdx hD rfl (.cons ⟨rfl, rfl⟩ (.cons ⟨rfl, y, rfl, e2⟩ .nil)) (.lst rfl hy .nil .nil), fun zz zz zz h => ps_v (is := [0]) h⟩⟩, .cons ⟨p1, a1⟩ .nil, Nat.lt_succ_self _⟩
    | call1 a b => walk_at "l"; exact InsP.o2 h fun x dx o u1 u2 e hx hdx hD p1 p2 a1 a2 => LstP.o1 p2 fun y v1 e2 hy q1 b1 => ⟨x, [.nd a, .nd b], [u1, v1], e, ⟨⟨_, _, _, _, _, _, [u1, v1], [dx, y], al_g w.params 7 (by decide), rfl, rfl, rfl, rfl, hl_cons a1 (hl_cons b1 hl_nil), rfl, fun pre fd wl => .ins rfl rfl hx hdx hD rfl (.cons ⟨rfl, rfl⟩ (.cons ⟨rfl, y, rfl, e2⟩ .nil)) (.lst rfl hy (.cons rfl .nil) .nil), fun zz zz zz h => ps_v (is := [0, 1]) h⟩⟩, .cons ⟨p1, a1⟩ (.cons ⟨q1, b1⟩ .nil), by show a.sz + (b.sz + 0) < a.sz + b.sz + 1; lia⟩
    | call2 a b c => walk_at "l"; exact InsP.o2 h fun x dx o u1 u2 e hx hdx hD p1 p2 a1 a2 => LstP.o2 p2 fun y v1 v2 e2 hy q1 q2 b1 b2 => ⟨x, [.nd a, .nd b, .nd c], [u1, v1, v2], e, ⟨⟨_, _, _, _, _, _, [u1, v1, v2], [dx, y], al_g w.params 8 (by decide), rfl, rfl, rfl, rfl, hl_cons a1 (hl_cons b1 (hl_cons b2 hl_nil)), rfl, fun pre fd wl => .ins rfl rfl hx hdx hD rfl (.cons ⟨rfl, rfl⟩ (.cons ⟨rfl, y, rfl, e2⟩ .nil)) (.lst rfl hy (.cons rfl (.cons rfl .nil)) .nil), fun zz zz zz h => ps_v (is := [0, 1, 2]) h⟩⟩, .cons ⟨p1, a1⟩ (.cons ⟨q1, b1⟩ (.cons ⟨q2, b2⟩ .nil)), by show a.sz + (b.sz + (c.sz + 0)) < a.sz + b.sz + c.sz + 1; lia⟩
    | seq a b => walk_at "l"; exact InsP.o1 h fun x dx o u1 e hx hdx hD p1 a1 => LstP.o2 p1 fun y v1 v2 e2 hy q1 q2 b1 b2 => ⟨x, [.nd a, .nd b], [v1, v2], e, ⟨⟨_, _, _, _, _, _, [v1, v2], [dx, y], al_g w.params 9 (by decide), rfl, rfl, rfl, rfl, hl_cons b1 (hl_cons b2 hl_nil), rfl, fun pre fd wl => .ins rfl rfl hx hdx hD rfl (.cons ⟨rfl, y, rfl, e2⟩ .nil) (.lst rfl hy (.cons rfl (.cons rfl .nil)) .nil), fun zz zz zz h => ps_v (is := [0, 1]) h⟩⟩, .cons ⟨q1, b1⟩ (.cons ⟨q2, b2⟩ .nil), by show a.sz + (b.sz + 0) < a.sz + b.sz + 1; lia⟩
end
end NT
end
section
open PySem PySem.W PySem.Calls PyProof.Rows
namespace NT
theorem fi966 (P : Params) : fnInfo (K P) 966 = some I966 := by kernel_rfl
theorem b966 : I966.body = [nth I966.body 0, nth I966.body 1, .While alT alB [] (wP (nth I966.body 2)), nth I966.body 3] := by kernel_rfl
theorem Nd.sz_pos : ∀ n : Nd, 1 ≤ n.sz := fun n => by cases n <;> exact Nat.le_add_left 1 _
theorem AIs_len : ∀ l : List AI, l.length ≤ AIs l
  | [] => Nat.le_refl _
  | a :: l => by
    have h := AIs_len l
    have : 1 ≤ a.sz := by
      walk_at "e"; cases a with
      | nd n => walk_at "l"; exact n.sz_pos
      | fix b => walk_at "l"; show 1 ≤ b.sz + 4; lia
    walk_at "l"; show l.length + 1 ≤ a.sz + AIs l
    walk_at "l"; lia
theorem AIs_app (a b : List AI) : AIs (a ++ b) = AIs a + AIs b := by
  walk_at "l"; unfold AIs
  walk_at "l"; rw [List.map_append, List.sum_append]
noncomputable def alS0 (P : Params) : Option (SF × SS) := (recN ⟨K P, [], [], [], [], []⟩ 200).S I966.scope 40 (nth I966.body 0) ⟨[("node", .v 0)], [], 0⟩
noncomputable def alS1 (P : Params) : Option (SF × SS) := (recN ⟨K P, [], [], [], [], []⟩ 200).S I966.scope 40 (nth I966.body 1) ⟨[("found", .a 0), ("node", .v 0)], [(0, .idict [])], 1⟩
theorem alS_runs (P : Params) : (alS0 P, alS1 P) = (some (.next, ⟨[("found", .a 0), ("node", .v 0)], [(0, .idict [])], 1⟩), some (.next, ⟨[("waiting", .a 1), ("found", .a 0), ("node", .v 0)], [(1, .list [.v 0] 0), (0, .idict [])], 2⟩)) := by kernel_rfl
theorem alS0_run (P : Params) : (recN ⟨K P, [], [], [], [], []⟩ 200).S I966.scope 40 (nth I966.body 0) ⟨[("node", .v 0)], [], 0⟩ = some (.next, ⟨[("found", .a 0), ("node", .v 0)], [(0, .idict [])], 1⟩) := congrArg Prod.fst (alS_runs P)
theorem alS1_run (P : Params) : (recN ⟨K P, [], [], [], [], []⟩ 200).S I966.scope 40 (nth I966.body 1) ⟨[("found", .a 0), ("node", .v 0)], [(0, .idict [])], 1⟩ = some (.next, ⟨[("waiting", .a 1), ("found", .a 0), ("node", .v 0)], [(1, .list [.v 0] 0), (0, .idict [])], 2⟩) := congrArg Prod.snd (alS_runs P)
theorem al_end (P : Params) : alE P = some (.ret (.a 3), ⟨[("waiting", .a 1), ("found", .a 0)], [(3, .plist 0 []), (2, .list [] 0), (1, .plist 0 []), (0, .idict [])], 4⟩) := al_e P
inductive AlPost (rest : Ld) (u : Value) (l : Ld) : Prop
  | mk (y c) : (u = .ref y) → ((y, W.listOf [].toArray c) ∈ l) → (Sub rest l) → AlPost rest u l
inductive AlI (w : World) (rest : Ld) (wl fd : Addr) (j : Nat) (m : Str → Option Value) (nx : Ld) : Prop
  | mk (its ws c of) : (nx = (wl, W.listOf (List.toArray ws) c) :: (fd, of) :: rest) → (of.IsDictOf (intKind PW w) []) → (m "waiting" = some (.ref wl)) → (m "found" = some (.ref fd)) → (All2 LiR (its.map (AIn w rest)) ws) → (AIs its = j) → (j ≤ 1000000) → AlI w rest wl fd j m nx
theorem al_says {w : World} {rest : Ld} {b : Nd} {v : Value} (h : FixIn w rest b v) (hh : handedIn v = true) (hsz : b.sz + 4 ≤ 1000000) (low : ∀ p ∈ rest, @LT.lt Nat _ 1 p.1) (ne : rest ≠ []) :
    Says w 41 966 [v] rest (AlPost rest) := by
  walk_at "l"; refine says_enter (kd := 40) (fi966 _) (binds := [("node", .v 0)]) rfl rfl ?_
  walk_at "l"; intro f h₁ tk₁ m s O F N hm
  have m1 := hm "node" 0 v rfl rfl
  walk_at "l"; rw [b966]
  let g : Gx := ⟨w, mkP [v] [], ⟨K w.params, [], [], [], [], []⟩, rest, rest, 0, []⟩
  have G : g.Ok := gok0 (mkP_V (hl_cons hh hl_nil))
  have O' : FOk g I966.scope 40 f := O.to rfl rfl
  walk_at "l"; refine wpAny_execs_cons (seq (g := g) (s := { s with heap := h₁, toks := tk₁ }) ((recN_ok 200).S (alS0_run w.params) (g := g) rfl G O' (sr_mk0 (τ := mkP [v] []) F N (.cons m1 rfl .nil) rfl .nil low ne)) fun fl ρ₁ m₁ news₁ h₂ tk₂ le S₁ rv => ?_)
  walk_at "e"; cases rv
  walk_at "l"; refine wpAny_execs_cons (seq (g := g) (s := { s with heap := h₂, toks := tk₂ }) ((recN_ok 200).S (alS1_run w.params) (g := g) rfl G O' S₁) fun fl ρ₂ m₂ news₂ h₃ tk₃ le₂ S₂ rv => ?_)
  walk_at "e"; cases rv
  walk_at "l"; refine wpAny_execs_cons ?_
  walk_at "e"; obtain ⟨u, d1, wl, d2, rfl⟩ := S₂.loc "waiting" (.a 1) rfl
  walk_at "e"; obtain ⟨u, d3, fd, d4, rfl⟩ := S₂.loc "found" (.a 0) rfl
  walk_at "l"; refine S₂.led.oc fun p1 zz e1 q1 L => L.oc fun p2 zz e2 q2 L => L.o0 fun e3 => ?_
  walk_at "e"; subst e3 e2
  walk_at "e"; obtain ⟨x1, o1⟩ := p1
  walk_at "e"; obtain ⟨x2, o2⟩ := p2
  walk_at "e"; obtain ⟨a1, l, rfl, a3⟩ := q1
  walk_at "e"; obtain ⟨b1, kvs, b2, b3⟩ := q2
  walk_at "e"; cases b3
  dsimp only at a1 b1 d2 d4
  rw [d2] at a1; walk_at "e"; cases a1
  rw [d4] at b1; walk_at "e"; cases b1
  walk_at "l"; refine a3.oc fun u zz e4 q3 L => L.o0 fun e5 => ?_
  walk_at "e"; subst e5 e4
  have q3 : u = v := q3
  walk_at "e"; subst q3
  have S3 := S₂
  rw [e1] at S3
  have hnd := List.pairwise_cons.mp S3.nd
  have hd : @Ne Nat wl fd := fun e => hnd.1 _ (.head _) e.symm
  have hr1 : ∀ p ∈ rest, p.1 ≠ wl := S3.off _ (.head _)
  have hr2 : ∀ p ∈ rest, p.1 ≠ fd := S3.off _ (.tail _ (.head _))
  have lw : @LT.lt Nat _ 1 wl := S3.low _ (.head _)
  have lf : @LT.lt Nat _ 1 fd := S3.low _ (.tail _ (.head _))
  walk_at "l"; refine While_inv2 (s := { s with heap := h₃, toks := tk₃ }) (n₀ := b.sz + 4) (AlI w rest wl fd) S3.F S3.N ⟨[.fix b], [u], 0, o2, rfl, b2, d1, d3, .cons ⟨h, hh⟩ .nil, rfl, hsz⟩ ?_ O.pass
  walk_at "l"; rintro j m nx h tk F2 N2 ⟨its, ws, c, of, rfl, hof, hw, hf, hA, rfl, hj⟩
  walk_at "e"; rcases List.eq_nil_or_concat its with rfl | ⟨its', it, rfl⟩
  · walk_at "e"; cases hA
    have hfin := al_end w.params
    unfold alE at hfin
    walk_at "e"; obtain ⟨⟨cnd, st₁⟩, k1, k2⟩ := bs hfin
    walk_at "e"; obtain ⟨_, k3, k4⟩ := bs k2
    let g : Gx := ⟨w, mkP [] [], ⟨K w.params, [], [], [], [], []⟩, rest, (wl, W.listOf [].toArray c) :: (fd, of) :: rest, 2, [fd, wl]⟩
    have G : g.Ok := gok0 (mkP_V hl_nil)
    have S : SR g f [fd, wl] ⟨[("waiting", .a 1), ("found", .a 0)], [(1, .plist 0 []), (0, .idict [])], 2⟩ m [(wl, W.listOf [].toArray c), (fd, of)] h := by
      walk_at "l"; refine sr_mk (τ := mkP [] []) (ρ := [fd, wl]) (st := ⟨[("waiting", .a 1), ("found", .a 0)], [(1, .plist 0 []), (0, .idict [])], 2⟩) F2 N2 (LocR.cons hw ⟨wl, rfl, rfl⟩ (LocR.cons hf ⟨fd, rfl, rfl⟩ LocR.nil)) (.cons ⟨rfl, [], c, rfl, .nil, Nat.zero_le _⟩ (.cons ⟨rfl, [], hof, .nil⟩ .nil)) rfl ?_ ?_ .nil ?_ ne
      · walk_at "l"; exact List.forall_mem_cons.mpr ⟨fun q hq => hr1 q hq, List.forall_mem_cons.mpr ⟨fun q hq => hr2 q hq, fun zz h => (nomatch h)⟩⟩
      · walk_at "l"; exact pair_two hd.symm
      · walk_at "l"; exact List.forall_mem_cons.mpr ⟨lw, List.forall_mem_cons.mpr ⟨lf, low⟩⟩
    walk_at "l"; refine seq (g := g) (s := { s with heap := h, toks := tk }) ((recN_ok 200).T k1 (g := g) rfl G (O.to rfl rfl) S rfl) fun v ρ₁ m₁ news₁ h₁ tk₁ le S₁ rv => ?_
    have hc : cnd = false := by have := ck_t k3; simpa using this
    walk_at "l"; rw [rv, hc]
    walk_at "l"; refine ite_neg (by decide) ?_
    walk_at "l"; refine seq (g := g) (s := { s with heap := h₁, toks := tk₁ }) ((recN_ok 200).B k4 (g := g) rfl G (O.to rfl rfl) S₁) fun v ρ₂ m₂ news₂ h₂ tk₂ le₂ S₂ rv => ?_
    walk_at "e"; obtain ⟨u, rfl, y, hy, rfl⟩ := rv
    walk_at "e"; obtain ⟨x, o, a1, a2, l, c', rfl, a3, _⟩ := S₂.led.look (i := 3) (o := .plist 0 []) rfl
    rw [hy] at a1; walk_at "e"; cases a1
    walk_at "e"; cases a3
    walk_at "l"; exact ⟨m₂, _, h₂, tk₂, rfl, S₂.F, S₂.N, y, c', rfl, List.mem_append_left _ a2, fun p hp => List.mem_append_right _ hp⟩
  · rw [List.concat_eq_append, List.map_append] at hA
    walk_at "e"; obtain ⟨pre, w2, rfl, hA1, hA2⟩ := All2.split hA
    walk_at "e"; cases hA2 with
    | cons x1 x2 =>
      walk_at "e"; cases x2
      rename_i vx
      walk_at "e"; obtain ⟨x, new, parts, rfl, A, hp, hlt⟩ := al_ok x1.1
      walk_at "l"; rw [List.concat_eq_append, AIs_app] at hj ⊢
      have hlen : pre.length ≤ 1000000 := by
        have a := hA1.length
        have b := AIs_len its'
        rw [List.length_map] at a
        walk_at "l"; lia
      walk_at "l"; refine al_turn (s := { s with heap := h, toks := tk }) A hlen low ne lw lf hd hr1 hr2 hof (O.to rfl rfl) F2 N2 hw hf ?_
      walk_at "l"; intro m' h' tk' c' of' F' N' hof' hw' hf'
      walk_at "l"; exact ⟨h', tk', m', _, AIs (its' ++ new), rfl, F', N', by rw [AIs_app]; show AIs its' + AIs new < AIs its' + (it.sz + 0); lia, its' ++ new, _, c', of', rfl, hof', hw', hf', by rw [List.map_append]; exact hA1.append hp, rfl, by
        have : AIs its' + (it.sz + 0) ≤ 1000000 := hj
        walk_at "l"; rw [AIs_app]; lia⟩
end NT
end
section
open PySem PySem.W PySem.Calls PyProof.Rows
namespace NT
noncomputable section
noncomputable def fxM : MS := ⟨.v 0, .int 0 6000, .a 3, .v 1, .int 0 0, .int 0 0, .int 0 0, .int 0 0, .a 5, .none, .v 2, .v 3, .none⟩
noncomputable def fxRo : List (Nat × SO) := [(0, .inst 1165 1), (3, .inst 997 4), (4, .dict [("store", .v 4)] 1), (5, .inst 807 6), (6, .dict [("numbers", .a 7), ("lambdas", .a 8), ("body", .v 5)] 3), (7, .list [.int 0 1] 0), (8, .list [.a 9] 0), (9, .inst 708 10), (10, .dict [("label", .v 6), ("params", .v 7), ("rest", .v 8), ("body", .v 9)] 4)]
noncomputable def fxS : SS := ⟨[("self", .a 0)], [(1, .dict (mS fxM) 13), (2, .xdict 0)], 11⟩
noncomputable def fxGo (P : Params) : Option (SF × SS) := turnG ⟨K P, [], fxRo, [], [], []⟩ 200 60 I1057.scope (wT (nth I1057.body 0)) (wB (nth I1057.body 0)) fxS
noncomputable def I1050 : FnI := fnI e_1050
noncomputable def rnM0 : MS := ⟨.v 0, .int 0 6000, .v 1, .v 2, .int 0 0, .int 0 0, .int 0 0, .int 0 0, .none, .none, .none, .v 4, .none⟩
noncomputable def rnM1 : MS := ⟨.v 0, .int 0 6000, .v 1, .v 2, .int 0 0, .int 0 0, .int 0 0, .int 0 0, .v 3, .none, .none, .none, .none⟩
noncomputable def rnRo : List (Nat × SO) := [(0, .inst 1165 1)]
noncomputable def rn1 (P : Params) : Option (SF × SS) := (recN ⟨K P, [], rnRo, [], [], []⟩ 200).S I1050.scope 70 (nth I1050.body 1) ⟨[("self", .a 0), ("node", .v 3)], [(1, .dict (mS rnM0) 13)], 2⟩
noncomputable def rn2 (P : Params) : Option (SF × SS) := (recN ⟨K P, [], rnRo, [], [], []⟩ 200).S I1050.scope 70 (nth I1050.body 2) ⟨[("self", .a 0), ("node", .v 3)], [(1, .dict (mS rnM0) 13)], 2⟩
end
end NT
end
section
open PySem PySem.W PySem.Calls PyProof.Rows
namespace NT
noncomputable def fxN : MS := ⟨.v 0, .int 0 6000, .a 3, .v 1, .int 0 1, .int 0 0, .int 0 0, .int 0 0, .v 5, .a 11, .none, .a 16, .none⟩
noncomputable def fxL : List (Nat × SO) := [(16, .list [] 0), (14, .inst 938 15), (15, .dict [("title", .str ""), ("node", .a 9), ("scope", .a 11)] 3), (13, .idict [((0, 1), .a 14)]), (11, .inst 882 12), (12, .dict [("outer", .none), ("values", .a 13)] 2)]
theorem fx_run (P : Params) : fxGo P = some (.next, ⟨[("self", .a 0)], fxL ++ [(1, .dict (mS fxN) 13), (2, .xdict 0)], 17⟩) := by kernel_rfl
structure Ready (w : World) (am dm dv tp ab : Addr) (B0 : Nd) (n : Int) (r : Ld) (om ofl : Obj) (fl : Int → Bool) : Prop where
  hI : (am, instObj 1165 dm) ∈ r
  hT : InsP w r 854 [("table", Tr), ("values", fun v => v = .ref dv)] (.ref tp)
  hB : InsP w r 997 [("store", Tr)] (.ref ab)
  hd : @Ne Nat dm dv
  hdm : ∀ p ∈ r, p.1 ≠ dm
  hdv : ∀ p ∈ r, p.1 ≠ dv
  low : ∀ p ∈ r, @LT.lt Nat _ 1 p.1
  lowm : @LT.lt Nat _ 1 dm
  lowv : @LT.lt Nat _ 1 dv
  mach : ∃ d : MV, DV w d.es om ∧ d.tops = .ref tp ∧ IsI 6000 d.lim ∧ d.lib = .ref ab ∧ IsI 0 d.steps ∧ IsI 0 d.calls ∧ IsI 0 d.deep ∧ IsI 0 d.mode ∧ FixIn w r B0 d.node ∧ d.scope = .none ∧ d.frame = .none ∧ ∀ v ∈ d.vs, handedIn v = true
  fl : FlIn w n ofl fl
theorem up_all {g : Gx} {f : Fx} {ρ : List Addr} {st : SS} {m : Str → Option Value} {news : Ld} {h : Heap} (S : SR g f ρ st m news h) {w : World} {τ : Vt} {nl : List (Nat × SO)} {nw : Ld} (hn : nl.all (fun p => Nat.ble g.n0 p.1) = true) (L : LR w τ ρ nl nw) : ∀ p ∈ nw, ∀ q ∈ g.N0, @LT.lt Nat _ q.1 p.1 := by
  walk_at "l"; intro p hp
  walk_at "l"; induction L with
  | nil => walk_at "l"; nomatch hp
  | @cons a b _ _ x _ ih =>
    rw [List.all_cons, Bool.and_eq_true] at hn
    walk_at "e"; rcases List.mem_cons.mp hp with rfl | hp
    · walk_at "l"; exact fun q hq => S.up a.1 (Nat.le_of_ble_eq_true hn.1) _ x.1 q hq
    · walk_at "l"; exact ih hn.2 hp
theorem fix_turn {w : World} {am dm dv tp ab : Addr} {B0 : Nd} {n : Int} {r : Ld} {om ofl : Obj} {fl : Int → Bool} (H : Ready w am dm dv tp ab B0 n r om ofl fl) :
    Turn w I1057.scope (wT (nth I1057.body 0)) (wB (nth I1057.body 0)) am ((dm, om) :: (dv, ofl) :: r) (fun l => ∃ sz cz dcz, Nxt w ⟨am, dm, dv, tp, ab, sz, cz, dcz, r⟩ B0 n ⟨.look (.call0 .loc), [], fl, 1, 0⟩ l) := by
  walk_at "l"; intro f m s O F N hself
  walk_at "e"; obtain ⟨d, hD, m1, m2, m3, m5, m6, m7, m8, m9, m10, m13, mh⟩ := H.mach
  walk_at "e"; obtain ⟨kvs, hk, hv, hlen⟩ := H.fl
  walk_at "l"; refine H.hB.o1 fun zz dab oab st0 eb hb1 hb2 hbD zz ha1 => ?_
  walk_at "e"; cases eb
  walk_at "l"; refine InsP.o3 m9 fun x5 d6 o6 u1 u2 u3 e5 hx5 hd6 hD6 p1 p2 p3 a1 a2 a3 => LstP.o1 p1 fun y7 i1 e7 hy7 q1 b1 => LstP.o1 p2 fun y8 v9 e8 hy8 q9 b9 => ?_
  walk_at "l"; refine InsP.o4 q9 fun x9 d10 o10 l1 l2 l3 l4 e9 hx9 hd10 hD10 r1 r2 r3 r4 c1 c2 c3 c4 => ?_
  let τ : Vt := mkT [] [.ref tp, d.asg, d.proc, d.vals, st0, u3, l1, l2, l3, l4] kvs
  let ρ : List Addr := [am, dm, dv, ab, dab, x5, d6, y7, y8, x9, d10]
  have hV : ∀ i, handedIn (τ.V i) = true := mkT_V (Is := []) (D := kvs) (hl_cons (by rw [← m1]; exact mh _ (.head _)) (hl_cons (mh _ (.tail _ (.tail _ (.head _)))) (hl_cons (mh _ (.tail _ (.tail _ (.tail _ (.tail _ (.tail _ (.head _))))))) (hl_cons (mh _ (.tail _ (.tail _ (.tail _ (.tail _ (.tail _ (.tail _ (.head _)))))))) (hl_cons ha1 (hl_cons a3 (hl_cons c1 (hl_cons c2 (hl_cons c3 (hl_cons c4 hl_nil))))))))))
  have hro : RoI w τ ρ r fxRo := .cons rfl H.hI ⟨dm, rfl, rfl⟩ (.ins rfl rfl hb1 hb2 hbD rfl (.cons ⟨rfl, rfl⟩ .nil) (.ins rfl rfl hx5 hd6 hD6 rfl (.cons ⟨rfl, y7, rfl, e7⟩ (.cons ⟨rfl, y8, rfl, e8⟩ (.cons ⟨rfl, rfl⟩ .nil))) (.lst rfl hy7 (.cons q1 .nil) (.lst rfl hy8 (.cons ⟨x9, rfl, e9⟩ .nil)
    (.ins rfl rfl hx9 hd10 hD10 rfl (.cons ⟨rfl, rfl⟩ (.cons ⟨rfl, rfl⟩ (.cons ⟨rfl, rfl⟩ (.cons ⟨rfl, rfl⟩ .nil)))) .nil)))))
  let g : Gx := ⟨w, τ, ⟨K w.params, [], fxRo, [], [], []⟩, r, (dm, om) :: (dv, ofl) :: r, 11, ρ⟩
  have hm : All2 (SvE τ ρ) (mS fxM) d.es := .cons ⟨rfl, m1⟩ (.cons ⟨rfl, m2⟩ (.cons ⟨rfl, ab, rfl, m3⟩ (.cons ⟨rfl, rfl⟩ (.cons ⟨rfl, m5⟩ (.cons ⟨rfl, m6⟩ (.cons ⟨rfl, m7⟩ (.cons ⟨rfl, m8⟩ (.cons ⟨rfl, x5, rfl, e5⟩ (.cons ⟨rfl, m10⟩ (.cons ⟨rfl, rfl⟩ (.cons ⟨rfl, rfl⟩ (.cons ⟨rfl, m13⟩ .nil))))))))))))
  have S : SR g f ρ fxS m [(dm, om), (dv, ofl)] s.heap := by
    walk_at "l"; refine sr_mk (τ := τ) (ρ := ρ) (st := fxS) F N (LocR.cons hself ⟨am, rfl, rfl⟩ LocR.nil) (.cons ⟨rfl, hD.or hm⟩ (.cons ⟨rfl, hk, len7 hlen⟩ .nil)) rfl ?_ ?_ hro ?_ (List.ne_nil_of_mem H.hI)
    · walk_at "l"; exact List.forall_mem_cons.mpr ⟨fun q hq => H.hdm q hq, List.forall_mem_cons.mpr ⟨fun q hq => H.hdv q hq, fun zz h => (nomatch h)⟩⟩
    · walk_at "l"; exact pair_two H.hd.symm
    · walk_at "l"; exact List.forall_mem_cons.mpr ⟨H.lowm, List.forall_mem_cons.mpr ⟨H.lowv, H.low⟩⟩
  have hgo := fx_run w.params
  unfold fxGo at hgo
  have G : g.Ok := gok0 hV
  walk_at "l"; refine wpAny_mono (turnG_ok (Z := fun zz => False) hgo (g := g) rfl G (O.to rfl rfl) S ?_) (fun c s₂ q => q) fun zz zz q => q
  walk_at "l"; intro v ρ₁ m₁ news₁ h₁ tk₁ le S₁ rv
  walk_at "e"; obtain ⟨nw, m2', e, L, L2⟩ := All2.split (a := fxL) S₁.led
  walk_at "l"; refine L2.oc fun q1 zz e1 f1 L2 => L2.oc fun q2 zz e2 f2 L2 => L2.o0 fun e3 => ?_
  walk_at "e"; subst e3 e2 e1
  have d1 : q1.1 = dm := by have := f1.1; rw [le 1 dm rfl] at this; exact (Option.some.inj this).symm
  have d2 : q2.1 = dv := by have := f2.1; rw [le 2 dv rfl] at this; exact (Option.some.inj this).symm
  have up := up_all S₁ (nl := fxL) rfl L
  walk_at "e"; obtain ⟨sz, oz, z1, z2, dz, z3, rfl⟩ := LR.look L (i := 11) rfl
  walk_at "e"; obtain ⟨cz, oc, k1, k2, dcz, k3, rfl⟩ := LR.look L (i := 14) rfl
  walk_at "e"; obtain ⟨e0, oe, j1, j2, rk, j3, j4⟩ := LR.look L (i := 13) rfl
  walk_at "e"; obtain ⟨es, hD', hE⟩ := DV.of f1.2 rfl
  have hsc : ∀ u, VR τ ρ₁ (.a 11) u → Sc w sz (nw ++ r) u := fun u h => ⟨0, by obtain ⟨y, y1, rfl⟩ := h; rw [z1] at y1; cases y1; rfl⟩
  have hcz : InsP w (nw ++ r) 938 [("title", Tr), ("node", NdIn w (nw ++ r) (.lam0 B0)), ("scope", Sc w sz (nw ++ r))] (.ref cz) :=
    ins_mk hV L (i := 14) (d := 15) rfl rfl rfl (.cons ⟨rfl, fun zz zz => trivial, rfl⟩ (.cons ⟨rfl, VR.keep (sv := .a 9) ⟨x9, rfl, e9⟩ e9 le (q9.mono sub_app), rfl⟩ (.cons ⟨rfl, hsc, rfl⟩ .nil))) ⟨cz, k1, rfl⟩
  have hsz : InsP w (nw ++ r) 882 [("outer", fun v => v = .none), ("values", fun v => ∃ e oe, v = .ref e ∧ (e, oe) ∈ nw ++ r ∧ oe.IsDictOf (intKind PW w) [(1, .ref cz)])] (.ref sz) :=
    ins_mk hV L (i := 11) (d := 12) rfl rfl rfl (.cons ⟨rfl, fun zz h => h, rfl⟩ (.cons ⟨rfl, fun u h => by
      walk_at "e"; obtain ⟨y, y1, rfl⟩ := h
      rw [j1] at y1; walk_at "e"; cases y1
      walk_at "l"; refine ⟨e0, oe, rfl, List.mem_append_left _ j2, ?_⟩
      walk_at "l"; refine j4.oc fun p zz g1 g2 L => L.o0 fun g3 => ?_
      walk_at "e"; subst g3 g1
      walk_at "e"; obtain ⟨p1, p2⟩ := p
      walk_at "e"; obtain ⟨g4, y, g5, g6⟩ := g2
      rw [k1] at g5; walk_at "e"; cases g5
      dsimp only at g4 g6
      rw [g4, g6] at j3
      walk_at "l"; exact j3, rfl⟩ .nil)) ⟨sz, z1, rfl⟩
  walk_at "l"; refine ⟨rv, m₁, h₁, tk₁, _, rfl, S₁.F, S₁.N, ?_, sz, cz, dcz, q1.2, q2.2, nw ++ r, ?_, ⟨⟨List.mem_append_right _ H.hI, H.hT.imp sub_app (.cons .rfl (.cons .rfl .nil)), H.hB.imp sub_app (.cons .rfl .nil), hsz, hcz, List.mem_append_left _ k2, H.hd, ?_, ?_, ?_, H.lowm, H.lowv, sub_app⟩, ⟨es, hD', FdS.all hV ?_ hE⟩, fl_keep rfl hv hlen _ f2.2⟩⟩
  · walk_at "e"; obtain ⟨v, a, x, c, d⟩ := S₁.loc "self" (.a 0) rfl
    rw [le 0 am rfl] at c
    walk_at "e"; cases c
    walk_at "l"; rw [a, d]
  · walk_at "e"; subst e
    walk_at "l"; rw [show ((dm, q1.2) : Addr × Obj) = q1 from by rw [← d1], show ((dv, q2.2) : Addr × Obj) = q2 from by rw [← d2]]
    walk_at "l"; exact sub3
  · walk_at "l"; exact fun p hp => (List.mem_append.mp hp).elim (fun hp => Nat.ne_of_gt (up p hp (dm, om) (.head _))) (H.hdm p)
  · walk_at "l"; exact fun p hp => (List.mem_append.mp hp).elim (fun hp => Nat.ne_of_gt (up p hp (dv, ofl) (.tail _ (.head _)))) (H.hdv p)
  · walk_at "l"; exact fun p hp => (List.mem_append.mp hp).elim (fun hp => Nat.lt_trans H.lowm (up p hp (dm, om) (.head _))) (H.low p)
  · walk_at "l"; exact .cons ⟨rfl, fun zz h => h, rfl⟩ (.cons ⟨rfl, fun zz h => h, rfl⟩ (.cons ⟨rfl, fun zz h => (show VR τ ρ (.a 3) (.ref ab) from ⟨ab, rfl, rfl⟩).ref_eq le h, rfl⟩ (.cons ⟨rfl, fun zz zz => trivial, rfl⟩ (.cons ⟨rfl, fun zz h => h, rfl⟩ (.cons ⟨rfl, fun zz h => ⟨0, (show (0 : Int) ≤ 0 by decide), (show (0 : Int) ≤ 1 by decide), h⟩, rfl⟩ (.cons ⟨rfl, fun zz h => h, rfl⟩ (.cons ⟨rfl, fun zz h => h, rfl⟩
      (.cons ⟨rfl, fun u h => h ▸ p3.mono sub_app, rfl⟩ (.cons ⟨rfl, hsc, rfl⟩ (.cons ⟨rfl, fun zz zz => trivial, rfl⟩ (.cons ⟨rfl, fun zz zz => trivial, rfl⟩ (.cons ⟨rfl, fun zz h => h, rfl⟩ .nil))))))))))))
end NT
end
section
open PySem PySem.W PySem.Calls PyProof.Rows
namespace NT
noncomputable section
noncomputable def callHd (X : Sx) (r : Rec) (cs : Scope) (kd : Nat) (e : PySem.Expr) (st : SS) : Option (SV × List SV × SS) := match e with
  | .Call func args [] pos => do
    let (c, fst, st) ← eHead X r cs kd args.length pos func st
    ck (args.all plainEl)
    ck (okHead X c args func)
    let (vs, st) ← evArgs r cs kd args st
    some (c, fst ++ vs, st)
  | _ => none
section
variable {g : Gx} {f : Fx} {ρ : List Addr} {st st' : SS} {m : Str → Option Value} {news : Ld} {s : Shared} {r : Rec} {cs : Scope} {kd : Nat}
theorem callHd_ok (H : Snd g.X r) {e : PySem.Expr} {c : SV} {us : List SV} (h : callHd g.X r cs kd e st = some (c, us, st')) (G : g.Ok) (O : FOk g cs kd f) (S : SR g f ρ st m news s.heap) {Q : Value → Shared → Prop}
    (k : ∀ fv ρ₁ m₁ news₁ h₁ tk₁ vs, Le ρ ρ₁ → SR g f ρ₁ st' m₁ news₁ h₁ → All2 (VR g.τ ρ₁) us vs → VR g.τ ρ₁ c fv → WP g f (call fv vs) Q { s with heap := h₁, toks := tk₁ }) : WP g f (eval e f.env) Q s := by
  walk_at "e"; cases e with
  | Call func args kw pos => walk_at "e"; cases kw with
    | nil =>
      walk_at "e"; obtain ⟨⟨c', fst, st₁⟩, h1, k1⟩ := bs h
      walk_at "e"; obtain ⟨_, h2, k2⟩ := bs k1
      walk_at "e"; obtain ⟨_, h3, k3⟩ := bs k2
      walk_at "e"; obtain ⟨⟨vs, st₂⟩, h4, k4⟩ := bs k3
      walk_at "e"; cases k4
      walk_at "l"; exact eCallK H h1 (ck_t h2) (ck_t h3) h4 G O S k
    | cons => walk_at "e"; cases h
  | _ => walk_at "e"; cases h
theorem says_run {k : Nat} {fa : Addr} {vs : List Value} {led : Ld} {Ret : Value → Ld → Prop} (C : Says g.w k fa vs led Ret) (O : COk g kd f) (hK : g.X.K = K g.w.params) (hk : k ≤ kd) (F : Fr f.h₀ f.L s.heap m) (N : News f.h₀ f.L s.heap led) {Q : Value → Shared → Prop}
    (ret : ∀ v led' h tk, Fr f.h₀ f.L h m → News f.h₀ f.L h led' → Ret v led' → Q v { s with heap := h, toks := tk }) : WP g f (call (.ref fa) vs) Q s := by
  walk_at "e"; obtain ⟨cn, cs, a, ccd, cl, hf⟩ := O.env
  have hd := O.hd
  have hu := O.hu
  have hA : f.A = ktrTop f.A.depth f.A.units f.A.guards cn cs f.L a ccd cl f.outer := by
    have h2 := O.hA
    have h3 := O.hh
    rw [hf] at h2
    revert h2 h3
    walk_at "l"; cases f.A
    walk_at "l"; rintro h2 h3
    walk_at "l"; dsimp only at h2 h3 ⊢
    walk_at "l"; rw [h2, h3]
  have hke := O.hke
  walk_at "l"; unfold WP
  rw [hf] at hke
  walk_at "l"; rw [hA]
  have X := O.X
  rw [hK] at X
  walk_at "l"; exact says_use C O.B F X N O.T O.one hke (by lia) (by lia) ret
noncomputable def plainFor : PySem.Expr → Bool := plainIt
theorem for_list {x : Str} {xp pos : Pos} {it : PySem.Expr} {body : List Stmt} (O : FOk g cs kd f) (F : Fr f.h₀ f.L s.heap m) (hx : isLocal cs x = true) (hit : plainIt it = true) {Q : Flow → Shared → Prop}
    (h : WP g f (eval it f.env) (fun v s' => ∃ y lo vs n h tk m' nx, s' = { s with heap := h, toks := tk } ∧ v = .ref y ∧ Fr f.h₀ f.L h m' ∧ News f.h₀ f.L h nx ∧ (y, lo) ∈ nx ∧ lo.cls = .type "list" ∧ lo.data = .seq (List.toArray vs) n ∧
      ∀ I : Addr, (∀ p ∈ nx, @LT.lt Nat _ p.1 I) → ListRest PW g.w f.A f.E f.h₀ f.env x body Q s' I (y, lo) vs m' nx) s) : WP g f (exec (.For (.Name x xp) it body [] pos) f.env) Q s := by
  have hL := locals_L O
  rw [← hL] at F
  have hke := O.hke
  walk_at "l"; refine For_invVF F ?_ (by rw [hke]; rfl) ?_ ?_ O.pass
  · walk_at "e"; obtain ⟨cn, ad, ccd, cl, he, _⟩ := O.envo
    walk_at "l"; rw [he]; exact isLocal_ok hx
  · walk_at "l"; refine wpAny_mono h (fun v s' q => ?_) fun zz zz q => q
    walk_at "e"; obtain ⟨y, lo, vs, n, h', tk, m', nx, rfl, rfl, F', N', hm, hc, hd, hr⟩ := q
    rw [← hL] at F' N'
    walk_at "l"; exact iter_listUnr O.hh F' N' hm hc hd hr
  · walk_at "l"; intro y
    walk_at "l"; cases it <;> first | rfl | cases hit
end
noncomputable def forX (s : Stmt) : Str := (nameE (sKid s 0)).getD ""
noncomputable def forXp (s : Stmt) : Pos := (sKid s 0).pos
noncomputable def forI (s : Stmt) : PySem.Expr := sKid s 1
theorem fi1050 (P : Params) : fnInfo (K P) 1050 = some I1050 := by kernel_rfl
theorem b1050 : I1050.body = [.For (.Name (forX (nth I1050.body 0)) (forXp (nth I1050.body 0))) (forI (nth I1050.body 0)) (wB (nth I1050.body 0)) [] (wP (nth I1050.body 0)), nth I1050.body 1, nth I1050.body 2, .Return (some (rE (nth I1050.body 3))) (rP (nth I1050.body 3))] := by kernel_rfl
noncomputable def rnH0 (P : Params) : Option (SV × List SV × SS) := callHd ⟨K P, [], rnRo, [], [], []⟩ (recN ⟨K P, [], rnRo, [], [], []⟩ 200) I1050.scope 70 (forI (nth I1050.body 0)) ⟨[("self", .a 0), ("node", .v 3)], [(1, .dict (mS rnM0) 13)], 2⟩
noncomputable def rnM2 : MS := ⟨.v 0, .int 0 6000, .v 1, .v 2, .int 0 0, .int 0 0, .int 0 0, .int 0 0, .v 3, .none, .none, .a 2, .none⟩
noncomputable def rnH3 (P : Params) : Option (SV × List SV × SS) := callHd ⟨K P, [], rnRo, [], [], []⟩ (recN ⟨K P, [], rnRo, [], [], []⟩ 200) I1050.scope 70 (rE (nth I1050.body 3)) ⟨[("self", .a 0), ("node", .v 3)], [(2, .list [] 0), (1, .dict (mS rnM2) 13)], 3⟩
theorem rn_runs (P : Params) : (rnH0 P, rn1 P, rn2 P, rnH3 P) = (some (.k 966, [.v 3], ⟨[("self", .a 0), ("node", .v 3)], [(1, .dict (mS rnM0) 13)], 2⟩), some (.next, ⟨[("self", .a 0), ("node", .v 3)], [(1, .dict (mS rnM0) 13)], 2⟩), some (.next, ⟨[("self", .a 0), ("node", .v 3)], [(2, .list [] 0), (1, .dict (mS rnM2) 13)], 3⟩), some (.k 1057, [.a 0], ⟨[("self", .a 0), ("node", .v 3)], [(2, .list [] 0), (1, .dict (mS rnM2) 13)], 3⟩)) := by kernel_rfl
end
theorem SvE.o {τ : Vt} {ρ : List Addr} {n : Str} {sv : SV} {e : Str × Value} {P : Prop} (h : SvE τ ρ (n, sv) e) (k : ∀ u, e = (n, u) → VR τ ρ sv u → P) : P := by
  walk_at "e"; obtain ⟨e1, e2⟩ := e
  walk_at "e"; obtain ⟨a, b⟩ := h
  dsimp only at a b
  walk_at "e"; subst a
  walk_at "l"; exact k _ rfl b
theorem mv_of {τ : Vt} {ρ : List Addr} {M : MS} {es : List (Str × Value)} (h : All2 (SvE τ ρ) (mS M) es) {P : Prop} (k : ∀ d : MV, es = d.es → VR τ ρ M.tops d.tops → VR τ ρ M.lim d.lim → VR τ ρ M.lib d.lib → VR τ ρ M.asg d.asg → VR τ ρ M.steps d.steps → VR τ ρ M.calls d.calls → VR τ ρ M.deep d.deep → VR τ ρ M.mode d.mode → VR τ ρ M.node d.node → VR τ ρ M.scope d.scope → VR τ ρ M.proc d.proc → VR τ ρ M.vals d.vals → VR τ ρ M.frame d.frame → P) : P := by
  walk_at "l"; refine h.oc fun zz zz e1 f1 h => h.oc fun zz zz e2 f2 h => h.oc fun zz zz e3 f3 h => h.oc fun zz zz e4 f4 h => h.oc fun zz zz e5 f5 h => h.oc fun zz zz e6 f6 h => h.oc fun zz zz e7 f7 h => h.oc fun zz zz e8 f8 h => h.oc fun zz zz e9 f9 h => h.oc fun zz zz e10 f10 h => h.oc fun zz zz e11 f11 h => h.oc fun zz zz e12 f12 h => h.oc fun zz zz e13 f13 h => h.o0 fun e14 => ?_
  walk_at "l"; refine f1.o fun u1 q1 g1 => f2.o fun u2 q2 g2 => f3.o fun u3 q3 g3 => f4.o fun u4 q4 g4 => f5.o fun u5 q5 g5 => f6.o fun u6 q6 g6 => f7.o fun u7 q7 g7 => f8.o fun u8 q8 g8 => f9.o fun u9 q9 g9 => f10.o fun u10 q10 g10 => f11.o fun u11 q11 g11 => f12.o fun u12 q12 g12 => f13.o fun u13 q13 g13 => ?_
  walk_at "e"; subst e14 q13 q12 q11 q10 q9 q8 q7 q6 q5 q4 q3 q2 q1 e13 e12 e11 e10 e9 e8 e7 e6 e5 e4 e3 e2 e1
  walk_at "l"; exact k ⟨u1, u2, u3, u4, u5, u6, u7, u8, u9, u10, u11, u12, u13⟩ rfl g1 g2 g3 g4 g5 g6 g7 g8 g9 g10 g11 g12 g13
structure Fresh (w : World) (am dm dv tp ab : Addr) (n : Int) (r : Ld) (om ofl : Obj) (fl : Int → Bool) : Prop where
  hI : (am, instObj 1165 dm) ∈ r
  hT : InsP w r 854 [("table", Tr), ("values", fun v => v = .ref dv)] (.ref tp)
  hB : InsP w r 997 [("store", Tr)] (.ref ab)
  hd : @Ne Nat dm dv
  hdm : ∀ p ∈ r, p.1 ≠ dm
  hdv : ∀ p ∈ r, p.1 ≠ dv
  low : ∀ p ∈ r, @LT.lt Nat _ 1 p.1
  lowm : @LT.lt Nat _ 1 dm
  lowv : @LT.lt Nat _ 1 dv
  mach : ∃ d : MV, DV w d.es om ∧ d.tops = .ref tp ∧ IsI 6000 d.lim ∧ d.lib = .ref ab ∧ handedIn d.asg = true ∧ IsI 0 d.steps ∧ IsI 0 d.calls ∧ IsI 0 d.deep ∧ IsI 0 d.mode ∧ d.node = .none ∧ d.scope = .none ∧ d.proc = .none ∧ handedIn d.vals = true ∧ d.frame = .none ∧ handedIn d.tops = true ∧ handedIn d.lib = true
  fl : FlIn w n ofl fl
theorem FixIn.mono {w : World} {r r' : Ld} {b : Nd} {v : Value} (s : Sub r r') (h : FixIn w r b v) : FixIn w r' b v := InsP.imp h s (.cons ⟨rfl, fun zz h => h.imp s (.cons (fun zz h => h) .nil)⟩ (.cons ⟨rfl, fun zz h => h.imp s (.cons (fun zz h => NdIn.mono s h) .nil)⟩ (.cons ⟨rfl, fun zz h => NdIn.mono s h⟩ .nil)))
theorem run_says {w : World} {am dm dv tp ab : Addr} {B0 : Nd} {n : Int} {r : Ld} {om ofl : Obj} {fl : Int → Bool} {v : Value} {σ' : St} {k : Nat} {us : List Vl} (H : Fresh w am dm dv tp ab n r om ofl fl) (hv : FixIn w r B0 v) (hh : handedIn v = true) (hsz : B0.sz + 4 ≤ 1000000)
    (R : Runs B0 n k ⟨.look (.call0 .loc), [], fl, 1, 0⟩ σ') (hm : σ'.md = .give us) (hf : σ'.fs = []) (hst : σ'.st ≤ 6000) :
    Says w 71 1050 [.ref am, v] ((dm, om) :: (dv, ofl) :: r) (FinR w am dm dv tp ab B0 n r σ' us) := by
  walk_at "l"; refine says_enter (kd := 70) (fi1050 _) (binds := [("self", .v 0), ("node", .v 1)]) rfl rfl ?_
  walk_at "l"; intro f h₁ tk₁ m s O F N hmm
  have m1 := hmm "self" 0 _ rfl rfl
  have m2 := hmm "node" 1 _ rfl rfl
  walk_at "e"; obtain ⟨d, hD, t1, t2, t3, t4, t5, t6, t7, t8, t9, t10, t11, t12, t13, t14, t15⟩ := H.mach
  walk_at "l"; rw [b1050]
  have hr := rn_runs w.params
  have r0 : rnH0 w.params = _ := congrArg Prod.fst hr
  have r1 : rn1 w.params = _ := congrArg (fun x => x.2.1) hr
  have r2 : rn2 w.params = _ := congrArg (fun x => x.2.2.1) hr
  have r3 : rnH3 w.params = _ := congrArg (fun x => x.2.2.2) hr
  dsimp only at r0 r1 r2 r3
  let τ : Vt := mkT [] [.ref tp, .ref ab, d.asg, v, d.vals] []
  have hV : ∀ i, handedIn (τ.V i) = true := mkT_V (Is := []) (D := []) (hl_cons (by rw [← t1]; exact t14) (hl_cons (by rw [← t3]; exact t15) (hl_cons t4 (hl_cons hh (hl_cons t12 hl_nil)))))
  let R0 : Ld := (dv, ofl) :: r
  let g : Gx := ⟨w, τ, ⟨K w.params, [], rnRo, [], [], []⟩, R0, (dm, om) :: R0, 2, [am, dm]⟩
  have G : g.Ok := gok0 hV
  have O' : FOk g I1050.scope 70 f := O.to rfl rfl
  have hlow : ∀ p ∈ (dm, om) :: R0, @LT.lt Nat _ 1 p.1 := List.forall_mem_cons.mpr ⟨H.lowm, List.forall_mem_cons.mpr ⟨H.lowv, H.low⟩⟩
  have hmv : All2 (SvE τ [am, dm]) (mS rnM0) d.es := .cons ⟨rfl, t1⟩ (.cons ⟨rfl, t2⟩ (.cons ⟨rfl, t3⟩ (.cons ⟨rfl, rfl⟩ (.cons ⟨rfl, t5⟩ (.cons ⟨rfl, t6⟩ (.cons ⟨rfl, t7⟩ (.cons ⟨rfl, t8⟩ (.cons ⟨rfl, t9⟩ (.cons ⟨rfl, t10⟩ (.cons ⟨rfl, t11⟩ (.cons ⟨rfl, rfl⟩ (.cons ⟨rfl, t13⟩ .nil))))))))))))
  have S : SR g f [am, dm] ⟨[("self", .a 0), ("node", .v 3)], [(1, .dict (mS rnM0) 13)], 2⟩ m [(dm, om)] h₁ := by
    walk_at "l"; refine sr_mk (τ := τ) (ρ := [am, dm]) (st := ⟨[("self", .a 0), ("node", .v 3)], [(1, .dict (mS rnM0) 13)], 2⟩) F N (LocR.cons m1 ⟨am, rfl, rfl⟩ (LocR.cons m2 rfl LocR.nil)) (.cons ⟨rfl, hD.or hmv⟩ .nil) rfl ?_ ?_ (.cons rfl (.tail _ H.hI) ⟨dm, rfl, rfl⟩ .nil) hlow (List.cons_ne_nil _ _)
    · walk_at "l"; exact List.forall_mem_cons.mpr ⟨List.forall_mem_cons.mpr ⟨H.hd.symm, H.hdm⟩, fun zz h => (nomatch h)⟩
    · walk_at "l"; exact List.pairwise_singleton _ _
  walk_at "l"; refine wpAny_execs_cons (for_list (g := g) (s := { s with heap := h₁, toks := tk₁ }) O' F rfl rfl ?_)
  walk_at "l"; refine callHd_ok (g := g) (s := { s with heap := h₁, toks := tk₁ }) (recN_ok 200) r0 G O' S fun fv ρ₁ m₁ news₁ h₂ tk₂ vs le S₁ ra rc => ?_
  walk_at "e"; cases rc
  have hvs : vs = [v] := ps_v (is := [3]) ra
  walk_at "e"; subst hvs
  walk_at "l"; refine says_run (g := g) (f := f) (s := { s with heap := h₂, toks := tk₂ }) (al_says (hv.mono (fun p hp => List.mem_append_right news₁ (.tail _ hp))) hh hsz S₁.low (List.ne_nil_of_mem (List.mem_append_right news₁ (.head _)))) O'.toCOk rfl (by decide) S₁.F S₁.N ?_
  walk_at "l"; rintro u led' h₃ tk₃ F₃ N₃ ⟨y, c, rfl, hy, sub⟩
  walk_at "l"; refine ⟨y, _, [], c, h₃, tk₃, m₁, led', rfl, rfl, F₃, N₃, hy, rfl, rfl, fun I lt => ListRest.zero fun h₄ tk₄ F₄ N₄ => ?_⟩
  rw [locals_L O] at F₄ N₄
  walk_at "l"; refine wpAny_execs_cons (seq (g := g) (f := f) (s := { s with heap := h₄, toks := tk₄ }) ((recN_ok 200).S r1 (g := g) rfl G O' (S₁.heap F₄ fun p hp => N₄ p (sub p hp))) fun fl₅ ρ₅ m₅ news₅ h₅ tk₅ le₅ S₅ rv => ?_)
  walk_at "e"; cases rv
  walk_at "l"; refine wpAny_execs_cons (seq (g := g) (f := f) (s := { s with heap := h₅, toks := tk₅ }) ((recN_ok 200).S r2 (g := g) rfl G O' S₅) fun fl₆ ρ₆ m₆ news₆ h₆ tk₆ le₆ S₆ rv => ?_)
  walk_at "e"; cases rv
  walk_at "l"; refine wpAny_execs_cons (wpAny_Return_some ?_)
  walk_at "l"; refine callHd_ok (g := g) (s := { s with heap := h₆, toks := tk₆ }) (recN_ok 200) r3 G O' S₆ fun fv ρ₇ m₇ news₇ h₇ tk₇ vs le₇ S₇ ra rc => ?_
  walk_at "e"; cases rc
  have le : Le [am, dm] ρ₇ := ((le.trans le₅).trans le₆).trans le₇
  have hvs : vs = [.ref am] := ra.oc fun u zz e1 a L => L.o0 fun e2 => by
    walk_at "e"; obtain ⟨x, a1, a2⟩ := a
    rw [le 0 am rfl] at a1; walk_at "e"; cases a1
    walk_at "l"; rw [e1, e2, a2]
  walk_at "e"; subst hvs
  walk_at "l"; refine S₇.led.oc fun p1 zz e1 q1 L => L.oc fun p2 zz e2 q2 L => L.o0 fun e3 => ?_
  walk_at "e"; subst e3 e2
  walk_at "e"; obtain ⟨x2, om2⟩ := p2
  have hx2 : x2 = dm := by have := q2.1; rw [le 1 dm rfl] at this; exact (Option.some.inj this).symm
  walk_at "e"; subst hx2
  walk_at "e"; obtain ⟨es, hD2, hE⟩ := DV.of q2.2 rfl
  walk_at "l"; refine mv_of hE fun d' ed b1 b2 b3 b4 b5 b6 b7 b8 b9 b10 b11 b12 b13 => ?_
  walk_at "e"; subst ed
  have hready : Ready w am x2 dv tp ab B0 n r om2 ofl fl := ⟨H.hI, H.hT, H.hB, H.hd, H.hdm, H.hdv, H.low, H.lowm, H.lowv, ⟨d', hD2, b1, b2, b3, b5, b6, b7, b8, by rw [show d'.node = v from b9]; exact hv, b10, b13,
    hl_cons (b1.handed hV rfl) (hl_cons (b3.handed hV rfl) (hl_cons (b4.handed hV rfl) (hl_cons (b9.handed hV rfl) (hl_cons (b10.handed hV rfl) (hl_cons (b11.handed hV rfl) (hl_cons (b12.handed hV rfl) (hl_cons (b13.handed hV rfl) hl_nil)))))))⟩, H.fl⟩
  walk_at "l"; refine says_run (g := g) (f := f) (s := { s with heap := h₇, toks := tk₇ }) (finish_says (fix_turn hready) R hm hf hst) O'.toCOk rfl (by decide) S₇.F (fun p hp => S₇.N p ?_) ?_
  · walk_at "l"; rw [e1]
    walk_at "e"; rcases List.mem_cons.mp hp with rfl | hp
    · walk_at "l"; exact .tail _ (.head _)
    · walk_at "l"; exact List.mem_append_right _ hp
  · walk_at "l"; rintro u led' h tk F N ⟨sz, cz, dcz, om', ofl', r', sub, H', V⟩
    walk_at "l"; exact ⟨m₇, led', h, tk, rfl, F, N, sz, cz, dcz, om', ofl', r', sub, H', V⟩
end NT
end
section
open PySem PySem.W PySem.Calls PyProof.Rows
namespace NT
noncomputable section
noncomputable def I1659 : FnI := fnI e_1659
noncomputable def wiB : List Stmt := wB (nth I1659.body 0)
noncomputable def wiX (P : Params) : Sx := ⟨K P, [], [], [], [], []⟩
noncomputable def wiS (k : Int) : SS := ⟨[("way", .int 0 k), ("node", .v 0), ("labels", .a 0)], [(0, .list [.int 1 0] 0)], 1⟩
noncomputable def wiGo (P : Params) (k : Int) : Option (SF × SS) := (recN (wiX P) 200).B I1659.scope 30 wiB (wiS k)
noncomputable def I1666 : FnI := fnI e_1666
noncomputable def lpB : List Stmt := wB (nth I1666.body 2)
noncomputable def lp0 (P : Params) : Option (SF × SS) := (recN (wiX P) 200).S I1666.scope 40 (nth I1666.body 0) ⟨[("symbols", .v 0), ("ways", .v 1), ("is_last", .bool true)], [], 0⟩
noncomputable def lp1 (P : Params) : Option (SF × SS) := (recN (wiX P) 200).S I1666.scope 40 (nth I1666.body 1) ⟨[("labels", .a 0), ("symbols", .v 0), ("ways", .v 1), ("is_last", .bool true)], [(0, .list [.int 0 10] 0)], 1⟩
noncomputable def lp2 (P : Params) (b : Bool) : Option (SF × SS) := (recN (wiX P) 200).B I1666.scope 40 [nth lpB 0, nth lpB 1] ⟨[("is_last", .bool b)], [], 0⟩
noncomputable def lp3 (P : Params) : Option (SF × SS) := (recN (wiX P) 200).B I1666.scope 40 [nth I1666.body 3] ⟨[("body", .v 0)], [], 0⟩
end
end NT
end
section
open PySem PySem.W PySem.Calls PyProof.Rows
namespace NT
noncomputable def wiL : Nat → List (Nat × SO)
  | 0 => [(4, .inst 774 5), (5, .dict [("items", .a 3)] 1), (3, .list [.a 1, .v 0] 0), (1, .inst 557 2), (2, .dict [("value", .int 0 5)] 1)]
  | 1 => [(5, .inst 661 6), (6, .dict [("test", .a 1), ("yes", .a 3), ("no", .v 0)] 3), (3, .inst 557 4), (4, .dict [("value", .int 0 6)] 1), (1, .inst 557 2), (2, .dict [("value", .bool false)] 1)]
  | 2 => [(5, .inst 741 6), (6, .dict [("operator", .a 2), ("operands", .a 4)] 2), (4, .list [] 0), (2, .inst 708 3), (3, .dict [("label", .int 1 2), ("params", .a 1), ("rest", .int 0 (-1)), ("body", .v 0)] 4), (1, .list [] 0)]
  | 3 => [(9, .inst 741 10), (10, .dict [("operator", .a 3), ("operands", .a 8)] 2), (8, .list [.a 6] 0), (6, .inst 708 7), (7, .dict [("label", .int 1 2), ("params", .a 5), ("rest", .int 0 (-1)), ("body", .v 0)] 4), (5, .list [.int 1 102] 0), (3, .inst 557 4), (4, .dict [("value", .a 1)] 1), (1, .inst 468 2), (2, .dict [("title", .str "%call/cc"), ("word", .int 0 3)] 2)]
  | _ => [(14, .inst 741 15), (15, .dict [("operator", .a 11), ("operands", .a 13)] 2), (13, .list [.a 4, .a 7] 0), (11, .inst 557 12), (12, .dict [("value", .a 9)] 1), (9, .inst 468 10), (10, .dict [("title", .str "call-with-values"), ("word", .int 0 2)] 2), (7, .inst 708 8), (8, .dict [("label", .int 1 3), ("params", .a 6), ("rest", .int 0 (-1)), ("body", .v 0)] 4), (6, .list [.int 1 102] 0), (4, .inst 708 5), (5, .dict [("label", .int 1 2), ("params", .a 1), ("rest", .int 0 (-1)), ("body", .a 2)] 4), (2, .inst 557 3), (3, .dict [("value", .int 0 4)] 1), (1, .list [] 0)]
noncomputable def wiJ : Nat → Nat
  | 0 => 4
  | 1 => 5
  | 2 => 5
  | 3 => 9
  | _ => 14
noncomputable def wiM : Nat → List (Str × SV)
  | 4 => [("later", .a 7), ("first", .a 4)]
  | _ => []
noncomputable def wiN : Nat → Nat
  | 0 => 6
  | 1 => 7
  | 2 => 7
  | 3 => 11
  | _ => 16
noncomputable def wiO (k : Nat) : SS := ⟨("node", .a (wiJ k)) :: (wiM k ++ ([("way", .int 0 k), ("node", .v 0), ("labels", .a 0)] : List (Str × SV))), wiL k ++ [(0, .list [.int 1 2] 0)], wiN k⟩
theorem wi_runs (P : Params) : [wiGo P 0, wiGo P 1, wiGo P 2, wiGo P 3, wiGo P 4] = [some (.next, wiO 0), some (.next, wiO 1), some (.next, wiO 2), some (.next, wiO 3), some (.next, wiO 4)] := by kernel_rfl
theorem wi_run (P : Params) : ∀ k : Nat, k < 5 → wiGo P k = some (.next, wiO k)
  | 0, _ => (List.cons.inj (wi_runs P)).1
  | 1, _ => (List.cons.inj (List.cons.inj (wi_runs P)).2).1
  | 2, _ => (List.cons.inj (List.cons.inj (List.cons.inj (wi_runs P)).2).2).1
  | 3, _ => (List.cons.inj (List.cons.inj (List.cons.inj (List.cons.inj (wi_runs P)).2).2).2).1
  | 4, _ => (List.cons.inj (List.cons.inj (List.cons.inj (List.cons.inj (List.cons.inj (wi_runs P)).2).2).2).2).1
  | _ + 5, h => by lia
theorem wi_loc (k : Nat) : (wiO k).loc.lookup ("labels" : Str) = some (.a 0) := by
  walk_at "l"; match k with
  | 0 => walk_at "l"; rfl
  | 1 => walk_at "l"; rfl
  | 2 => walk_at "l"; rfl
  | 3 => walk_at "l"; rfl
  | 4 => walk_at "l"; rfl
  | _ + 5 => walk_at "l"; rfl
theorem wi_new (k : Nat) : (wiL k).all (fun p => Nat.ble 1 p.1) = true := by
  walk_at "l"; match k with
  | 0 => walk_at "l"; rfl
  | 1 => walk_at "l"; rfl
  | 2 => walk_at "l"; rfl
  | 3 => walk_at "l"; rfl
  | _ + 4 => walk_at "l"; rfl
section
variable {w : World} {τ : Vt} {ρ : List Addr} {r nw : Ld} {nl : List (Nat × SO)}
theorem mk_val {i d : Nat} {sv : SV} {p : Value → Prop} (hV : ∀ i, handedIn (τ.V i) = true) (R : LR w τ ρ nl nw) (h1 : nl.lookup i = some (.inst 557 d)) (h2 : nl.lookup d = some (.dict [("value", sv)] 1)) (hp : ∀ u, VR τ ρ sv u → p u) (hs : handS sv = true) {v : Value} (hv : VR τ ρ (.a i) v) : InsP w (nw ++ r) 557 [("value", p)] v :=
  ins_mk hV R h1 h2 rfl (.cons ⟨rfl, hp, hs⟩ .nil) hv
theorem mk_ctl {i d : Nat} {k : Int} {s : Str} (hV : ∀ i, handedIn (τ.V i) = true) (R : LR w τ ρ nl nw) (h1 : nl.lookup i = some (.inst 468 d)) (h2 : nl.lookup d = some (.dict [("title", .str s), ("word", .int 0 k)] 2)) (hs : handS (.str s) = true) {v : Value} (hv : VR τ ρ (.a i) v) : InsP w (nw ++ r) 468 [("title", Tr), ("word", IsI k)] v :=
  ins_mk hV R h1 h2 rfl (.cons ⟨rfl, fun zz zz => trivial, hs⟩ (.cons ⟨rfl, fun zz h => h, rfl⟩ .nil)) hv
theorem mk_lam {i d : Nat} {a b : Nat} {j : Int} {sb : SV} {ps : List (Value → Prop)} {nd : Nd} (hV : ∀ i, handedIn (τ.V i) = true) (R : LR w τ ρ nl nw) (h1 : nl.lookup i = some (.inst 708 d)) (h2 : nl.lookup d = some (.dict [("label", .int a j), ("params", .a b), ("rest", .int 0 (-1)), ("body", sb)] 4)) (hl : handS (.int a j) = true) (hq : handS (.a b) = true) (hp : ∀ u, VR τ ρ (.a b) u → LstP (nw ++ r) ps u) (hm : handS (.int 0 (-1)) = true)
    (hb : ∀ u, VR τ ρ sb u → NdIn w (nw ++ r) nd u) (hs : handS sb = true) {v : Value} (hv : VR τ ρ (.a i) v) : InsP w (nw ++ r) 708 [("label", Tr), ("params", LstP (nw ++ r) ps), ("rest", IsI (-1)), ("body", NdIn w (nw ++ r) nd)] v :=
  ins_mk hV R h1 h2 rfl (.cons ⟨rfl, fun zz zz => trivial, hl⟩ (.cons ⟨rfl, hp, hq⟩ (.cons ⟨rfl, fun zz h => h, hm⟩ (.cons ⟨rfl, hb, hs⟩ .nil)))) hv
end
theorem wi_post {w : World} {r nw : Ld} {ρ : List Addr} {L : Int} {nv : Value} {nd : Nd} (k : Nat) (hk : k < 5) (hL : 0 ≤ L) (hV : ∀ i, handedIn ((mkT [L] [nv] []).V i) = true) (hn : NdIn w r nd nv) (R : LR w (mkT [L] [nv] []) ρ (wiL k) nw) :
    ∀ u, VR (mkT [L] [nv] []) ρ (.a (wiJ k)) u → NdIn w (nw ++ r) (wrap k nd) u := by
  have hn' : ∀ u, VR (mkT [L] [nv] []) ρ (.v 0) u → NdIn w (nw ++ r) nd u := fun u h => h ▸ hn.mono sub_app
  walk_at "l"; match k, hk, R with
  | 0, _, R => walk_at "l"; exact fun u h => ins_mk (i := 4) (fs := [("items", LstP (nw ++ r) [NdIn w (nw ++ r) (.int 5), NdIn w (nw ++ r) nd])]) hV R rfl rfl rfl (.cons ⟨rfl, fun u h => lst_mk (i := 3) hV R rfl (.cons ⟨fun u h => mk_val (i := 1) hV R rfl rfl (fun zz h => h) rfl h, rfl⟩ (.cons ⟨hn', rfl⟩ .nil)) h, rfl⟩ .nil) h
  | 1, _, R => walk_at "l"; exact fun u h => ins_mk (i := 5) (fs := [("test", NdIn w (nw ++ r) (.bool false)), ("yes", NdIn w (nw ++ r) (.int 6)), ("no", NdIn w (nw ++ r) nd)]) hV R rfl rfl rfl (.cons ⟨rfl, fun u h => mk_val (i := 1) hV R rfl rfl (fun zz h => h) rfl h, rfl⟩ (.cons ⟨rfl, fun u h => mk_val (i := 3) hV R rfl rfl (fun zz h => h) rfl h, rfl⟩ (.cons ⟨rfl, hn', rfl⟩ .nil))) h
  | 2, _, R => walk_at "l"; exact fun u h => ins_mk (i := 5) (fs := [("operator", NdIn w (nw ++ r) (.lam0 nd)), ("operands", LstP (nw ++ r) [])]) hV R rfl rfl rfl (.cons ⟨rfl, fun u h => mk_lam (i := 2) (ps := []) hV R rfl rfl rfl rfl (fun u h => lst_mk (i := 1) hV R rfl .nil h) rfl hn' rfl h, rfl⟩ (.cons ⟨rfl, fun u h => lst_mk (i := 4) hV R rfl .nil h, rfl⟩ .nil)) h
  | 3, _, R => walk_at "l"; exact fun u h => ins_mk (i := 9) (fs := [("operator", NdIn w (nw ++ r) (.ctl 3)), ("operands", LstP (nw ++ r) [NdIn w (nw ++ r) (.lam1 nd)])]) hV R rfl rfl rfl (.cons ⟨rfl, fun u h => mk_val (i := 3) hV R rfl rfl (fun u h => mk_ctl (i := 1) hV R rfl rfl rfl h) rfl h, rfl⟩ (.cons ⟨rfl, fun u h => lst_mk (i := 8) hV R rfl (.cons ⟨fun u h => mk_lam (i := 6) (ps := [fun v => ∃ q, q ≠ 1 ∧ IsI q v]) hV R rfl rfl rfl rfl (fun u h => lst_mk (i := 5) hV R rfl (.cons ⟨fun u h => ⟨L + 102, by lia, h.isI rfl⟩, rfl⟩ .nil) h) rfl hn' rfl h, rfl⟩ .nil) h, rfl⟩ .nil)) h
  | 4, _, R => walk_at "l"; exact fun u h => ins_mk (i := 14) (fs := [("operator", NdIn w (nw ++ r) (.ctl 2)), ("operands", LstP (nw ++ r) [NdIn w (nw ++ r) (.lam0 (.int 4)), NdIn w (nw ++ r) (.lam1 nd)])]) hV R rfl rfl rfl (.cons ⟨rfl, fun u h => mk_val (i := 11) hV R rfl rfl (fun u h => mk_ctl (i := 9) hV R rfl rfl rfl h) rfl h, rfl⟩ (.cons ⟨rfl, fun u h => lst_mk (i := 13) hV R rfl (.cons ⟨fun u h => mk_lam (i := 4) (ps := []) (nd := .int 4) hV R rfl rfl rfl rfl (fun u h => lst_mk (i := 1) hV R rfl .nil h) rfl (fun u h => mk_val (p := IsI 4) (i := 2) hV R rfl rfl (fun zz h => h) rfl h) rfl h, rfl⟩ (.cons ⟨fun u h => mk_lam (i := 7) (ps := [fun v => ∃ q, q ≠ 1 ∧ IsI q v]) hV R rfl rfl rfl rfl (fun u h => lst_mk (i := 6) hV R rfl (.cons ⟨fun u h => ⟨L + 102, by lia, h.isI rfl⟩, rfl⟩ .nil) h) rfl hn' rfl h, rfl⟩ .nil)) h, rfl⟩ .nil)) h
  | _ + 5, h, _ => walk_at "l"; lia
end NT
end
section
open PySem PySem.W PySem.Calls PyProof.Rows
namespace NT
theorem fi1659 (P : Params) : fnInfo (K P) 1659 = some I1659 := by kernel_rfl
theorem b1659 : I1659.body = [.For (.Name "way" (forXp (nth I1659.body 0))) (forI (nth I1659.body 0)) wiB [] (wP (nth I1659.body 0)), nth I1659.body 1] := by kernel_rfl
noncomputable def wiE0 (P : Params) : Option (SV × SS) := (recN (wiX P) 200).E I1659.scope 30 (forI (nth I1659.body 0)) ⟨[("ways", .a 0), ("node", .v 0), ("labels", .v 1)], [], 1⟩
noncomputable def wiE1 (P : Params) : Option (SF × SS) := (recN (wiX P) 200).B I1659.scope 30 [nth I1659.body 1] ⟨[("node", .v 0)], [], 0⟩
theorem wiE_runs (P : Params) : (wiE0 P, wiE1 P) = (some (.a 0, ⟨[("ways", .a 0), ("node", .v 0), ("labels", .v 1)], [], 1⟩), some (.ret (.v 0), ⟨[("node", .v 0)], [], 0⟩)) := by kernel_rfl
structure WiS (w : World) (lx I : Addr) (L : Int) (nd : Nd) (nv : Value) (r : Ld) : Prop where
  L0 : 0 ≤ L
  hn : NdIn w r nd nv
  hh : handedIn nv = true
  lx1 : @LT.lt Nat _ 1 lx
  low : ∀ p ∈ r, @LT.lt Nat _ 1 p.1
  off : ∀ p ∈ r, p.1 ≠ lx
  lI : @Ne Nat lx I
  oI : ∀ p ∈ r, p.1 ≠ I
set_option tactic.hygienic true in
theorem wi_loop {w : World} {f : Fx} {Q : Flow → Shared → Prop} {s : Shared} {I lx : Addr} {wp : Addr × Obj} (hI : @LT.lt Nat _ 1 I) (O : FOk (gB w) I1659.scope 30 f) : ∀ (ws : List Int) (l : List Value) (hws : All2 LiR (ws.map IsI) l) (hk : ∀ k ∈ ws, 0 ≤ k ∧ k < 5) (nd : Nd) (nv : Value) (L : Int) (t : Tok) (m : Str → Option Value) (r : Ld)
    (B : WiS w lx I L nd nv r) (hw : wp ∈ r) (m1 : m "node" = some nv) (m2 : m "labels" = some (.ref lx))
    (q : ∀ m' h tk nv' L' t' r', Fr f.h₀ f.L h m' → News f.h₀ f.L h ((lx, W.listOf [Value.int L' t'].toArray 0) :: r') → WiS w lx I L' (within ws nd) nv' r' → Sub r r' → m' "node" = some nv' → m' "labels" = some (.ref lx) → Q .next { s with heap := h, toks := tk }),
    ListRest PW w f.A f.E f.h₀ f.env "way" wiB Q s I wp l m ((lx, W.listOf [Value.int L t].toArray 0) :: r) := by
  walk_at "l"; intro ws
  have hL := locals_L O
  walk_at "l"; induction ws with
  | nil =>
    walk_at "l"; intro l hws hk nd nv L t m r B hw m1 m2 q
    walk_at "e"; cases hws
    walk_at "l"; refine ListRest.zero fun h' tk F N => ?_
    rw [hL] at F N
    walk_at "l"; exact q m h' tk nv L t r F N B (fun zz h => h) m1 m2
  | cons k ws ih =>
    walk_at "l"; intro l hws hk nd nv L t m r B hw m1 m2 q
    walk_at "e"; cases hws with
    | cons a hws =>
      rename_i v l
      walk_at "l"; refine ListRest.succ fun it h' tk hit F' N' => ?_
      walk_at "l"; rw [hL] at F' N' ⊢
      walk_at "e"; obtain ⟨k0, k5⟩ := hk k (.head _)
      walk_at "e"; obtain ⟨j, rfl⟩ := Int.eq_ofNat_of_zero_le k0
      have hj : j < 5 := by lia
      have hV : ∀ i, handedIn ((mkT [L] [nv] []).V i) = true := mkT_V (hl_cons B.hh hl_nil)
      let g : Gx := ⟨w, mkT [L] [nv] [], wiX w.params, (I, it) :: r, (lx, W.listOf [Value.int L t].toArray 0) :: (I, it) :: r, 1, [lx]⟩
      have S : SR g f [lx] (wiS j) (fun y => if y = "way" then some v else m y) [(lx, W.listOf [Value.int L t].toArray 0)] h' := by
        walk_at "l"; refine sr_mk (τ := mkT [L] [nv] []) (ρ := [lx]) (st := wiS j) F' (fun p hp => N' p ?_) ?_ (.cons ⟨rfl, [.int L t], rfl, .cons ⟨t, by show Value.int L t = .int (L + 0) t; rw [Int.add_zero]⟩ .nil⟩ .nil) rfl ?_ ?_ .nil ?_ (List.cons_ne_nil _ _)
        · walk_at "e"; rcases List.mem_cons.mp hp with rfl | hp
          · walk_at "l"; exact .tail _ (.head _)
          · walk_at "e"; rcases List.mem_cons.mp hp with rfl | hp
            · walk_at "l"; exact .head _
            · walk_at "l"; exact .tail _ (.tail _ hp)
        · walk_at "l"; exact LocR.cons (if_pos rfl) a.1 (LocR.cons ((if_neg (by decide)).trans m1) rfl (LocR.cons ((if_neg (by decide)).trans m2) ⟨lx, rfl, rfl⟩ LocR.nil))
        · walk_at "l"; exact List.forall_mem_cons.mpr ⟨List.forall_mem_cons.mpr ⟨B.lI.symm, B.off⟩, fun zz h => (nomatch h)⟩
        · walk_at "l"; exact List.pairwise_singleton _ _
        · walk_at "l"; exact List.forall_mem_cons.mpr ⟨B.lx1, List.forall_mem_cons.mpr ⟨hI, B.low⟩⟩
      have hgo := wi_run w.params j hj
      unfold wiGo at hgo
      walk_at "l"; refine seq (g := g) (f := f) (s := { s with heap := h', toks := tk }) ((recN_ok 200).B hgo (g := g) rfl (gok0 hV) (O.to rfl rfl) S) fun fl ρ₁ m₁ news₁ h₁ tk₁ le S₁ rv => ?_
      walk_at "e"; cases rv
      walk_at "e"; obtain ⟨nw, m2', e, L1, L2⟩ := All2.split (a := wiL j) S₁.led
      walk_at "l"; refine L2.oc fun q1 zz e1 f1 L2 => L2.o0 fun e3 => ?_
      walk_at "e"; subst e3 e1
      walk_at "e"; obtain ⟨x1, o1⟩ := q1
      walk_at "e"; obtain ⟨a1, us, ho, a3⟩ := f1
      dsimp only at a1 ho
      have hx : x1 = lx := by rw [le 0 lx rfl] at a1; exact (Option.some.inj a1).symm
      walk_at "e"; obtain ⟨t', ho⟩ : ∃ t', o1 = W.listOf [Value.int (L + 2) t'].toArray 0 := by
        walk_at "l"; refine a3.oc fun u zz e4 f4 L3 => L3.o0 fun e5 => ?_
        walk_at "e"; obtain ⟨t', f4⟩ := f4
        walk_at "l"; exact ⟨t', by rw [ho, e4, e5, f4]; rfl⟩
      rw [hx, ho] at e
      have up := up_all S₁ (nl := wiL j) (wi_new j) L1
      walk_at "e"; obtain ⟨nv', n1, hnv⟩ := S₁.loc ("node" : Str) (.a (wiJ j)) rfl
      walk_at "e"; obtain ⟨lv, n2, hlv⟩ := S₁.loc ("labels" : Str) (.a 0) (wi_loc j)
      walk_at "e"; obtain ⟨y, y1, rfl⟩ := hlv
      rw [le 0 lx rfl] at y1
      walk_at "e"; cases y1
      have upl : ∀ p ∈ nw, @LT.lt Nat _ lx p.1 := fun p hp => up p hp _ (.head _)
      have upI : ∀ p ∈ nw, @LT.lt Nat _ I p.1 := fun p hp => up p hp _ (.tail _ (.head _))
      have B' : WiS w lx I (L + 2) (wrap j nd) nv' (nw ++ r) := ⟨by have := B.L0; lia, wi_post j hj B.L0 hV B.hn L1 nv' hnv, hnv.handed hV rfl, B.lx1, fun p hp => (List.mem_append.mp hp).elim (fun hp => Nat.lt_trans B.lx1 (upl p hp)) (B.low p), fun p hp => (List.mem_append.mp hp).elim (fun hp => Nat.ne_of_gt (upl p hp)) (B.off p), B.lI, fun p hp => (List.mem_append.mp hp).elim (fun hp => Nat.ne_of_gt (upI p hp)) (B.oI p)⟩
      walk_at "l"; refine UnrEnd.intro S₁.F S₁.N ((lx, W.listOf [Value.int (L + 2) t'].toArray 0) :: (nw ++ r)) ?_ ?_ ⟨.tail _ (List.mem_append_right _ hw), ih _ hws (fun k hk' => hk k (.tail _ hk')) (wrap j nd) nv' (L + 2) t' m₁ (nw ++ r) B' (List.mem_append_right _ hw) n1 n2 fun m' h tk nv'' L' t'' r' F N B'' sub n1 n2 => q m' h tk nv'' L' t'' r' F N B'' (fun p hp => sub p (List.mem_append_right _ hp)) n1 n2⟩
      · walk_at "l"; intro p hp
        walk_at "l"; rw [e]
        walk_at "e"; rcases List.mem_cons.mp hp with rfl | hp
        · walk_at "l"; exact List.mem_append_right _ (.head _)
        · walk_at "e"; rcases List.mem_cons.mp hp with rfl | hp
          · walk_at "l"; exact List.mem_append_left _ (List.mem_append_right _ (.head _))
          · walk_at "e"; rcases List.mem_append.mp hp with hp | hp
            · walk_at "l"; exact List.mem_append_left _ (List.mem_append_left _ hp)
            · walk_at "l"; exact List.mem_append_right _ (.tail _ hp)
      · walk_at "l"; exact List.forall_mem_cons.mpr ⟨B.lI, B'.oI⟩
inductive WiR (w : World) (lx : Addr) (ws : List Int) (nd : Nd) (r : Ld) (u : Value) (ld : Ld) : Prop
  | mk (L' t' r') : (Sub ((lx, W.listOf [Value.int L' t'].toArray 0) :: r') ld) → (0 ≤ L') → (NdIn w r' (within ws nd) u) → (handedIn u = true) → (Sub r r') → ((∀ p ∈ r', @LT.lt Nat _ 1 p.1)) → (∀ p ∈ r', p.1 ≠ lx) → WiR w lx ws nd r u ld
theorem within_says {w : World} {lx wx : Addr} {L : Int} {t : Tok} {nd : Nd} {nv : Value} {r : Ld} {ws : List Int} {l : List Value} {c : Nat} (L0 : 0 ≤ L) (hn : NdIn w r nd nv) (hh : handedIn nv = true) (lx1 : @LT.lt Nat _ 1 lx) (low : ∀ p ∈ r, @LT.lt Nat _ 1 p.1) (off : ∀ p ∈ r, p.1 ≠ lx)
    (hw : (wx, W.listOf l.toArray c) ∈ r) (hws : All2 LiR (ws.map IsI) l) (hk : ∀ k ∈ ws, 0 ≤ k ∧ k < 5) :
    Says w 31 1659 [.ref wx, nv, .ref lx] ((lx, W.listOf [Value.int L t].toArray 0) :: r) (WiR w lx ws nd r) := by
  walk_at "l"; refine says_enter (kd := 30) (fi1659 _) (binds := [("ways", .v 0), ("node", .v 1), ("labels", .v 2)]) rfl rfl ?_
  walk_at "l"; intro f h₁ tk₁ m s O F N hmm
  have m1 := hmm "ways" 0 _ rfl rfl
  have m2 := hmm "node" 1 _ rfl rfl
  have m3 := hmm "labels" 2 _ rfl rfl
  walk_at "l"; rw [b1659]
  have hr := wiE_runs w.params
  have r0 : wiE0 w.params = _ := congrArg Prod.fst hr
  have r1 : wiE1 w.params = _ := congrArg Prod.snd hr
  dsimp only at r0 r1
  have hlow : ∀ p ∈ (lx, W.listOf [Value.int L t].toArray 0) :: r, @LT.lt Nat _ 1 p.1 := List.forall_mem_cons.mpr ⟨lx1, low⟩
  walk_at "l"; refine wpAny_execs_cons (for_list (g := gB w) (s := { s with heap := h₁, toks := tk₁ }) O F rfl rfl ?_)
  let g : Gx := ⟨w, mkT [] [nv, .ref lx] [], wiX w.params, (lx, W.listOf [Value.int L t].toArray 0) :: r, (lx, W.listOf [Value.int L t].toArray 0) :: r, 1, [wx]⟩
  walk_at "l"; refine seq (g := g) (f := f) (s := { s with heap := h₁, toks := tk₁ }) ((recN_ok 200).E r0 (g := g) rfl (gok0 (mkT_V (hl_cons hh (hl_cons rfl hl_nil)))) (O.to rfl rfl) (sr_mk0 (τ := mkT [] [nv, .ref lx] []) F N (LocR.cons m1 ⟨wx, rfl, rfl⟩ (LocR.cons m2 rfl (LocR.cons m3 rfl LocR.nil))) rfl .nil hlow (List.cons_ne_nil _ _))) fun v ρ₁ m₁ news₁ h₂ tk₂ le S₁ rv => ?_
  walk_at "e"; obtain ⟨y, y1, rfl⟩ := rv
  rw [le 0 wx rfl] at y1
  walk_at "e"; cases y1
  have hn1 := all2_nil S₁.led
  walk_at "e"; subst hn1
  walk_at "e"; obtain ⟨u1, n1, e1⟩ := S₁.loc ("node" : Str) (.v 0) rfl
  walk_at "e"; obtain ⟨u2, n2, e2⟩ := S₁.loc ("labels" : Str) (.v 1) rfl
  have e1 : u1 = nv := e1
  have e2 : u2 = .ref lx := e2
  rw [e1] at n1
  rw [e2] at n2
  walk_at "l"; refine ⟨wx, _, l, c, h₂, tk₂, m₁, _, rfl, rfl, S₁.F, S₁.N, .tail _ hw, rfl, rfl, fun I lt => wi_loop (Nat.lt_trans lx1 (lt _ (.head _))) O ws l hws hk nd nv L t m₁ r ⟨L0, hn, hh, lx1, low, off, Nat.ne_of_lt (lt _ (.head _)), fun p hp => Nat.ne_of_lt (lt p (.tail _ hp))⟩ hw n1 n2 ?_⟩
  walk_at "l"; intro m' h tk nv' L' t' r' F' N' B sub n1' n2'
  let g' : Gx := ⟨w, mkT [] [nv'] [], wiX w.params, (lx, W.listOf [Value.int L' t'].toArray 0) :: r', (lx, W.listOf [Value.int L' t'].toArray 0) :: r', 0, []⟩
  walk_at "l"; refine seq (g := g') (f := f) (s := { s with heap := h, toks := tk }) ((recN_ok 200).B r1 (g := g') rfl (gok0 (mkT_V (hl_cons B.hh hl_nil))) (O.to rfl rfl) (sr_mk0 (τ := mkT [] [nv'] []) F' N' (LocR.cons n1' rfl LocR.nil) rfl .nil (List.forall_mem_cons.mpr ⟨B.lx1, B.low⟩) (List.cons_ne_nil _ _))) fun fl ρ₂ m₂ news₂ h₃ tk₃ le₂ S₂ rv => ?_
  walk_at "e"; obtain ⟨u, rfl, hu⟩ := rv
  have hn2 := all2_nil S₂.led
  walk_at "e"; subst hn2
  have hu : u = nv' := hu
  walk_at "e"; subst hu
  walk_at "l"; exact ⟨m₂, _, h₃, tk₃, rfl, S₂.F, S₂.N, L', t', r', fun zz h => h, B.L0, B.hn, B.hh, sub, B.low, B.off⟩
end NT
end
section
open PySem PySem.W PySem.Calls PyProof.Rows
namespace NT
noncomputable section
noncomputable def cA (e : PySem.Expr) : List PySem.Expr := if isCall e then (kids e).tail else kids e
noncomputable def cFn (e : PySem.Expr) : PySem.Expr := kid e 0
noncomputable def aE (s : Stmt) : PySem.Expr := sKid s 0
noncomputable def aT (s : Stmt) : PySem.Expr := sKid s 1
noncomputable def aP (s : Stmt) : Pos := s.pos
noncomputable def lpE : PySem.Expr := aE (nth lpB 2)
noncomputable def lpQ : PySem.Expr := nE (cA lpE) 1
noncomputable def lpK : PySem.Expr := nE (cA lpQ) 0
theorem b_lp : nth lpB 2 = .Assign [.Name "body" (aT (nth lpB 2)).pos] (.Call (.Name "If" (cFn lpE).pos) [nE (cA lpE) 0, .Call (.Name "Seq" (cFn lpQ).pos) [.List [nE (cA lpK) 0, nE (cA lpK) 1] lpK.pos] [] lpQ.pos, nE (cA lpE) 2] [] lpE.pos) (aP (nth lpB 2)) := by kernel_rfl
theorem bb_lp : lpB = [nth lpB 0, nth lpB 1, nth lpB 2] := by kernel_rfl
theorem fi1666 (P : Params) : fnInfo (K P) 1666 = some I1666 := by kernel_rfl
theorem b1666 : I1666.body = [nth I1666.body 0, nth I1666.body 1, .For (.Name "symbol" (forXp (nth I1666.body 2))) (forI (nth I1666.body 2)) lpB [] (wP (nth I1666.body 2)), nth I1666.body 3] := by kernel_rfl
noncomputable def lcB : List (Str × SV) := [("again", .v 3), ("symbol", .int 1 0), ("body", .v 0), ("ways", .v 1), ("labels", .v 2), ("is_last", .v 6)]
noncomputable def lcC : List (Str × SV) := [("body", .v 0), ("ways", .v 1), ("labels", .v 2), ("is_last", .v 6)]
noncomputable def lpL1 : List (Nat × SO) := [(0, .inst 595 1), (1, .dict [("symbol", .int 1 0)] 1)]
noncomputable def lpL2 : List (Nat × SO) := [(4, .inst 628 5), (5, .dict [("symbol", .int 1 0), ("value", .a 2)] 2), (2, .inst 557 3), (3, .dict [("value", .bool false)] 1)]
noncomputable def lpr1 (P : Params) : Option (SV × SS) := (recN (wiX P) 200).E I1666.scope 40 (nE (cA lpE) 0) ⟨lcB, [], 0⟩
noncomputable def lpr2 (P : Params) : Option (SV × SS) := (recN (wiX P) 200).E I1666.scope 40 (nE (cA lpK) 0) ⟨lcB, lpL1, 2⟩
noncomputable def lpr3 (P : Params) : Option (SV × List SV × SS) := callHd (wiX P) (recN (wiX P) 200) I1666.scope 40 (nE (cA lpK) 1) ⟨lcB, lpL2 ++ lpL1, 6⟩
noncomputable def lpr4 (P : Params) : Option (SV × SS) := (recN (wiX P) 200).C 40 (.k 774) [.a 0] ⟨lcC, [(0, .list [.v 4, .v 5] 0)], 1⟩
noncomputable def lpL4 : List (Nat × SO) := [(1, .inst 774 2), (2, .dict [("items", .a 0)] 1), (0, .list [.v 4, .v 5] 0)]
noncomputable def lpr5 (P : Params) : Option (SV × SS) := (recN (wiX P) 200).E I1666.scope 40 (nE (cA lpE) 2) ⟨lcC, lpL4, 3⟩
noncomputable def lpr6 (P : Params) : Option (SV × SS) := (recN (wiX P) 200).C 40 (.k 661) [.v 3, .a 1, .v 0] ⟨lcC, lpL4, 3⟩
noncomputable def lpL6 : List (Nat × SO) := (3, .inst 661 4) :: (4, .dict [("test", .v 3), ("yes", .a 1), ("no", .v 0)] 3) :: lpL4
theorem lp_runs (P : Params) : (lpr1 P, lpr2 P, lpr3 P, lpr4 P, lpr5 P, lpr6 P) = (some (.a 0, ⟨lcB, lpL1, 2⟩), some (.a 4, ⟨lcB, lpL2 ++ lpL1, 6⟩), some (.k 1659, [.v 1, .v 3, .v 2], ⟨lcB, lpL2 ++ lpL1, 6⟩), some (.a 1, ⟨lcC, lpL4, 3⟩), some (.v 0, ⟨lcC, lpL4, 3⟩), some (.a 3, ⟨lcC, lpL6, 5⟩)) := by kernel_rfl
theorem lp_if (P : Params) : (evName (wiX P) I1666.scope "If" ⟨lcB, [], 0⟩, evName (wiX P) I1666.scope "Seq" ⟨lcB, lpL1, 2⟩) = (some (.k 661), some (.k 774)) := by kernel_rfl
theorem lp_keep (P : Params) : (keepIn (K P) (.ref 661), keepIn (K P) (.ref 774)) = (true, true) := by kernel_rfl
theorem lp_plain : (plainEl (nE (cA lpE) 0), plainEl (nE (cA lpE) 2), plainEl (nE (cA lpK) 0), plainEl (nE (cA lpK) 1)) = (true, true, true, true) := by kernel_rfl
theorem lp_local : isLocal I1666.scope "body" = true := by kernel_rfl
end
end NT
end
section
open PySem PySem.W PySem.Calls PyProof.Rows
namespace NT
noncomputable def lpL5 : List (Nat × SO) := [(3, .inst 661 4), (4, .dict [("test", .v 3), ("yes", .a 1), ("no", .v 0)] 3), (1, .inst 774 2), (2, .dict [("items", .a 0)] 1)]
noncomputable def lpL0 : List (Nat × SO) := [(0, .list [.v 4, .v 5] 0)]
theorem lp_stmt {w : World} {f : Fx} {s : Shared} {m : Str → Option Value} {lx wx : Addr} {L g0 : Int} {t tg : Tok} {nag nb : Nd} {ag bv : Value} {bl : Bool} {r : Ld} {ws : List Int} {l : List Value} {c : Nat} (O : FOk (gB w) I1666.scope 40 f) (F : Fr f.h₀ f.L s.heap m) (N : News f.h₀ f.L s.heap ((lx, W.listOf [Value.int L t].toArray 0) :: r))
    (m1 : m "again" = some ag) (m2 : m "symbol" = some (.int g0 tg)) (m3 : m "body" = some bv) (m4 : m "ways" = some (.ref wx)) (m5 : m "labels" = some (.ref lx)) (m6 : m "is_last" = some (.bool bl))
    (L0 : 0 ≤ L) (hag : NdIn w r nag ag) (hag' : handedIn ag = true) (hb : NdIn w r nb bv) (hb' : handedIn bv = true) (lx1 : @LT.lt Nat _ 1 lx) (low : ∀ p ∈ r, @LT.lt Nat _ 1 p.1) (off : ∀ p ∈ r, p.1 ≠ lx)
    (hw : (wx, W.listOf l.toArray c) ∈ r) (hws : All2 LiR (ws.map IsI) l) (hk : ∀ k ∈ ws, 0 ≤ k ∧ k < 5) {Q : Flow → Shared → Prop}
    (q : ∀ m' h tk v L' t' r', Fr f.h₀ f.L h m' → News f.h₀ f.L h ((lx, W.listOf [Value.int L' t'].toArray 0) :: r') → m' "body" = some v → m' "ways" = some (.ref wx) → m' "labels" = some (.ref lx) → m' "is_last" = some (.bool bl) → 0 ≤ L' → NdIn w r' (.ite (.glob g0) (.seq (.setg g0 (.bool false)) (within ws nag)) nb) v → handedIn v = true → Sub r r' → (∀ p ∈ r', @LT.lt Nat _ 1 p.1) → (∀ p ∈ r', p.1 ≠ lx) → Q .next { s with heap := h, toks := tk }) :
    WP (gB w) f (exec (nth lpB 2) f.env) Q s := by
  have hr := lp_runs w.params
  have r1 : lpr1 w.params = _ := congrArg Prod.fst hr
  have r2 : lpr2 w.params = _ := congrArg (fun x => x.2.1) hr
  have r3 : lpr3 w.params = _ := congrArg (fun x => x.2.2.1) hr
  have r4 : lpr4 w.params = _ := congrArg (fun x => x.2.2.2.1) hr
  have r5 : lpr5 w.params = _ := congrArg (fun x => x.2.2.2.2.1) hr
  have r6 : lpr6 w.params = _ := congrArg (fun x => x.2.2.2.2.2) hr
  dsimp only at r1 r2 r3 r4 r5 r6
  have n1 : evName (wiX w.params) I1666.scope "If" ⟨lcB, [], 0⟩ = some (.k 661) := congrArg Prod.fst (lp_if w.params)
  have n2 : evName (wiX w.params) I1666.scope "Seq" ⟨lcB, lpL1, 2⟩ = some (.k 774) := congrArg Prod.snd (lp_if w.params)
  have k1 : keepIn (K w.params) (.ref 661) = true := congrArg Prod.fst (lp_keep w.params)
  have k2 : keepIn (K w.params) (.ref 774) = true := congrArg Prod.snd (lp_keep w.params)
  have p1 : plainEl (nE (cA lpE) 0) = true := congrArg Prod.fst lp_plain
  have p2 : plainEl (nE (cA lpE) 2) = true := congrArg (fun x => x.2.1) lp_plain
  have p3 : plainEl (nE (cA lpK) 0) = true := congrArg (fun x => x.2.2.1) lp_plain
  have p4 : plainEl (nE (cA lpK) 1) = true := congrArg (fun x => x.2.2.2) lp_plain
  let τ : Vt := mkT [g0] [bv, .ref wx, .ref lx, ag, .none, .none, .bool bl] []
  have hV : ∀ i, handedIn (τ.V i) = true := mkT_V (Is := [g0]) (D := []) (hl_cons hb' (hl_cons rfl (hl_cons rfl (hl_cons hag' (hl_cons rfl (hl_cons rfl (hl_cons rfl hl_nil)))))))
  let R : Ld := (lx, W.listOf [Value.int L t].toArray 0) :: r
  let g : Gx := ⟨w, τ, wiX w.params, R, R, 0, []⟩
  have G : g.Ok := gok0 hV
  have O' : FOk g I1666.scope 40 f := O.to rfl rfl
  have S : SR g f [] ⟨lcB, [], 0⟩ m [] s.heap := sr_mk0 (τ := τ) F N (LocR.cons m1 rfl (LocR.cons m2 ⟨tg, by show Value.int g0 tg = .int (g0 + 0) tg; rw [Int.add_zero]⟩ (LocR.cons m3 rfl (LocR.cons m4 rfl (LocR.cons m5 rfl (LocR.cons m6 rfl LocR.nil)))))) rfl .nil (List.forall_mem_cons.mpr ⟨lx1, low⟩) (List.cons_ne_nil _ _)
  walk_at "l"; rw [b_lp]
  walk_at "l"; refine wpAny_Assign_Name ?_ (swaps_no rfl)
  walk_at "l"; refine Call_ (evName_ok (g := g) n1 O' S fun v rv => ?_) rfl
  walk_at "e"; cases rv
  walk_at "l"; refine callWith_K O'.X k1 (args_cons (seq (g := g) ((recN_ok 200).E r1 (g := g) rfl G O' S) fun v1 ρ₁ m₁ news₁ h₁ tk₁ le₁ S₁ rv1 => ?_) (plain_star p1)) (plain_star p1) (plain_any ?_)
  · walk_at "l"; refine args_cons ?_ rfl
    walk_at "l"; refine Call_ (evName_ok (g := g) (s := { s with heap := h₁, toks := tk₁ }) n2 O' S₁ fun v rv => ?_) rfl
    walk_at "e"; cases rv
    walk_at "l"; refine callWith_K O'.X k2 (args_cons (List_ (args_cons (seq (g := g) (s := { s with heap := h₁, toks := tk₁ }) ((recN_ok 200).E r2 (g := g) rfl G O' S₁) fun v2 ρ₂ m₂ news₂ h₂ tk₂ le₂ S₂ rv2 => ?_) (plain_star p3))) rfl) rfl rfl
    walk_at "l"; refine args_cons (callHd_ok (g := g) (s := { s with heap := h₂, toks := tk₂ }) (recN_ok 200) r3 G O' S₂ fun fv ρ₃ m₃ news₃ h₃ tk₃ vs le₃ S₃ ra rc => ?_) (plain_star p4)
    walk_at "e"; cases rc
    have hvs : vs = [.ref wx, ag, .ref lx] := ps_v (is := [1, 3, 2]) ra
    walk_at "e"; subst hvs
    have up := up_all S₃ (nl := lpL2 ++ lpL1) rfl S₃.led
    have N3 : News f.h₀ f.L h₃ ((lx, W.listOf [Value.int L t].toArray 0) :: (news₃ ++ r)) := fun p hp => S₃.N p (by
      walk_at "e"; rcases List.mem_cons.mp hp with rfl | hp
      · walk_at "l"; exact List.mem_append_right _ (.head _)
      · walk_at "l"; exact (List.mem_append.mp hp).elim (fun h => List.mem_append_left _ h) fun h => List.mem_append_right _ (.tail _ h))
    have hlow3 : ∀ p ∈ news₃ ++ r, @LT.lt Nat _ 1 p.1 := fun p hp => (List.mem_append.mp hp).elim (fun h => Nat.lt_trans lx1 (up p h _ (.head _))) (low p)
    have hoff3 : ∀ p ∈ news₃ ++ r, p.1 ≠ lx := fun p hp => (List.mem_append.mp hp).elim (fun h => Nat.ne_of_gt (up p h _ (.head _))) (off p)
    have hg1 : NdIn w (news₃ ++ r) (.glob g0) v1 := ins_mk (i := 0) (d := 1) hV S₃.led rfl rfl rfl (.cons ⟨rfl, fun u h => h.isI (Int.add_zero _), rfl⟩ .nil) ((rv1.mono le₂).mono le₃)
    have hg2 : NdIn w (news₃ ++ r) (.setg g0 (.bool false)) v2 := ins_mk (i := 4) (d := 5) hV S₃.led rfl rfl rfl (.cons ⟨rfl, fun u h => h.isI (Int.add_zero _), rfl⟩ (.cons ⟨rfl, fun u h => mk_val (i := 2) hV S₃.led rfl rfl (fun zz h => h) rfl h, rfl⟩ .nil)) (rv2.mono le₃)
    walk_at "l"; refine says_run (g := g) (f := f) (s := { s with heap := h₃, toks := tk₃ }) (within_says L0 (hag.mono sub_app) hag' lx1 hlow3 hoff3 (List.mem_append_right _ hw) hws hk) O'.toCOk rfl (by decide) S₃.F N3 ?_
    walk_at "l"; rintro u led' h₄ tk₄ F₄ N₄ ⟨L', t', r', sub, L0', hu, hu', sub', low', off'⟩
    walk_at "l"; refine args_nil (newList_K (s := { s with heap := h₄, toks := tk₄ }) F₄ (fun p hp => N₄ p (sub p hp)) ?_ (show (2 : Nat) ≤ sizeLine by rw [sizeLine_eq]; decide))
    walk_at "l"; intro D h₅ F₅ N₅ lt
    let τC : Vt := mkT [] [bv, .ref wx, .ref lx, v1, v2, u, .bool bl] []
    have hVC : ∀ i, handedIn (τC.V i) = true := mkT_V (Is := []) (D := []) (hl_cons hb' (hl_cons rfl (hl_cons rfl (hl_cons (rv1.handed hV rfl) (hl_cons (rv2.handed hV rfl) (hl_cons hu' (hl_cons rfl hl_nil)))))))
    let R' : Ld := (lx, W.listOf [Value.int L' t'].toArray 0) :: r'
    let gC : Gx := ⟨w, τC, wiX w.params, R', (D, W.listOf [v2, u].toArray 0) :: R', 1, [D]⟩
    have GC : gC.Ok := gok0 hVC
    have OC : FOk gC I1666.scope 40 f := O.to rfl rfl
    have e3 : m₃ "body" = some bv := by obtain ⟨x, a, b⟩ := S₃.loc ("body" : Str) (.v 0) rfl; rw [a, show x = bv from b]
    have e4 : m₃ "ways" = some (.ref wx) := by obtain ⟨x, a, b⟩ := S₃.loc ("ways" : Str) (.v 1) rfl; rw [a, show x = .ref wx from b]
    have e5 : m₃ "labels" = some (.ref lx) := by obtain ⟨x, a, b⟩ := S₃.loc ("labels" : Str) (.v 2) rfl; rw [a, show x = .ref lx from b]
    have e6 : m₃ "is_last" = some (.bool bl) := by obtain ⟨x, a, b⟩ := S₃.loc ("is_last" : Str) (.v 6) rfl; rw [a, show x = .bool bl from b]
    have hlowR : ∀ p ∈ R', @LT.lt Nat _ 1 p.1 := List.forall_mem_cons.mpr ⟨lx1, low'⟩
    have S4 : SR gC f [D] ⟨lcC, [(0, .list [.v 4, .v 5] 0)], 1⟩ m₃ [(D, W.listOf [v2, u].toArray 0)] h₅ :=
      sr_mk (τ := τC) (ρ := [D]) (st := ⟨lcC, [(0, .list [.v 4, .v 5] 0)], 1⟩) F₅ N₅ (LocR.cons e3 rfl (LocR.cons e4 rfl (LocR.cons e5 rfl (LocR.cons e6 rfl LocR.nil)))) (.cons ⟨rfl, [v2, u], rfl, .cons rfl (.cons rfl .nil)⟩ .nil) rfl
        (List.forall_mem_cons.mpr ⟨fun q hq => Nat.ne_of_lt (lt q hq), fun zz h => (nomatch h)⟩) (List.pairwise_singleton _ _) .nil (List.forall_mem_cons.mpr ⟨Nat.lt_trans lx1 (lt _ (.head _)), hlowR⟩) (List.cons_ne_nil _ _)
    walk_at "l"; refine args_nil ⟨In_now OC.toCOk S4, ?_⟩
    walk_at "l"; refine seq (g := gC) (f := f) (s := { s with heap := h₅, toks := tk₄ }) ((recN_ok 200).C r4 (g := gC) rfl GC OC.toCOk S4 rfl (.cons ⟨D, rfl, rfl⟩ .nil)) fun v4 ρ₅ m₅ news₅ h₆ tk₆ le₅ S5 rv4 => ?_
    walk_at "l"; refine args_cons (seq (g := gC) (f := f) (s := { s with heap := h₆, toks := tk₆ }) ((recN_ok 200).E r5 (g := gC) rfl GC OC S5) fun v5 ρ₆ m₆ news₆ h₇ tk₇ le₆ S6 rv5 => ?_) (plain_star p2)
    walk_at "l"; refine args_nil ⟨In_now OC.toCOk S6, ?_⟩
    walk_at "l"; refine seq (g := gC) (f := f) (s := { s with heap := h₇, toks := tk₇ }) ((recN_ok 200).C r6 (g := gC) rfl GC OC.toCOk S6 rfl (.cons rfl (.cons (rv4.mono le₆) (.cons rv5 .nil)))) fun v6 ρ₇ m₇ news₇ h₈ tk₈ le₇ S7 rv6 => ?_
    walk_at "l"; refine wpAny_mono (storeW (g := gC) (s := { s with heap := h₈, toks := tk₈ }) OC S7 lp_local rv6) (fun zz s' z => ?_) fun zz zz z => z
    walk_at "e"; obtain ⟨ρ₉, m₉, news₉, h₉, tk₉, le₉, rfl, S9, _⟩ := z
    walk_at "e"; obtain ⟨nw, n2', en, La, Lb⟩ := All2.split (a := lpL5) (b := lpL0) S9.led
    have up9 := up_all S9 (nl := lpL5) rfl La
    have le : Le [D] ρ₉ := (((le₅.trans le₆).trans le₇).trans le₉)
    have hup : ∀ p ∈ news₉, ∀ q ∈ R', @LT.lt Nat _ q.1 p.1 := fun p hp q hq => by
      rw [en] at hp
      walk_at "e"; rcases List.mem_append.mp hp with hp | hp
      · walk_at "l"; exact up9 p hp q (.tail _ hq)
      · walk_at "l"; refine Lb.oc fun x zz e1 f1 L => L.o0 fun e2 => ?_
        rw [e1, e2] at hp
        walk_at "e"; cases List.mem_singleton.mp hp
        have hx := f1.1
        rw [le 0 D rfl] at hx
        walk_at "l"; rw [← Option.some.inj hx]
        walk_at "l"; exact lt q hq
    walk_at "e"; obtain ⟨x1, a1, b1⟩ := S9.loc ("body" : Str) (.a 3) rfl
    have e4 : m₉ "ways" = some (.ref wx) := by obtain ⟨x, a, b⟩ := S9.loc ("ways" : Str) (.v 1) rfl; rw [a, show x = .ref wx from b]
    have e5 : m₉ "labels" = some (.ref lx) := by obtain ⟨x, a, b⟩ := S9.loc ("labels" : Str) (.v 2) rfl; rw [a, show x = .ref lx from b]
    have e6 : m₉ "is_last" = some (.bool bl) := by obtain ⟨x, a, b⟩ := S9.loc ("is_last" : Str) (.v 6) rfl; rw [a, show x = .bool bl from b]
    walk_at "l"; refine q m₉ h₉ tk₉ x1 L' t' (news₉ ++ r') S9.F (fun p hp => S9.N p ?_) a1 e4 e5 e6 L0' ?_ (b1.handed hVC rfl) (fun p hp => List.mem_append_right _ (sub' p (List.mem_append_right _ hp))) ?_ ?_
    · walk_at "e"; rcases List.mem_cons.mp hp with rfl | hp
      · walk_at "l"; exact List.mem_append_right _ (.head _)
      · walk_at "l"; exact (List.mem_append.mp hp).elim (fun h => List.mem_append_left _ h) fun h => List.mem_append_right _ (.tail _ h)
    · have hL : LR w τC ρ₉ lpL6 news₉ := S9.led
      walk_at "l"; exact ins_mk (r := r') (i := 3) (d := 4) (fs := [("test", NdIn w (news₉ ++ r') (.glob g0)), ("yes", NdIn w (news₉ ++ r') (.seq (.setg g0 (.bool false)) (within ws nag))), ("no", NdIn w (news₉ ++ r') nb)]) hVC hL rfl rfl rfl (.cons ⟨rfl, fun u h => h ▸ hg1.mono (fun p hp => List.mem_append_right _ (sub' p hp)), rfl⟩ (.cons ⟨rfl, fun u h => ins_mk (r := r') (i := 1) (d := 2) (fs := [("items", LstP (news₉ ++ r') [NdIn w (news₉ ++ r') (.setg g0 (.bool false)), NdIn w (news₉ ++ r') (within ws nag)])]) hVC hL rfl rfl rfl (.cons ⟨rfl, fun u h => lst_mk (r := r') (i := 0) hVC hL rfl (.cons ⟨fun u h => h ▸ hg2.mono (fun p hp => List.mem_append_right _ (sub' p hp)), rfl⟩ (.cons ⟨fun zz h => h ▸ hu.mono sub_app, rfl⟩ .nil)) h, rfl⟩ .nil) h, rfl⟩ (.cons ⟨rfl, fun u h => h ▸ hb.mono (fun p hp => List.mem_append_right _ (sub' p (List.mem_append_right _ hp))), rfl⟩ .nil))) b1
    · walk_at "l"; exact fun p hp => (List.mem_append.mp hp).elim (fun h => Nat.lt_trans lx1 (hup p h _ (.head _))) (low' p)
    · walk_at "l"; exact fun p hp => (List.mem_append.mp hp).elim (fun h => Nat.ne_of_gt (hup p h _ (.head _))) (off' p)
  · walk_at "l"; show (true && (plainEl (nE (cA lpE) 2) && true)) = true
    walk_at "l"; rw [p2]; rfl
end NT
end
section
open PySem PySem.W PySem.Calls PyProof.Rows
namespace NT
noncomputable def NdO (w : World) (o : Obj) : Prop := (∃ C dx, o = instObj C dx) ∨ (∃ es, DV w es o ∧ 1 ≤ es.length ∧ es.length ≤ 4) ∨ ∃ l : List Value, o = W.listOf l.toArray 0
theorem NdO.it {w : World} {o : Obj} (h : NdO w o) : o.cls ≠ .type "list_iterator" := by
  walk_at "e"; rcases h with ⟨C, dx, rfl⟩ | ⟨es, ⟨des, rfl, _⟩, _⟩ | ⟨l, rfl⟩
  · walk_at "l"; exact fun h => by cases h
  · walk_at "l"; exact fun h => absurd (Value.type.inj h) (by decide)
  · walk_at "l"; exact fun h => absurd (Value.type.inj h) (by decide)
theorem NdO.mach {w : World} {o : Obj} {es : List (Str × Value)} (hD : DV w es o) (hn : es.length = 13) (h : NdO w o) : False := by
  walk_at "e"; obtain ⟨des, rfl, _⟩ := hD
  walk_at "e"; rcases h with ⟨C, dx, e⟩ | ⟨es', ⟨des', e, _⟩, _, h2⟩ | ⟨l, e⟩
  · walk_at "e"; cases congrArg Obj.cls e
  · have := Data.dict.inj (congrArg Obj.data e)
    walk_at "l"; lia
  · walk_at "l"; exact absurd (Value.type.inj (congrArg Obj.cls e)) (by decide)
theorem NdO.flags {w : World} {o : Obj} {kvs : List (Int × Value)} (hD : o.IsDictOf (intKind PW w) kvs) (h : NdO w o) : False := by
  walk_at "e"; obtain ⟨es, ep, hx, hd, hk, hp, _⟩ := hD
  walk_at "e"; rcases h with ⟨C, dx, rfl⟩ | ⟨es', ⟨des, rfl, a⟩, h1, _⟩ | ⟨l, rfl⟩
  · walk_at "e"; cases hd
  · have := Data.dict.inj hd
    walk_at "e"; cases a with
    | nil => walk_at "e"; cases h1
    | @cons _ b _ _ x _ =>
      walk_at "e"; obtain ⟨t, rfl⟩ := x
      walk_at "e"; obtain ⟨k, h, _⟩ := hk _ (by rw [← this.1]; exact List.mem_toArray.mpr (.head _))
      walk_at "e"; cases h
  · walk_at "e"; cases hd
noncomputable abbrev SubT (w : World) (r r' : Ld) : Prop := ∀ p ∈ r, NdO w p.2 → p ∈ r'
theorem InsP.impT {w : World} {r r' : Ld} {C : Nat} {fs fs' : Fd} {v : Value} (h : InsP w r C fs v) (s : SubT w r r') (g : All2 FdI fs fs') (hl : (Nat.ble 1 fs.length && Nat.ble fs.length 4) = true := by rfl) : InsP w r' C fs' v := by
  walk_at "e"; obtain ⟨x, dx, o, es, a, b, c, d, e⟩ := h
  rw [Bool.and_eq_true, e.length] at hl
  walk_at "l"; exact ⟨x, dx, o, es, a, s _ b (.inl ⟨_, _, rfl⟩), s _ c (.inr (.inl ⟨es, d, Nat.le_of_ble_eq_true hl.1, Nat.le_of_ble_eq_true hl.2⟩)), d, all2_comp (fun f e f' h g => ⟨h.1.trans g.1.symm, g.2 _ h.2.1, h.2.2⟩) e g⟩
theorem LstP.impT {w : World} {r r' : Ld} {ps ps' : List (Value → Prop)} {v : Value} (h : LstP r ps v) (s : SubT w r r') (g : All2 (fun p p' : Value → Prop => ∀ u, p u → p' u) ps ps') : LstP r' ps' v := by
  walk_at "e"; obtain ⟨x, l, a, b, c⟩ := h
  walk_at "l"; exact ⟨x, l, a, s _ b (.inr (.inr ⟨l, rfl⟩)), all2_comp (fun f e f' h g => ⟨g _ h.1, h.2⟩) c g⟩
theorem NdIn.filt {w : World} {r r' : Ld} (s : SubT w r r') {n : Nd} : ∀ {v : Value}, NdIn w r n v → NdIn w r' n v := by
  walk_at "l"; induction n with
  | int i => walk_at "l"; exact fun h => h.impT s (.cons .rfl .nil)
  | bool b => walk_at "l"; exact fun h => h.impT s (.cons .rfl .nil)
  | ctl k => walk_at "l"; exact fun h => h.impT s (.cons ⟨rfl, fun zz h => h.impT s (.cons .rfl (.cons .rfl .nil))⟩ .nil)
  | loc => walk_at "l"; exact fun h => h.impT s (.cons .rfl .nil)
  | glob g => walk_at "l"; exact fun h => h.impT s (.cons .rfl .nil)
  | lam0 b ih => walk_at "l"; exact fun h => h.impT s (.cons .rfl (.cons ⟨rfl, fun zz h => h.impT s .nil⟩ (.cons .rfl (.cons ⟨rfl, fun zz => ih⟩ .nil))))
  | lam1 b ih => walk_at "l"; exact fun h => h.impT s (.cons .rfl (.cons ⟨rfl, fun zz h => h.impT s (.cons (fun zz h => h) .nil)⟩ (.cons .rfl (.cons ⟨rfl, fun zz => ih⟩ .nil))))
  | ite a b c i1 i2 i3 => walk_at "l"; exact fun h => h.impT s (.cons ⟨rfl, fun zz => i1⟩ (.cons ⟨rfl, fun zz => i2⟩ (.cons ⟨rfl, fun zz => i3⟩ .nil)))
  | setg g a ih => walk_at "l"; exact fun h => h.impT s (.cons .rfl (.cons ⟨rfl, fun zz => ih⟩ .nil))
  | call0 f ih => walk_at "l"; exact fun h => h.impT s (.cons ⟨rfl, fun zz => ih⟩ (.cons ⟨rfl, fun zz h => h.impT s .nil⟩ .nil))
  | call1 f a i1 i2 => walk_at "l"; exact fun h => h.impT s (.cons ⟨rfl, fun zz => i1⟩ (.cons ⟨rfl, fun zz h => h.impT s (.cons (fun zz => i2) .nil)⟩ .nil))
  | call2 f a b i1 i2 i3 => walk_at "l"; exact fun h => h.impT s (.cons ⟨rfl, fun zz => i1⟩ (.cons ⟨rfl, fun zz h => h.impT s (.cons (fun zz => i2) (.cons (fun zz => i3) .nil))⟩ .nil))
  | seq a b i1 i2 => walk_at "l"; exact fun h => h.impT s (.cons ⟨rfl, fun zz h => h.impT s (.cons (fun zz => i1) (.cons (fun zz => i2) .nil))⟩ .nil)
theorem FixIn.filt {w : World} {r r' : Ld} (s : SubT w r r') {b : Nd} {v : Value} (h : FixIn w r b v) : FixIn w r' b v :=
  InsP.impT h s (.cons ⟨rfl, fun zz h => h.impT s (.cons (fun zz h => h) .nil)⟩ (.cons ⟨rfl, fun zz h => h.impT s (.cons (fun zz h => NdIn.filt s h) .nil)⟩ (.cons ⟨rfl, fun zz h => NdIn.filt s h⟩ .nil)))
noncomputable section
noncomputable def lcA (b : Bool) : List (Str × SV) := [("symbol", .int 1 0), ("body", .v 0), ("ways", .v 1), ("labels", .v 2), ("is_last", .bool b)]
noncomputable def agL1 : List (Nat × SO) := [(3, .inst 741 4), (4, .dict [("operator", .a 0), ("operands", .a 2)] 2), (2, .list [] 0), (0, .inst 576 1), (1, .dict [("number", .int 0 1)] 1)]
noncomputable def agL2 : List (Nat × SO) := [(8, .inst 774 9), (9, .dict [("items", .a 7)] 1), (7, .list [.a 3, .a 5] 0), (5, .inst 557 6), (6, .dict [("value", .int 0 7)] 1)] ++ agL1
noncomputable def ag1 (P : Params) (b : Bool) : Option (SF × SS) := (recN (wiX P) 200).S I1666.scope 40 (nth lpB 0) ⟨lcA b, [], 0⟩
noncomputable def ag2 (P : Params) (b : Bool) : Option (SF × SS) := (recN (wiX P) 200).S I1666.scope 40 (nth lpB 1) ⟨("again", .a 3) :: lcA b, agL1, 5⟩
noncomputable def agO : Bool → SS
  | true => ⟨("again", .a 3) :: lcA true, agL1, 5⟩
  | false => ⟨("again", .a 8) :: ("again", .a 3) :: lcA false, agL2, 10⟩
theorem ag_runs (P : Params) : (ag1 P true, ag1 P false, ag2 P true, ag2 P false) = (some (.next, ⟨("again", .a 3) :: lcA true, agL1, 5⟩), some (.next, ⟨("again", .a 3) :: lcA false, agL1, 5⟩), some (.next, agO true), some (.next, agO false)) := by kernel_rfl
theorem ag1_run (P : Params) : ∀ b, ag1 P b = some (.next, ⟨("again", .a 3) :: lcA b, agL1, 5⟩)
  | true => congrArg Prod.fst (ag_runs P)
  | false => congrArg (fun x => x.2.1) (ag_runs P)
theorem ag2_run (P : Params) : ∀ b, ag2 P b = some (.next, agO b)
  | true => congrArg (fun x => x.2.2.1) (ag_runs P)
  | false => congrArg (fun x => x.2.2.2) (ag_runs P)
noncomputable def agJ : Bool → Nat
  | true => 3
  | false => 8
noncomputable def pgE (P : Params) : Option (SV × SS) := (recN (wiX P) 200).E I1666.scope 40 (forI (nth I1666.body 2)) ⟨[("symbols", .v 3), ("body", .v 0), ("ways", .v 1), ("labels", .v 2), ("is_last", .v 4)], [], 0⟩
noncomputable def pg0 (P : Params) : Option (SF × SS) := (recN (wiX P) 200).S I1666.scope 40 (nth I1666.body 0) ⟨[("symbols", .v 0), ("ways", .v 1), ("is_last", .v 2)], [], 0⟩
noncomputable def pg1 (P : Params) : Option (SF × SS) := (recN (wiX P) 200).S I1666.scope 40 (nth I1666.body 1) ⟨[("labels", .a 0), ("symbols", .v 0), ("ways", .v 1), ("is_last", .v 2)], [(0, .list [.int 0 10] 0)], 1⟩
noncomputable def pg3 (P : Params) : Option (SF × SS) := (recN (wiX P) 200).B I1666.scope 40 [nth I1666.body 3] ⟨[("body", .v 0)], [], 0⟩
noncomputable def pgL : List (Nat × SO) := [(10, .inst 807 11), (11, .dict [("numbers", .a 0), ("lambdas", .a 4), ("body", .a 8)] 3), (8, .inst 741 9), (9, .dict [("operator", .a 5), ("operands", .a 7)] 2), (7, .list [] 0), (5, .inst 576 6), (6, .dict [("number", .int 0 1)] 1), (4, .list [.a 2] 0), (2, .inst 708 3), (3, .dict [("label", .int 0 1), ("params", .a 1), ("rest", .int 0 (-1)), ("body", .v 0)] 4), (1, .list [] 0), (0, .list [.int 0 1] 0)]
theorem pg_runs (P : Params) : (pgE P, pg0 P, pg1 P, pg3 P) = (some (.v 3, ⟨[("symbols", .v 3), ("body", .v 0), ("ways", .v 1), ("labels", .v 2), ("is_last", .v 4)], [], 0⟩), some (.next, ⟨[("labels", .a 0), ("symbols", .v 0), ("ways", .v 1), ("is_last", .v 2)], [(0, .list [.int 0 10] 0)], 1⟩),
  some (.next, ⟨[("body", .a 1), ("labels", .a 0), ("symbols", .v 0), ("ways", .v 1), ("is_last", .v 2)], [(1, .inst 557 2), (2, .dict [("value", .int 0 7)] 1), (0, .list [.int 0 10] 0)], 3⟩), some (.ret (.a 10), ⟨[("body", .v 0)], pgL, 12⟩)) := by kernel_rfl
end
end NT
end
section
open PySem PySem.W PySem.Calls PyProof.Rows
namespace NT
theorem ag_post {w : World} {τ : Vt} {ρ : List Addr} {r nw : Ld} (hV : ∀ i, handedIn (τ.V i) = true) : ∀ (bl : Bool), LR w τ ρ (agO bl).led nw → ∀ u, VR τ ρ (.a (agJ bl)) u → NdIn w (nw ++ r) (again bl) u
  | true, R, u, h => ins_mk (i := 3) (d := 4) (fs := [("operator", NdIn w (nw ++ r) .loc), ("operands", LstP (nw ++ r) [])]) hV R rfl rfl rfl (.cons ⟨rfl, fun u h => ins_mk (i := 0) (d := 1) (fs := [("number", IsI 1)]) hV R rfl rfl rfl (.cons ⟨rfl, fun zz h => h, rfl⟩ .nil) h, rfl⟩ (.cons ⟨rfl, fun u h => lst_mk (i := 2) hV R rfl .nil h, rfl⟩ .nil)) h
  | false, R, u, h => ins_mk (i := 8) (d := 9) (fs := [("items", LstP (nw ++ r) [NdIn w (nw ++ r) (.call0 .loc), NdIn w (nw ++ r) (.int 7)])]) hV R rfl rfl rfl (.cons ⟨rfl, fun u h => lst_mk (i := 7) hV R rfl (.cons ⟨fun u h => ins_mk (i := 3) (d := 4) (fs := [("operator", NdIn w (nw ++ r) .loc), ("operands", LstP (nw ++ r) [])]) hV R rfl rfl rfl (.cons ⟨rfl, fun u h => ins_mk (i := 0) (d := 1) (fs := [("number", IsI 1)]) hV R rfl rfl rfl (.cons ⟨rfl, fun zz h => h, rfl⟩ .nil) h, rfl⟩ (.cons ⟨rfl, fun u h => lst_mk (i := 2) hV R rfl .nil h, rfl⟩ .nil)) h, rfl⟩ (.cons ⟨fun u h => mk_val (i := 5) hV R rfl rfl (fun zz h => h) rfl h, rfl⟩ .nil)) h, rfl⟩ .nil) h
theorem execs_lpB {env : Env} : execs lpB env = execs [nth lpB 0, nth lpB 1, nth lpB 2] env := congrArg (execs · env) bb_lp
theorem ag_loc : ∀ bl : Bool, (agO bl).loc.lookup ("again" : Str) = some (.a (agJ bl)) ∧ (agO bl).loc.lookup ("symbol" : Str) = some (.int 1 0) ∧ (agO bl).loc.lookup ("body" : Str) = some (.v 0) ∧ (agO bl).loc.lookup ("ways" : Str) = some (.v 1) ∧ (agO bl).loc.lookup ("labels" : Str) = some (.v 2) ∧ (agO bl).loc.lookup ("is_last" : Str) = some (.bool bl)
  | true => ⟨rfl, rfl, rfl, rfl, rfl, rfl⟩
  | false => ⟨rfl, rfl, rfl, rfl, rfl, rfl⟩
theorem ag_hand : ∀ bl : Bool, (agO bl).led.all (fun p => Nat.ble 0 p.1) = true
  | true => rfl
  | false => rfl
set_option tactic.hygienic true in
theorem lp_loop {w : World} {f : Fx} {Q : Flow → Shared → Prop} {s : Shared} {I lx wx : Addr} {sp : Addr × Obj} {ws : List Int} {l : List Value} {c : Nat} {bl : Bool} (hI : @LT.lt Nat _ 1 I) (O : FOk (gB w) I1666.scope 40 f) (hws : All2 LiR (ws.map IsI) l) (hk : ∀ k ∈ ws, 0 ≤ k ∧ k < 5) (hsp : sp.2.cls ≠ .type "list_iterator") :
    ∀ (j k : Nat) (ls : List Value) (hls : All2 LiR ((List.range' k j).map fun i : Nat => IsI (i : Int)) ls) (bv : Value) (L : Int) (t : Tok) (m : Str → Option Value) (r : Ld)
    (B : WiS w lx I L (bodyN ws bl k) bv r) (hs : sp ∈ r) (hw : (wx, W.listOf l.toArray c) ∈ r) (m3 : m "body" = some bv) (m4 : m "ways" = some (.ref wx)) (m5 : m "labels" = some (.ref lx)) (m6 : m "is_last" = some (.bool bl))
    (q : ∀ m' h tk nv' L' t' r', Fr f.h₀ f.L h m' → News f.h₀ f.L h ((lx, W.listOf [Value.int L' t'].toArray 0) :: r') → WiS w lx I L' (bodyN ws bl (k + j)) nv' r' → Sub r r' → m' "body" = some nv' → Q .next { s with heap := h, toks := tk }),
    ListRest PW w f.A f.E f.h₀ f.env "symbol" lpB Q s I sp ls m ((lx, W.listOf [Value.int L t].toArray 0) :: r) := by
  walk_at "l"; intro j
  have hL := locals_L O
  walk_at "l"; induction j with
  | zero =>
    walk_at "l"; intro k ls hls bv L t m r B hs hw m3 m4 m5 m6 q
    walk_at "e"; cases hls
    walk_at "l"; refine ListRest.zero fun h' tk F N => ?_
    rw [hL] at F N
    walk_at "l"; exact q m h' tk bv L t r F N B (fun zz h => h) m3
  | succ j ih =>
    walk_at "l"; intro k ls hls bv L t m r B hs hw m3 m4 m5 m6 q
    rw [List.range'_succ, List.map_cons] at hls
    walk_at "e"; cases hls with
    | cons a hls =>
      rename_i v l'
      walk_at "e"; obtain ⟨⟨tv, rfl⟩, _⟩ := a
      walk_at "l"; refine ListRest.succ fun it h' tk hit F' N' => ?_
      walk_at "l"; rw [hL] at F' N' ⊢
      walk_at "l"; rw [execs_lpB]
      let τ : Vt := mkT [(k : Int)] [bv, .ref wx, .ref lx] []
      have hV : ∀ i, handedIn (τ.V i) = true := mkT_V (Is := [(k : Int)]) (D := []) (hl_cons B.hh (hl_cons rfl (hl_cons rfl hl_nil)))
      let R : Ld := (lx, W.listOf [Value.int L t].toArray 0) :: (I, it) :: r
      let g : Gx := ⟨w, τ, wiX w.params, R, R, 0, []⟩
      have G : g.Ok := gok0 hV
      have O' : FOk g I1666.scope 40 f := O.to rfl rfl
      have hlow : ∀ p ∈ R, @LT.lt Nat _ 1 p.1 := List.forall_mem_cons.mpr ⟨B.lx1, List.forall_mem_cons.mpr ⟨hI, B.low⟩⟩
      have S : SR g f [] ⟨lcA bl, [], 0⟩ (fun y => if y = "symbol" then some (.int k tv) else m y) [] h' :=
        sr_mk0 (τ := τ) F' (fun p hp => N' p (by
          walk_at "e"; rcases List.mem_cons.mp hp with rfl | hp
          · walk_at "l"; exact .tail _ (.head _)
          · walk_at "e"; rcases List.mem_cons.mp hp with rfl | hp
            · walk_at "l"; exact .head _
            · walk_at "l"; exact .tail _ (.tail _ hp))) (LocR.cons (if_pos rfl) ⟨tv, by show Value.int k tv = .int ((k : Int) + 0) tv; rw [Int.add_zero]⟩ (LocR.cons ((if_neg (by decide)).trans m3) rfl (LocR.cons ((if_neg (by decide)).trans m4) rfl (LocR.cons ((if_neg (by decide)).trans m5) rfl (LocR.cons ((if_neg (by decide)).trans m6) rfl LocR.nil))))) rfl .nil hlow (List.cons_ne_nil _ _)
      have g1 := ag1_run w.params bl
      have g2 := ag2_run w.params bl
      unfold ag1 at g1
      unfold ag2 at g2
      walk_at "l"; refine wpAny_execs_cons (seq (g := g) (f := f) (s := { s with heap := h', toks := tk }) ((recN_ok 200).S g1 (g := g) rfl G O' S) fun fl ρ₁ m₁ news₁ h₁ tk₁ le S₁ rv => ?_)
      walk_at "e"; cases rv
      walk_at "l"; refine wpAny_execs_cons (seq (g := g) (f := f) (s := { s with heap := h₁, toks := tk₁ }) ((recN_ok 200).S g2 (g := g) rfl G O' S₁) fun fl ρ₂ m₂ news₂ h₂ tk₂ le₂ S₂ rv => ?_)
      walk_at "e"; cases rv
      walk_at "e"; obtain ⟨l1, l2, l3, l4, l5, l6⟩ := ag_loc bl
      walk_at "e"; obtain ⟨ag, c1, d1⟩ := S₂.loc _ _ l1
      walk_at "e"; obtain ⟨x2, c2, t2, d2⟩ := S₂.loc _ _ l2
      walk_at "e"; obtain ⟨x3, c3, d3⟩ := S₂.loc _ _ l3
      walk_at "e"; obtain ⟨x4, c4, d4⟩ := S₂.loc _ _ l4
      walk_at "e"; obtain ⟨x5, c5, d5⟩ := S₂.loc _ _ l5
      walk_at "e"; obtain ⟨x6, c6, d6⟩ := S₂.loc _ _ l6
      rw [d2, show τ.iv 1 0 = (k : Int) from Int.add_zero _] at c2
      rw [show x3 = bv from d3] at c3
      rw [show x4 = .ref wx from d4] at c4
      rw [show x5 = .ref lx from d5] at c5
      rw [show x6 = .bool bl from d6] at c6
      have up := up_all S₂ (nl := (agO bl).led) (ag_hand bl) S₂.led
      have upl : ∀ p ∈ news₂, @LT.lt Nat _ lx p.1 := fun p hp => up p hp _ (.head _)
      have low2 : ∀ p ∈ news₂ ++ (I, it) :: r, @LT.lt Nat _ 1 p.1 := fun p hp => (List.mem_append.mp hp).elim (fun h => Nat.lt_trans B.lx1 (upl p h)) (fun h => hlow p (.tail _ h))
      have off2 : ∀ p ∈ news₂ ++ (I, it) :: r, p.1 ≠ lx := fun p hp => (List.mem_append.mp hp).elim (fun h => Nat.ne_of_gt (upl p h)) ((List.forall_mem_cons (p := fun p : Addr × Obj => p.1 ≠ lx)).mpr ⟨B.lI.symm, B.off⟩ p)
      have sub2 : Sub r (news₂ ++ (I, it) :: r) := fun p hp => List.mem_append_right _ (.tail _ hp)
      walk_at "l"; refine wpAny_execs_cons (lp_stmt (s := { s with heap := h₂, toks := tk₂ }) (r := news₂ ++ (I, it) :: r) (lx := lx) (L := L) (t := t) O S₂.F (fun p hp => S₂.N p ?_) c1 c2 c3 c4 c5 c6 B.L0 (ag_post hV bl S₂.led ag d1) (d1.handed hV rfl) (B.hn.mono sub2) B.hh B.lx1 low2 off2 (sub2 _ hw) hws hk ?_)
      · walk_at "e"; rcases List.mem_cons.mp hp with rfl | hp
        · walk_at "l"; exact List.mem_append_right _ (.head _)
        · walk_at "l"; exact (List.mem_append.mp hp).elim (fun h => List.mem_append_left _ h) fun h => List.mem_append_right _ (.tail _ h)
      · walk_at "l"; intro m' h₃ tk₃ v L' t' r' F3 N3 e3 e4 e5 e6 L0' hv hv' sub' low' off'
        walk_at "l"; refine wpAny_execs_nil ?_
        have hIt : (I, it) ∈ r' := sub' _ (List.mem_append_right _ (.head _))
        have key : ∀ p ∈ r', NdO w p.2 → p.1 ≠ I := fun p hp hc e => by
          have a := (N3 p (.tail _ hp)).1
          have b := (N3 _ (.tail _ hIt)).1
          rw [e] at a
          walk_at "l"; exact hc.it (by rw [Option.some.inj (a.symm.trans b)]; exact hit)
        let r'' : Ld := r'.filter fun p => Nat.beq p.1 I == false
        have mem'' : ∀ p ∈ r', p.1 ≠ I → p ∈ r'' := fun p hp hn => List.mem_filter.mpr ⟨hp, by
          walk_at "l"; cases hq : Nat.beq p.1 I with
          | true => walk_at "l"; exact absurd (Nat.eq_of_beq_eq_true hq) hn
          | false => walk_at "l"; rfl⟩
        have of'' : ∀ p ∈ r'', p ∈ r' ∧ p.1 ≠ I := fun p hp => ⟨(List.mem_filter.mp hp).1, fun e => by
          have := (List.mem_filter.mp hp).2
          rw [e, Nat.beq_refl] at this
          walk_at "e"; cases this⟩
        have hr'' : Sub r r'' := fun p hp => mem'' p (sub' p (sub2 p hp)) (B.oI p hp)
        have B'' : WiS w lx I L' (bodyN ws bl (k + 1)) v r'' := ⟨L0', NdIn.filt (fun p hp hc => mem'' p hp (key p hp hc)) hv, hv', B.lx1, fun p hp => low' p (of'' p hp).1, fun p hp => off' p (of'' p hp).1, B.lI, fun p hp => (of'' p hp).2⟩
        walk_at "l"; refine UnrEnd.intro F3 N3 ((lx, W.listOf [Value.int L' t'].toArray 0) :: r'') ?_ ?_ ⟨.tail _ (hr'' _ hs), ih (k + 1) _ hls v L' t' m' r'' B'' (hr'' _ hs) (hr'' _ hw) e3 e4 e5 e6 fun m' h tk nv' L' t' r3 F N B3 sub3 e => q m' h tk nv' L' t' r3 F N (by rw [show k + (j + 1) = k + 1 + j by lia]; exact B3) (fun p hp => sub3 p (hr'' p hp)) e⟩
        · walk_at "l"; intro p hp
          walk_at "e"; rcases List.mem_cons.mp hp with rfl | hp
          · walk_at "l"; exact .tail _ hIt
          · walk_at "e"; rcases List.mem_cons.mp hp with rfl | hp
            · walk_at "l"; exact .head _
            · walk_at "l"; exact .tail _ (of'' p hp).1
        · walk_at "l"; exact List.forall_mem_cons.mpr ⟨B.lI, B''.oI⟩
end NT
end
section
open PySem PySem.W PySem.Calls PyProof.Rows
namespace NT
theorem pair_last {p : Addr × Obj} {l : Ld} (h : (l ++ [p]).Pairwise fun p q => q.1 ≠ p.1) : ∀ q ∈ l, q.1 ≠ p.1 := fun q hq => ((List.pairwise_append.mp h).2.2 q hq p (.head _)).symm
inductive PrR (w : World) (ws : List Int) (bl : Bool) (n : Nat) (r : Ld) (u : Value) (ld : Ld) : Prop
  | mk (r') : (Sub r' ld) → (Sub r r') → (FixIn w r' (bodyN ws bl n) u) → (handedIn u = true) → (∀ p ∈ r', @LT.lt Nat _ 1 p.1) → PrR w ws bl n r u ld
theorem program_says {w : World} {r : Ld} {sx wx : Addr} {bl : Bool} {ls l : List Value} {cs c n : Nat} {ws : List Int} (hs : (sx, W.listOf ls.toArray cs) ∈ r) (hls : All2 LiR ((List.range' 0 n).map fun i : Nat => IsI (i : Int)) ls) (hw : (wx, W.listOf l.toArray c) ∈ r) (hws : All2 LiR (ws.map IsI) l)
    (hk : ∀ k ∈ ws, 0 ≤ k ∧ k < 5) (low : ∀ p ∈ r, @LT.lt Nat _ 1 p.1) : Says w 41 1666 [.ref sx, .ref wx, .bool bl] r (PrR w ws bl n r) := by
  walk_at "l"; refine says_enter (kd := 40) (fi1666 _) (binds := [("symbols", .v 0), ("ways", .v 1), ("is_last", .v 2)]) rfl rfl ?_
  walk_at "l"; intro f h₁ tk₁ m s O F N hmm
  have m1 := hmm "symbols" 0 _ rfl rfl
  have m2 := hmm "ways" 1 _ rfl rfl
  have m3 := hmm "is_last" 2 _ rfl rfl
  walk_at "l"; rw [b1666]
  have hr := pg_runs w.params
  have rE : pgE w.params = _ := congrArg Prod.fst hr
  have r0 : pg0 w.params = _ := congrArg (fun x => x.2.1) hr
  have r1 : pg1 w.params = _ := congrArg (fun x => x.2.2.1) hr
  have r3 : pg3 w.params = _ := congrArg (fun x => x.2.2.2) hr
  dsimp only at rE r0 r1 r3
  let τ : Vt := mkT [] [.ref sx, .ref wx, .bool bl] []
  have hV : ∀ i, handedIn (τ.V i) = true := mkT_V (Is := []) (D := []) (hl_cons rfl (hl_cons rfl (hl_cons rfl hl_nil)))
  let g : Gx := ⟨w, τ, wiX w.params, r, r, 0, []⟩
  have G : g.Ok := gok0 hV
  have O' : FOk g I1666.scope 40 f := O.to rfl rfl
  walk_at "l"; refine wpAny_execs_cons (seq (g := g) (f := f) (s := { s with heap := h₁, toks := tk₁ }) ((recN_ok 200).S r0 (g := g) rfl G O' (sr_mk0 (τ := τ) F N (LocR.cons m1 rfl (LocR.cons m2 rfl (LocR.cons m3 rfl LocR.nil))) rfl .nil low (List.ne_nil_of_mem hs))) fun fl ρ₁ m₁ news₁ h₂ tk₂ le S₁ rv => ?_)
  walk_at "e"; cases rv
  walk_at "l"; refine wpAny_execs_cons (seq (g := g) (f := f) (s := { s with heap := h₂, toks := tk₂ }) ((recN_ok 200).S r1 (g := g) rfl G O' S₁) fun fl ρ₂ m₂ news₂ h₃ tk₃ le₂ S₂ rv => ?_)
  walk_at "e"; cases rv
  walk_at "e"; obtain ⟨nw, n2, en, La, Lb⟩ := All2.split (a := ([(1, .inst 557 2), (2, .dict [("value", .int 0 7)] 1)] : List (Nat × SO))) (b := ([(0, .list [.int 0 10] 0)] : List (Nat × SO))) S₂.led
  walk_at "l"; refine Lb.oc fun q1 zz e1 f1 L => L.o0 fun e2 => ?_
  walk_at "e"; subst e2 e1
  walk_at "e"; obtain ⟨lx, ol⟩ := q1
  walk_at "e"; obtain ⟨a1, us, ho, a3⟩ := f1
  dsimp only at a1 ho
  walk_at "e"; obtain ⟨t', ho⟩ : ∃ t', ol = W.listOf [Value.int 10 t'].toArray 0 := by
    walk_at "l"; refine a3.oc fun u zz e4 f4 L3 => L3.o0 fun e5 => ?_
    walk_at "e"; obtain ⟨t', f4⟩ := f4
    walk_at "l"; exact ⟨t', by rw [ho, e4, e5, f4]; rfl⟩
  rw [ho] at en
  have up : ∀ p ∈ news₂, ∀ q ∈ r, @LT.lt Nat _ q.1 p.1 := fun p hp => up_all S₂ (nl := ([(1, .inst 557 2), (2, .dict [("value", .int 0 7)] 1), (0, .list [.int 0 10] 0)] : List (Nat × SO))) rfl S₂.led p hp
  have hlx : ∀ q ∈ r, @LT.lt Nat _ q.1 lx := fun q hq => up (lx, W.listOf [Value.int 10 t'].toArray 0) (by rw [en]; exact List.mem_append_right _ (.head _)) q hq
  have hnw : ∀ p ∈ nw, p ∈ news₂ := fun p hp => by rw [en]; exact List.mem_append_left _ hp
  have lx1 : @LT.lt Nat _ 1 lx := Nat.lt_trans (low _ hs) (hlx _ hs)
  have low2 : ∀ p ∈ nw ++ r, @LT.lt Nat _ 1 p.1 := fun p hp => (List.mem_append.mp hp).elim (fun h => Nat.lt_trans (low _ hs) (up p (hnw p h) _ hs)) (low p)
  have off2 : ∀ p ∈ nw ++ r, p.1 ≠ lx := fun p hp => (List.mem_append.mp hp).elim (fun h => pair_last (p := (lx, W.listOf [Value.int 10 t'].toArray 0)) (by have := S₂.nd; rwa [en] at this) p h) (fun h => Nat.ne_of_lt (hlx p h))
  walk_at "e"; obtain ⟨bv, c1, d1⟩ := S₂.loc ("body" : Str) (.a 1) rfl
  walk_at "e"; obtain ⟨x2, c2, y2, d2, rfl⟩ := S₂.loc ("labels" : Str) (.a 0) rfl
  rw [a1] at d2; walk_at "e"; cases d2
  walk_at "e"; obtain ⟨x3, c3, d3⟩ := S₂.loc ("symbols" : Str) (.v 0) rfl
  walk_at "e"; obtain ⟨x4, c4, d4⟩ := S₂.loc ("ways" : Str) (.v 1) rfl
  walk_at "e"; obtain ⟨x5, c5, d5⟩ := S₂.loc ("is_last" : Str) (.v 2) rfl
  rw [show x3 = .ref sx from d3] at c3
  rw [show x4 = .ref wx from d4] at c4
  rw [show x5 = .bool bl from d5] at c5
  have hbv : NdIn w (nw ++ r) (.int 7) bv := mk_val (i := 1) hV La rfl rfl (fun zz h => h) rfl d1
  have hbh : handedIn bv = true := d1.handed hV rfl
  let τ2 : Vt := mkT [] [bv, .ref wx, .ref lx, .ref sx, .bool bl] []
  have hV2 : ∀ i, handedIn (τ2.V i) = true := mkT_V (Is := []) (D := []) (hl_cons hbh (hl_cons rfl (hl_cons rfl (hl_cons rfl (hl_cons rfl hl_nil)))))
  let R2 : Ld := (lx, W.listOf [Value.int 10 t'].toArray 0) :: (nw ++ r)
  have N2 : News f.h₀ f.L h₃ R2 := fun p hp => S₂.N p (by
    walk_at "e"; rcases List.mem_cons.mp hp with rfl | hp
    · walk_at "l"; exact List.mem_append_left _ (by rw [en]; exact List.mem_append_right _ (.head _))
    · walk_at "l"; exact (List.mem_append.mp hp).elim (fun h => List.mem_append_left _ (hnw p h)) fun h => List.mem_append_right _ h)
  let g2 : Gx := ⟨w, τ2, wiX w.params, R2, R2, 0, []⟩
  walk_at "l"; refine wpAny_execs_cons (for_list (g := g2) (s := { s with heap := h₃, toks := tk₃ }) (O.to rfl rfl) S₂.F rfl rfl ?_)
  walk_at "l"; refine seq (g := g2) (f := f) (s := { s with heap := h₃, toks := tk₃ }) ((recN_ok 200).E rE (g := g2) rfl (gok0 hV2) (O.to rfl rfl) (sr_mk0 (τ := τ2) S₂.F N2 (LocR.cons c3 rfl (LocR.cons c1 rfl (LocR.cons c4 rfl (LocR.cons c2 rfl (LocR.cons c5 rfl LocR.nil))))) rfl .nil (List.forall_mem_cons.mpr ⟨lx1, low2⟩) (List.cons_ne_nil _ _))) fun v ρ₃ m₃ news₃ h₄ tk₄ le₃ S₃ rv => ?_
  have hn3 := all2_nil S₃.led
  walk_at "e"; subst hn3
  walk_at "e"; obtain ⟨x1, b1, z1⟩ := S₃.loc ("body" : Str) (.v 0) rfl
  walk_at "e"; obtain ⟨x4, b4, z4⟩ := S₃.loc ("ways" : Str) (.v 1) rfl
  walk_at "e"; obtain ⟨x2, b2, z2⟩ := S₃.loc ("labels" : Str) (.v 2) rfl
  walk_at "e"; obtain ⟨x5, b5, z5⟩ := S₃.loc ("is_last" : Str) (.v 4) rfl
  rw [show x1 = bv from z1] at b1
  rw [show x4 = .ref wx from z4] at b4
  rw [show x2 = .ref lx from z2] at b2
  rw [show x5 = .bool bl from z5] at b5
  walk_at "l"; refine ⟨sx, _, ls, cs, h₄, tk₄, m₃, _, rfl, rv, S₃.F, S₃.N, .tail _ (List.mem_append_right _ hs), rfl, rfl, fun I lt => lp_loop (bl := bl) (Nat.lt_trans lx1 (lt _ (.head _))) O hws hk (fun h => absurd (Value.type.inj h) (by decide)) n 0 ls hls bv 10 t' m₃ (nw ++ r) ⟨by decide, hbv, hbh, lx1, low2, off2, Nat.ne_of_lt (lt _ (.head _)), fun p hp => Nat.ne_of_lt (lt p (.tail _ hp))⟩ (List.mem_append_right _ hs) (List.mem_append_right _ hw) b1 b4 b2 b5 ?_⟩
  walk_at "l"; intro m' h tk nv' L' t'' r' F' N' B sub e
  rw [Nat.zero_add] at B
  let g' : Gx := ⟨w, mkT [] [nv'] [], wiX w.params, (lx, W.listOf [Value.int L' t''].toArray 0) :: r', (lx, W.listOf [Value.int L' t''].toArray 0) :: r', 0, []⟩
  have hV' : ∀ i, handedIn ((mkT [] [nv'] []).V i) = true := mkT_V (hl_cons B.hh hl_nil)
  walk_at "l"; refine seq (g := g') (f := f) (s := { s with heap := h, toks := tk }) ((recN_ok 200).B r3 (g := g') rfl (gok0 hV') (O.to rfl rfl) (sr_mk0 (τ := mkT [] [nv'] []) F' N' (LocR.cons e rfl LocR.nil) rfl .nil (List.forall_mem_cons.mpr ⟨B.lx1, B.low⟩) (List.cons_ne_nil _ _))) fun fl ρ₅ m₅ news₅ h₅ tk₅ le₅ S₅ rv => ?_
  walk_at "e"; obtain ⟨u, rfl, hu⟩ := rv
  have up5 := up_all S₅ (nl := pgL) rfl S₅.led
  have R : LR w (mkT [] [nv'] []) ρ₅ pgL news₅ := S₅.led
  have hfix : FixIn w (news₅ ++ r') (bodyN ws bl n) u := ins_mk (r := r') (i := 10) (d := 11) (fs := [("numbers", LstP (news₅ ++ r') [IsI 1]), ("lambdas", LstP (news₅ ++ r') [NdIn w (news₅ ++ r') (.lam0 (bodyN ws bl n))]), ("body", NdIn w (news₅ ++ r') (.call0 .loc))]) hV' R rfl rfl rfl
    (.cons ⟨rfl, fun u h => lst_mk (r := r') (i := 0) hV' R rfl (.cons ⟨fun zz h => h, rfl⟩ .nil) h, rfl⟩ (.cons ⟨rfl, fun u h => lst_mk (r := r') (i := 4) hV' R rfl (.cons ⟨fun u h => mk_lam (r := r') (i := 2) (ps := []) (nd := bodyN ws bl n) hV' R rfl rfl rfl rfl (fun u h => lst_mk (r := r') (i := 1) hV' R rfl .nil h) rfl (fun u h => h ▸ B.hn.mono sub_app) rfl h, rfl⟩ .nil) h, rfl⟩
      (.cons ⟨rfl, fun u h => ins_mk (r := r') (i := 8) (d := 9) (fs := [("operator", NdIn w (news₅ ++ r') .loc), ("operands", LstP (news₅ ++ r') [])]) hV' R rfl rfl rfl (.cons ⟨rfl, fun u h => ins_mk (r := r') (i := 5) (d := 6) (fs := [("number", IsI 1)]) hV' R rfl rfl rfl (.cons ⟨rfl, fun zz h => h, rfl⟩ .nil) h, rfl⟩ (.cons ⟨rfl, fun u h => lst_mk (r := r') (i := 7) hV' R rfl .nil h, rfl⟩ .nil)) h, rfl⟩ .nil))) hu
  walk_at "l"; refine ⟨m₅, _, h₅, tk₅, rfl, S₅.F, S₅.N, news₅ ++ r', ?_, fun p hp => List.mem_append_right _ (sub p (List.mem_append_right _ hp)), hfix, hu.handed hV' rfl, ?_⟩
  · walk_at "l"; exact fun p hp => (List.mem_append.mp hp).elim (fun h => List.mem_append_left _ h) fun h => List.mem_append_right _ (.tail _ h)
  · walk_at "l"; exact fun p hp => (List.mem_append.mp hp).elim (fun h => Nat.lt_trans B.lx1 (up5 p h _ (.head _))) (B.low p)
end NT
end
section
open PySem PySem.W PySem.Calls PyProof.Rows
namespace NT
theorem bindL_look {kf : Str → Option NameKind} {x : Str} : ∀ (b : List (Str × Value)) (m : Str → Option Value), (∀ y ∈ b, kf y.1 = some .local) → bindL kf b m x = (b.reverse.lookup x).or (m x)
  | [], m, _ => rfl
  | (n, v) :: r, m, h => by
    walk_at "l"; unfold bindL
    walk_at "l"; rw [bindL_look r _ fun y hy => h y (.tail _ hy), if_pos (h _ (.head _)), List.reverse_cons, List.lookup_append, Option.or_assoc]
    walk_at "l"; congr 1
    walk_at "l"; rw [List.lookup_cons]
    walk_at "e"; by_cases e : x = n
    · walk_at "l"; rw [if_pos e, e, beq_self_eq_true]; rfl
    · walk_at "l"; rw [if_neg e, beq_eq_false_iff_ne.mpr e]; rfl
theorem says_enterC {w : World} {kd fa : Nat} {I : FnI} {vs : List Value} {led : Ld} {Ret : Value → Ld → Prop} {binds : List (Str × SV)} {x : Str} (hI : fnInfoC (K w.params) fa = some I) (hb : bindS I.p I.dV (argV vs.length) = some binds) (hl : (binds.all fun y => isLocal I.scope y.1) = true)
    (hcl : ∀ n, cellsFrom n I.scope.names [] = [(x, n)])
    (body : ∀ (f : Fx) (h₁ : Heap) (tk₁ : Nat) (m : Str → Option Value) (s : Shared) (c : Addr) (o : Obj) (v0 : Option Value), FOk (gB w) I.scope kd f → (∃ cn a ccd, f.env = envX cn I.scope f.L a ccd [(x, c)]) → Fr f.h₀ f.L h₁ m → News f.h₀ f.L h₁ ((c, o) :: led) → (∀ p ∈ led, @LT.lt Nat _ p.1 c) → o.data = .cell v0 →
      (∀ x i v, binds.reverse.lookup x = some (.v i) → vs[i]? = some v → m x = some v) →
      wpAny (model PW w) f.A (execs I.body f.env) (EndP f s Ret) f.E { s with heap := h₁, toks := tk₁ }) : Says w (kd + 1) fa vs led Ret := by
  walk_at "l"; intro p loose mean mg mb dp un gd cn cs a ccd cl outer A₀ base h₀ L m s Q E B F X N T on hk hd hu ret
  have ra : ∀ (us pre : List Value), vs = pre ++ us → All2 (VR (mkT [] vs []) []) ((List.range' pre.length us.length).map .v) us := by
    walk_at "l"; intro us
    walk_at "l"; induction us with
    | nil => walk_at "l"; intro pre e; exact .nil
    | cons u us ih =>
      walk_at "l"; intro pre e
      walk_at "l"; rw [List.length_cons, List.range'_succ, List.map_cons]
      walk_at "l"; refine .cons ?_ ?_
      · walk_at "l"; show u = vs.getD pre.length .none
        walk_at "l"; rw [e, List.getD_eq_getElem?_getD]; simp
      · have := ih (pre ++ [u]) (by rw [e]; simp)
        rw [List.length_append] at this
        walk_at "l"; exact this
  have ra' : All2 (VR (mkT [] vs []) []) (argV vs.length) vs := by
    have := ra vs [] rfl
    walk_at "l"; unfold argV
    walk_at "l"; rw [List.range_eq_range']
    walk_at "l"; exact this
  walk_at "e"; obtain ⟨vb, hvb, rb⟩ := bindS_ok hb ra'
  walk_at "e"; obtain ⟨clo, dct, name, kV, doc, pm, an, ct, sl, ho, h2, h5a, h5b, h5c⟩ := fnInfoC_ok hI
  have hlo : ∀ y ∈ vb, I.scope.names.lookup y.1 = some .local := locals_ok rb hl
  walk_at "l"; refine wpAny_call ?_
  walk_at "l"; refine code_defC B F X N T rfl rfl hk ho h2 (by show dp < _; lia) (BindsTo.of_eq (hvb name _ _ _ kV doc pm _ ct an)) ?_ (by rw [hcl]; exact List.pairwise_singleton _ _) ?_ h5a h5b h5c
  · walk_at "l"; exact List.all_eq_true.mpr fun y hy => by rw [hlo y hy]; rfl
  · walk_at "l"; intro g' L' h₁ tk₁ cells FG F' N' Y B' X' T' lt
    let env' := envOfC I.qual I.scope L' fa I.cdv
    let f' : Fx := ⟨p, loose, mean, mg, mb, (ktrTop dp un gd cn cs L a ccd cl outer).deeper env', ktrTop dp un gd cn cs L a ccd cl outer, base, g', envX cn cs L a ccd cl :: outer, env', L', fun e s' => wpAny (model PW w) ((ktrTop dp un gd cn cs L a ccd cl outer).deeper env') (leaving env' e) (fun x s'' => E e s'') (fun e' s'' => E e' s'') s'⟩
    rw [hcl] at Y
    walk_at "e"; obtain ⟨o, rfl, hod⟩ := Y.one
    have O' : FOk (gB w) I.scope kd f' := by
      walk_at "l"; refine ⟨⟨B', X', T', rfl, rfl, h5c, rfl, ?_, ?_, ⟨I.qual, I.scope, fa, I.cdv, _, rfl⟩, on.imp fun o e => FG.keep 1 o e⟩, ⟨I.qual, fa, I.cdv, _, rfl, fun x sv e => (nomatch e)⟩, PassesOwn.leaving⟩
      · walk_at "l"; show dp + 1 + kd < _
        walk_at "l"; lia
      · walk_at "l"; show un + 3 + 8 * kd < _
        walk_at "l"; lia
    walk_at "l"; refine wpAny_mono (body f' h₁ tk₁ _ s (L' + 1) o _ O' ⟨I.qual, fa, I.cdv, ?_⟩ F' N' (fun p hp => Nat.lt_succ_of_lt (lt p hp)) hod fun x i v e1 e2 => ?_) (fun v s' q => ?_) fun zz zz q => q
    · walk_at "l"; show envOfC I.qual I.scope L' fa I.cdv = _
      walk_at "l"; unfold envOfC
      walk_at "l"; rw [hcl]
    · walk_at "l"; rw [bindL_look _ _ hlo]
      walk_at "e"; obtain ⟨u, a1, a2⟩ := lookR rb.reverse e1
      walk_at "l"; rw [a1, a2]
      walk_at "l"; show some (vs.getD i .none) = _
      walk_at "l"; rw [List.getD_eq_getElem?_getD, e2]; rfl
    · walk_at "e"; obtain ⟨m', led', h', tk', rfl, F₂, N₂, r⟩ := q
      walk_at "l"; exact leaveK_ F₂ N₂ fun F₃ N₃ => ret _ _ _ _ F₃ N₃ r
end NT
end
section
open PySem PySem.W PySem.Calls PyProof.Rows
namespace NT
noncomputable section
noncomputable def I1671 : FnI := fnI e_1671
noncomputable def asE (s : Stmt) : PySem.Expr := sKid s 0
noncomputable def asP (s : Stmt) : Pos := s.pos
noncomputable def asXp (s : Stmt) : Pos := (sKid s 1).pos
noncomputable def rdC : List (Nat × Int) := [(3, 1), (3, 2), (3, 3), (4, 1), (4, 2), (4, 4), (5, 1), (5, 2), (5, 5), (6, 1), (6, 2), (6, 6), (7, 1), (7, 2), (7, 7)]
noncomputable def rdRo (n c : Nat) : List (Nat × SO) := [(0, .list ((List.range' 0 n).map fun i : Nat => SV.int 0 (i : Int)) c)]
noncomputable def rdX (P : Params) (n c : Nat) : Sx := ⟨K P, [], rdRo n c, [], [], [("tops", .a 1)]⟩
noncomputable def rdLoc (u : Int) : List (Str × SV) := [("symbols", .a 0), ("ups", .int 0 u), ("ways", .v 0), ("is_last", .v 1), ("table", .v 2)]
noncomputable def rdLoc1 (n : Nat) (u : Int) : List (Str × SV) := ((List.range' 0 n).reverse.map fun i : Nat => (("at" : Str), SV.int 0 (i : Int))) ++ rdLoc u
noncomputable def rdL0 : List (Nat × SO) := [(3, .idict []), (1, .inst 854 2), (2, .dict [("table", .v 2), ("values", .a 3)] 2)]
noncomputable def rdF (n : Nat) (u : Int) : List ((Nat × Int) × SV) := (List.range' 0 n).map fun i : Nat => ((0, (i : Int)), .bool (decide ((n : Int) - u ≤ i)))
noncomputable def rdL1 (n : Nat) (u : Int) : List (Nat × SO) := [(3, .idict (rdF n u)), (1, .inst 854 2), (2, .dict [("table", .v 2), ("values", .a 3)] 2)]
noncomputable def rdM : MS := ⟨.a 1, .int 0 6000, .a 6, .a 10, .int 0 0, .int 0 0, .int 0 0, .int 0 0, .none, .none, .none, .a 11, .none⟩
noncomputable def rdLa : List (Nat × SO) := [(11, .list [] 0), (10, .idict []), (8, .inst 1165 9)]
noncomputable def rdLb : List (Nat × SO) := [(6, .inst 997 7), (7, .dict [("store", .a 4)] 1), (4, .inst 1641 5), (5, .dict [("table", .v 2)] 1)]
noncomputable def rdLc : List (Nat × SO) := [(1, .inst 854 2), (2, .dict [("table", .v 2), ("values", .a 3)] 2)]
noncomputable def rdL2 (n : Nat) (u : Int) : List (Nat × SO) := rdLa ++ ((9, .dict (mS rdM) 13) :: (rdLb ++ ((3, .idict (rdF n u)) :: rdLc)))
noncomputable def rd0 (P : Params) (n c : Nat) (u : Int) : Option (SV × SS) := (recN ⟨K P, [], rdRo n c, [], [], []⟩ 200).E I1671.scope 80 (asE (nth I1671.body 0)) ⟨rdLoc u, [], 1⟩
noncomputable def rd1 (P : Params) (n c : Nat) (u : Int) : Option (SF × SS) := (recN (rdX P n c) 200).S I1671.scope 80 (nth I1671.body 1) ⟨rdLoc u, rdL0, 4⟩
noncomputable def rd2 (P : Params) (n c : Nat) (u : Int) : Option (SF × SS) := (recN (rdX P n c) 200).S I1671.scope 80 (nth I1671.body 2) ⟨rdLoc1 n u, rdL1 n u, 4⟩
theorem rd_runs (P : Params) (c : Nat) : rdC.map (fun p => (rd0 P p.1 c p.2, rd1 P p.1 c p.2, rd2 P p.1 c p.2)) = rdC.map (fun p => (some (.a 1, ⟨rdLoc p.2, rdL0, 4⟩), some (.next, ⟨rdLoc1 p.1 p.2, rdL1 p.1 p.2, 4⟩), some (.next, ⟨("machine", .a 8) :: rdLoc1 p.1 p.2, rdL2 p.1 p.2, 12⟩))) := by kernel_rfl
theorem rd_run (P : Params) (c n : Nat) (u : Int) (h : (n, u) ∈ rdC) : (rd0 P n c u, rd1 P n c u, rd2 P n c u) = (some (.a 1, ⟨rdLoc u, rdL0, 4⟩), some (.next, ⟨rdLoc1 n u, rdL1 n u, 4⟩), some (.next, ⟨("machine", .a 8) :: rdLoc1 n u, rdL2 n u, 12⟩)) := List.map_inj_left.mp (rd_runs P c) (n, u) h
end
theorem fi1671 (P : Params) : fnInfoC (K P) 1671 = some I1671 := by kernel_rfl
theorem at_look {x : Str} {r : List (Str × SV)} (hx : (x == ("at" : Str)) = false) : ∀ (l : List Nat), ((l.map fun i : Nat => (("at" : Str), SV.int 0 (i : Int))) ++ r).lookup x = r.lookup x
  | [] => rfl
  | i :: l => by
    walk_at "l"; rw [List.map_cons, List.cons_append, List.lookup_cons, hx]
    walk_at "l"; exact at_look hx l
theorem flags {τ : Vt} {ρ : List Addr} {p : Int → Bool} : ∀ (n j : Nat) {rk : List (Int × Value)}, All2 (fun (a : (Nat × Int) × SV) (q : Int × Value) => q.1 = τ.iv a.1.1 a.1.2 ∧ VR τ ρ a.2 q.2) ((List.range' j n).map fun i : Nat => ((0, (i : Int)), SV.bool (p i))) rk → rk.length = n ∧ ∀ g : Int, (j : Int) ≤ g → g < j + n → valueAt rk g = some (.bool (p g))
  | 0, j, rk, h => by
    walk_at "e"; cases h
    walk_at "l"; exact ⟨rfl, fun g h1 h2 => by lia⟩
  | n + 1, j, rk, h => by
    rw [List.range'_succ, List.map_cons] at h
    walk_at "e"; cases h with
    | @cons _ b _ m a h =>
      walk_at "e"; obtain ⟨h1, h2⟩ := flags n (j + 1) h
      walk_at "l"; refine ⟨by rw [List.length_cons, h1], fun g h3 h4 => ?_⟩
      walk_at "l"; unfold valueAt
      walk_at "l"; rw [List.find?_cons]
      walk_at "e"; by_cases e : g = j
      · walk_at "e"; subst e
        walk_at "l"; rw [show decide (b.1 = ((j : Nat) : Int)) = true from decide_eq_true a.1]
        walk_at "l"; exact congrArg some a.2
      · walk_at "l"; rw [show decide (b.1 = g) = false from decide_eq_false fun q => e (q.symm.trans a.1)]
        walk_at "l"; exact h2 g (by lia) (by lia)
theorem off_mid {x : Addr × Obj} {a b : Ld} (h : (a ++ x :: b).Pairwise fun p q => q.1 ≠ p.1) : ∀ p ∈ a ++ b, p.1 ≠ x.1 := fun p hp => by
  have h := List.pairwise_append.mp h
  walk_at "e"; rcases List.mem_append.mp hp with hp | hp
  · walk_at "l"; exact (h.2.2 p hp x (.head _)).symm
  · walk_at "l"; exact (List.pairwise_cons.mp h.2.1).1 p hp
theorem fresh_of {g : Gx} {f : Fx} {ρ : List Addr} {loc : List (Str × SV)} {m : Str → Option Value} {news : Ld} {h : Heap} {n : Nat} {u : Int} {Q : Prop} (G : g.Ok) (hn : n ≤ 7) (S : SR g f ρ ⟨loc, rdL2 n u, 12⟩ m news h)
    (k : ∀ am dm dv tp ab om ofl r, ρ[8]? = some am → ρ[1]? = some tp → Fresh g.w am dm dv tp ab n r om ofl (fun i => decide ((n : Int) - u ≤ i)) → Sub ((dm, om) :: (dv, ofl) :: r) (news ++ g.R0) → Sub g.R0 r → Q) : Q := by
  walk_at "e"; obtain ⟨na, nb', e1, La, Lb'⟩ := All2.split (a := rdLa) S.led
  walk_at "l"; refine Lb'.oc fun pm nb1 e2 qm Lb1 => ?_
  walk_at "e"; obtain ⟨nb, nc', e3, Lb, Lc'⟩ := All2.split (a := rdLb) Lb1
  walk_at "l"; refine Lc'.oc fun pf nc e4 qf Lc => ?_
  walk_at "e"; subst e4 e3 e2
  walk_at "e"; obtain ⟨dm, om⟩ := pm
  walk_at "e"; obtain ⟨dv, ofl⟩ := pf
  have L : LR g.w g.τ ρ (rdLa ++ (rdLb ++ rdLc)) (na ++ (nb ++ nc)) := La.append (Lb.append Lc)
  walk_at "e"; obtain ⟨am, o1, a1, a2, dm', a3, rfl⟩ := LR.look La (i := 8) (o := .inst 1165 9) rfl
  walk_at "e"; obtain ⟨ab, o2, b1, b2, b3⟩ := LR.look Lb (i := 6) (o := .inst 997 7) rfl
  walk_at "e"; obtain ⟨tp, o3, c1, c2, c3⟩ := LR.look Lc (i := 1) (o := .inst 854 2) rfl
  have hdm : dm' = dm := by have := qm.1; rw [a3] at this; exact Option.some.inj this
  walk_at "e"; subst hdm
  have nd := S.nd
  rw [e1] at nd
  have off := S.off
  rw [e1] at off
  have mem : ∀ p, p ∈ na ++ (nb ++ nc) → p ∈ news := fun p hp => by
    walk_at "l"; rw [e1]
    walk_at "e"; rcases List.mem_append.mp hp with hp | hp
    · walk_at "l"; exact List.mem_append_left _ hp
    · walk_at "l"; refine List.mem_append_right _ (.tail _ ?_)
      walk_at "e"; rcases List.mem_append.mp hp with hp | hp
      · walk_at "l"; exact List.mem_append_left _ hp
      · walk_at "l"; exact List.mem_append_right _ (.tail _ hp)
  have m1 : (dm', om) ∈ news := by rw [e1]; exact List.mem_append_right _ (.head _)
  have m2 : (dv, ofl) ∈ news := by rw [e1]; exact List.mem_append_right _ (.tail _ (List.mem_append_right _ (.head _)))
  have n1 := off_mid nd
  have n2 := off_mid (a := na ++ (dm', om) :: nb) (b := nc) (x := (dv, ofl)) (by rw [List.append_assoc]; exact nd)
  walk_at "e"; obtain ⟨es, hD, hE⟩ := DV.of qm.2 rfl
  walk_at "l"; refine mv_of hE fun d ed v1 v2 v3 v4 v5 v6 v7 v8 v9 v10 v11 v12 v13 => ?_
  walk_at "e"; subst ed
  walk_at "e"; obtain ⟨rk, r1, r2⟩ := qf.2
  walk_at "e"; obtain ⟨r3, r4⟩ := flags (p := fun i => decide ((n : Int) - u ≤ i)) n 0 (rk := rk) r2
  walk_at "l"; refine k am dm' dv tp ab om ofl ((na ++ (nb ++ nc)) ++ g.R0) a1 c1 ⟨List.mem_append_left _ (List.mem_append_left _ a2), ?_, ?_, ?_, ?_, ?_, ?_, ?_, ?_, ⟨d, hD, ?_, v2, ?_, v4.handed G.V rfl, v5, v6, v7, v8, v9, v10, v11, v12.handed G.V rfl, v13, v1.handed G.V rfl, v3.handed G.V rfl⟩, rk, r1, fun g h1 h2 => r4 g h1 (by lia), by lia⟩ ?_ (fun p hp => List.mem_append_right _ hp)
  · walk_at "l"; refine ins_mk (r := g.R0) (i := 1) (d := 2) (ses := [("table", .v 2), ("values", .a 3)]) G.V L rfl rfl rfl (.cons ⟨rfl, fun zz zz => trivial, rfl⟩ (.cons ⟨rfl, fun v hv => ?_, rfl⟩ .nil)) ⟨tp, c1, rfl⟩
    walk_at "e"; obtain ⟨x, d1, rfl⟩ := hv
    have := qf.1
    rw [d1] at this
    walk_at "l"; exact congrArg Value.ref (Option.some.inj this)
  · walk_at "l"; exact ins_mk (r := g.R0) (i := 6) (d := 7) (ses := [("store", .a 4)]) G.V L rfl rfl rfl (.cons ⟨rfl, fun zz zz => trivial, rfl⟩ .nil) ⟨ab, b1, rfl⟩
  · walk_at "l"; exact fun e => n1 (dv, ofl) (List.mem_append_right _ (List.mem_append_right _ (.head _))) e.symm
  · walk_at "l"; intro p hp
    walk_at "e"; rcases List.mem_append.mp hp with hp | hp
    · walk_at "l"; refine n1 p ?_
      walk_at "e"; rcases List.mem_append.mp hp with hp | hp
      · walk_at "l"; exact List.mem_append_left _ hp
      · walk_at "l"; refine List.mem_append_right _ ?_
        walk_at "e"; rcases List.mem_append.mp hp with hp | hp
        · walk_at "l"; exact List.mem_append_left _ hp
        · walk_at "l"; exact List.mem_append_right _ (.tail _ hp)
    · walk_at "l"; exact off _ (by rw [← e1]; exact m1) p hp
  · walk_at "l"; intro p hp
    walk_at "e"; rcases List.mem_append.mp hp with hp | hp
    · walk_at "l"; refine n2 p ?_
      walk_at "e"; rcases List.mem_append.mp hp with hp | hp
      · walk_at "l"; exact List.mem_append_left _ (List.mem_append_left _ hp)
      · walk_at "e"; rcases List.mem_append.mp hp with hp | hp
        · walk_at "l"; exact List.mem_append_left _ (List.mem_append_right _ (.tail _ hp))
        · walk_at "l"; exact List.mem_append_right _ hp
    · walk_at "l"; exact off _ (by rw [← e1]; exact m2) p hp
  · walk_at "l"; exact fun p hp => (List.mem_append.mp hp).elim (fun h => S.low p (List.mem_append_left _ (mem p h))) fun h => S.low p (List.mem_append_right _ h)
  · walk_at "l"; exact S.low _ (List.mem_append_left _ m1)
  · walk_at "l"; exact S.low _ (List.mem_append_left _ m2)
  · walk_at "e"; obtain ⟨x, d1, d2⟩ := v1
    rw [c1] at d1; walk_at "e"; cases d1; walk_at "l"; exact d2
  · walk_at "e"; obtain ⟨x, d1, d2⟩ := v3
    rw [b1] at d1; walk_at "e"; cases d1; walk_at "l"; exact d2
  · walk_at "l"; intro p hp
    walk_at "e"; rcases List.mem_cons.mp hp with rfl | hp
    · walk_at "l"; exact List.mem_append_left _ m1
    · walk_at "e"; rcases List.mem_cons.mp hp with rfl | hp
      · walk_at "l"; exact List.mem_append_left _ m2
      · walk_at "l"; exact (List.mem_append.mp hp).elim (fun h => List.mem_append_left _ (mem p h)) fun h => List.mem_append_right _ h
end NT
end
section
open PySem PySem.W PySem.Calls PyProof.Rows
namespace NT
theorem low_of {g : Gx} {kd : Nat} {f : Fx} {h : Heap} {R : Ld} (O : COk g kd f) (N : News f.h₀ f.L h R) : ∀ p ∈ R, @LT.lt Nat _ 1 p.1 := fun p hp => by
  walk_at "e"; obtain ⟨_, _, hn⟩ := N p hp
  walk_at "e"; obtain ⟨o, h1⟩ := O.one
  walk_at "e"; obtain ⟨o0, _, _, h0, _⟩ := O.T.b
  walk_at "l"; refine Nat.lt_of_le_of_ne (Nat.pos_of_ne_zero fun e => ?_) fun e => ?_
  · have : p.1 = builtinsNs := e
    rw [this] at hn
    rw [hn] at h0; walk_at "e"; cases h0
  · have : p.1 = 1 := e.symm
    rw [this] at hn
    rw [hn] at h1; walk_at "e"; cases h1
section
variable {g : Gx} {f : Fx} {s : Shared} {kd : Nat}
theorem meth1 {env : Env} {y name : Str} {yp apos pos : Pos} {a : PySem.Expr} {Q : Value → Shared → Prop} (X : g.X.K.In f.h₀) (hl : (apos.endLine == pos.line) = true) (hp : plainEl a = true)
    (h : WP g f (eval (.Name y yp) env) (fun ov s₁ => WP g f (getMethod ov name (do return (← importBound (.Name y yp) env).getD true)) (fun q s₂ => ∃ fa, q.1 = .ref fa ∧ keepIn g.X.K (.ref fa) = true ∧
      WP g f (eval a env) (fun u s₃ => g.X.K.In s₃.heap ∧ WP g f (call (.ref fa) (q.2 ++ [u])) Q s₃) s₂) s₁) s) : WP g f (eval (.Call (.Attribute (.Name y yp) name apos) [a] [] pos) env) Q s := by
  have hp' : [a].all plainEl = true := by rw [List.all_cons, hp]; rfl
  walk_at "l"; refine MethodCall_ (pl := do return (← importBound (.Name y yp) env).getD true) (wpAny_mono h (fun ov s₁ h => wpAny_mono h (fun q s₂ h => ?_) fun zz zz q => q) fun zz zz q => q) (meth_eq (.inl ⟨y, yp, rfl⟩) hp' (show 1 < 30 by decide) hl)
  walk_at "e"; obtain ⟨fa, e, hk, h⟩ := h
  walk_at "l"; rw [e]
  walk_at "l"; exact callWith_K X hk (args_cons (wpAny_mono h (fun u s₃ h => args_nil h) fun zz zz q => q) (plain_star hp)) (plain_star hp) rfl
end
section
noncomputable section
noncomputable def pP : Pos := ⟨0, 0, 0, 0⟩
noncomputable def ifT (s : Stmt) : PySem.Expr := sKid s 0
noncomputable def ifB (s : Stmt) : List Stmt := sBody s
noncomputable def ifP (s : Stmt) : Pos := s.pos
noncomputable def cmL (e : PySem.Expr) : PySem.Expr := kid e 0
noncomputable def cmR (e : PySem.Expr) : PySem.Expr := kid e 1
noncomputable def cmP (e : PySem.Expr) : Pos := e.pos
noncomputable def lcE (e : PySem.Expr) : PySem.Expr := kid e 0
noncomputable def lcI (e : PySem.Expr) : PySem.Expr := kid e 1
noncomputable def lcX (e : PySem.Expr) : PySem.Expr := kid e 2
noncomputable def lcS : PySem.Expr → Scope
  | .ListComp _ _ s _ => s
  | _ => I1671.scope
noncomputable def lcP (e : PySem.Expr) : Pos := e.pos
noncomputable def nmP (e : PySem.Expr) : Pos := e.pos
noncomputable def biL (e : PySem.Expr) : PySem.Expr := kid e 0
noncomputable def biR (e : PySem.Expr) : PySem.Expr := kid e 1
noncomputable def biP (e : PySem.Expr) : Pos := e.pos
noncomputable def clO (e : PySem.Expr) : PySem.Expr := kid (kid e 0) 0
noncomputable def clQ (e : PySem.Expr) : Pos := (kid e 0).pos
noncomputable def clA (e : PySem.Expr) : PySem.Expr := kid e 1
noncomputable def clP (e : PySem.Expr) : Pos := e.pos
noncomputable def clF (e : PySem.Expr) : PySem.Expr := kid e 0
noncomputable def tuE (e : PySem.Expr) : List PySem.Expr := kids e
noncomputable def tuP (e : PySem.Expr) : Pos := e.pos
noncomputable def rd3 : PySem.Expr := asE (nth I1671.body 3)
noncomputable def rd4 : PySem.Expr := ifT (nth I1671.body 4)
noncomputable def rd4c : PySem.Expr := cmL rd4
noncomputable def rd4e : PySem.Expr := lcE rd4c
noncomputable def rd4m : PySem.Expr := cmR rd4
noncomputable def rd5 : PySem.Expr := rE (nth I1671.body 5)
end
theorem b1671 : I1671.body = [.Assign [.Name "tops" (asXp (nth I1671.body 0))] (asE (nth I1671.body 0)) (asP (nth I1671.body 0)), nth I1671.body 1, nth I1671.body 2, .Assign [.Name "found" (asXp (nth I1671.body 3))] rd3 (asP (nth I1671.body 3)), .If rd4 (ifB (nth I1671.body 4)) [] (ifP (nth I1671.body 4)), .Return (some rd5) (rP (nth I1671.body 5))] := by kernel_rfl
theorem rd3_eq : rd3 = .Call (.Attribute (.Name "machine" (nmP (clO rd3))) "run" (clQ rd3)) [clA rd3] [] (clP rd3) := by kernel_rfl
theorem rd4_eq : rd4 = .Compare rd4c [.NotEq] [rd4m] (cmP rd4) := by kernel_rfl
theorem rd4c_eq : rd4c = .ListComp rd4e [⟨.Name "symbol" (nmP (lcX rd4c)), .Name "symbols" (nmP (lcI rd4c)), [], 0⟩] (lcS rd4c) (lcP rd4c) := by kernel_rfl
theorem rd4e_eq : rd4e = .Call (.Attribute (.Name "tops" (nmP (clO rd4e))) "value_of" (clQ rd4e)) [.Name "symbol" (nmP (clA rd4e))] [] (clP rd4e) := by kernel_rfl
theorem rd4m_eq : rd4m = .BinOp (biL rd4m) .Mult (biR rd4m) (biP rd4m) := by kernel_rfl
theorem rd5_eq : rd5 = .Tuple (tuE rd5) 0 (tuP rd5) := by kernel_rfl
end
end NT
end
section
open PySem PySem.W PySem.Calls PyProof.Rows
namespace NT
section
noncomputable section
noncomputable def I837 : FnI := fnI e_837
noncomputable def voRo : List (Nat × SO) := [(0, .inst 854 1), (1, .dict [("table", .v 0), ("values", .a 2)] 2), (2, .xdict 0)]
noncomputable def voX (P : Params) (b : Bool) : Sx := ⟨K P, [], voRo, [(0, (1, 0), .bool b)], [], []⟩
noncomputable def voS : SS := ⟨[("self", .a 0), ("symbol", .int 1 0)], [], 3⟩
end
theorem fi837 (P : Params) : fnInfo (K P) 837 = some I837 := by kernel_rfl
theorem vo_run (P : Params) (b : Bool) : (recN (voX P b) 200).B I837.scope 20 I837.body voS = some (.ret (.bool b), voS) := by kernel_rfl
theorem vo_meth (P : Params) (b : Bool) : instMeth (voX P b) ⟨[], [], 3⟩ 0 "value_of" = some (.k 837, [.a 0]) := by kernel_rfl
theorem vo_keep (P : Params) : keepIn (K P) (.ref 837) = true := by kernel_rfl
end
theorem vo_ro {w : World} {R : Ld} {tp dv : Addr} {ofl : Obj} {kvs : List (Int × Value)} {i : Int} (hT : InsP w R 854 [("table", Tr), ("values", fun v => v = .ref dv)] (.ref tp)) (hd : (dv, ofl) ∈ R) (hk : ofl.IsDictOf (intKind PW w) kvs) (hl : kvs.length ≤ 1000) {P : Prop}
    (k : ∀ dt u, handedIn u = true → RoI w (mkT [i] [u] kvs) [tp, dt, dv] R voRo → P) : P := by
  walk_at "l"; refine hT.o2 fun x dt o u1 u2 e h1 h2 h3 h4 h5 h6 h7 => ?_
  walk_at "e"; cases e
  walk_at "e"; subst h5
  walk_at "l"; exact k dt u1 h6 (.ins rfl rfl h1 h2 h3 rfl (.cons ⟨rfl, rfl⟩ (.cons ⟨rfl, dv, rfl, rfl⟩ .nil)) (.cons rfl hd ⟨hk, hl⟩ .nil))
theorem vo_ok {w : World} {b : Bool} {kvs : List (Int × Value)} {i : Int} {u : Value} {R0 N0 : Ld} {n0 : Nat} {ρ : List Addr} (hu : handedIn u = true) (hv : valueAt kvs i = some (.bool b)) : (⟨w, mkT [i] [u] kvs, voX w.params b, R0, N0, n0, ρ⟩ : Gx).Ok := by
  walk_at "l"; refine ⟨rfl, fun zz zz zz zz h => (nomatch h), mkT_V (hl_cons hu hl_nil), fun j k sv h => ?_, fun zz zz zz h => (nomatch h)⟩
  walk_at "e"; cases h with
  | head => walk_at "l"; exact ⟨_, (show valueAt kvs (i + 0) = _ by rw [Int.add_zero]; exact hv), rfl⟩
  | tail _ h => walk_at "l"; nomatch h
noncomputable abbrev VoR (b : Bool) (R : Ld) (r : Value) (l : Ld) : Prop := r = .bool b ∧ Sub R l
theorem vo_says {w : World} {R : Ld} {tp dv : Addr} {ofl : Obj} {kvs : List (Int × Value)} {i : Int} {t : Tok} {b : Bool} (hT : InsP w R 854 [("table", Tr), ("values", fun v => v = .ref dv)] (.ref tp)) (hd : (dv, ofl) ∈ R) (hk : ofl.IsDictOf (intKind PW w) kvs) (hl : kvs.length ≤ 1000) (hv : valueAt kvs i = some (.bool b))
    (low : ∀ p ∈ R, @LT.lt Nat _ 1 p.1) : Says w 21 837 [.ref tp, .int i t] R (VoR b R) := by
  walk_at "l"; refine says_enter (kd := 20) (fi837 _) (binds := [("self", .v 0), ("symbol", .v 1)]) rfl rfl ?_
  walk_at "l"; intro f h₁ tk₁ m s O F N hmm
  walk_at "l"; refine vo_ro (i := i) hT hd hk hl fun dt u hu ro => ?_
  walk_at "l"; refine seq (g := ⟨w, mkT [i] [u] kvs, voX w.params b, R, R, 3, [tp, dt, dv]⟩) (f := f) (s := { s with heap := h₁, toks := tk₁ }) ((recN_ok 200).B (vo_run w.params b) rfl (vo_ok hu hv) (O.to rfl rfl) (sr_mk0 F N (LocR.cons (hmm "self" 0 _ rfl rfl) ⟨tp, rfl, rfl⟩ (LocR.cons (hmm "symbol" 1 _ rfl rfl) ⟨t, by show Value.int i t = .int (i + 0) t; rw [Int.add_zero]⟩ LocR.nil)) rfl ro low (List.ne_nil_of_mem hd))) fun fl ρ₁ m₁ news₁ h₂ tk₂ le S₁ rv => ?_
  walk_at "e"; obtain ⟨v, rfl, rv⟩ := rv
  walk_at "l"; exact ⟨m₁, _, h₂, tk₂, rfl, S₁.F, S₁.N, rv, fun p hp => List.mem_append_right _ hp⟩
end NT
end
section
open PySem PySem.W PySem.Calls PyProof.Rows
namespace NT
theorem sc_all : ((lcS rd4c).names.all fun y => y.2 != .cell && (y.2 != .local || (lcS rd4c).names.lookup y.1 == some .local)) = true := by kernel_rfl
theorem sc_k : (lcS rd4c).kind = .function := by kernel_rfl
theorem sc_x : (lcS rd4c).names.lookup ("symbol" : Str) = some .local := by kernel_rfl
theorem sc_t {cn : Str} {L a c C : Addr} {ccd : Value} : (compEnvC (lcS rd4c) [(("tops" : Str), c)] C (envX cn I1671.scope L a ccd [(("tops" : Str), c)])).kindOf ("tops" : Str) = some .cell := by kernel_rfl
theorem sy_l : I1671.scope.names.lookup ("symbols" : Str) = some .local := by kernel_rfl
theorem rd4_pos : ((clQ rd4e).endLine == (clP rd4e).line) = true := by kernel_rfl
theorem sc_clo {cn : Str} {L a c : Addr} {ccd : Value} : closureFor (lcS rd4c) (envX cn I1671.scope L a ccd [(("tops" : Str), c)]) = pure [(("tops" : Str), c)] := by kernel_rfl
theorem vals_comp {g : Gx} {f : Fx} {s : Shared} {kd : Nat} {m : Str → Option Value} {R : Ld} {c tp dv sx : Addr} {oc ofl : Obj} {n cs : Nat} {ls : List Value} {cn : Str} {a : Addr} {ccd : Value} {kvs : List (Int × Value)} (O : COk g kd f) (hK : g.X.K = K g.w.params) (hkd : 21 ≤ kd) (he : f.env = envX cn I1671.scope f.L a ccd [(("tops" : Str), c)])
    (F : Fr f.h₀ f.L s.heap m) (N : News f.h₀ f.L s.heap R) (hc : (c, oc) ∈ R) (hoc : oc.data = .cell (some (.ref tp))) (hT : InsP g.w R 854 [("table", Tr), ("values", fun v => v = .ref dv)] (.ref tp)) (hd : (dv, ofl) ∈ R) (hk : ofl.IsDictOf (intKind PW g.w) kvs) (hl : kvs.length ≤ 1000)
    (hv : ∀ i : Int, 0 ≤ i → i < n → valueAt kvs i = some (.bool false)) (hs : (sx, W.listOf ls.toArray cs) ∈ R) (hls : All2 LiR ((List.range' 0 n).map fun i : Nat => IsI (i : Int)) ls) (hn : n ≤ 1000) (hm : m "symbols" = some (.ref sx)) {Q : Value → Shared → Prop}
    (k : ∀ D h tk, Fr f.h₀ f.L h m → News f.h₀ f.L h ((D, LCg.lst (List.replicate n (.bool false))) :: R) → Q (.ref D) { s with heap := h, toks := tk }) : WP g f (eval rd4c f.env) Q s := by
  have hlen : ls.length = n := by rw [← hls.length, List.length_map, List.length_range']
  have hsc := List.all_eq_true.mp sc_all
  walk_at "l"; rw [rd4c_eq]
  walk_at "l"; refine LCg.ListComp_U (F₀ := F) (cl := [("tops", c)]) (by rw [he]; exact sc_clo) (fun y hy e => ?_) sc_k (fun y hy e => ?_) sc_x ?_
  · have := hsc y hy; rw [e] at this; walk_at "e"; cases this
  · have := hsc y hy
    rw [e, Bool.and_eq_true, Bool.or_eq_true] at this
    walk_at "e"; rcases this.2 with h | h
    · walk_at "e"; cases h
    · walk_at "l"; exact eq_of_beq h
  walk_at "l"; rw [he]
  have hke := O.hke
  rw [he] at hke
  walk_at "l"; refine nameX_L F hm ?_ hke sy_l
  walk_at "l"; refine LCg.CompSrc.ledger (k := cs) O.hh F N hs (by rw [List.size_toArray, hlen, sizeLine_eq]; lia) fun gh => ?_
  walk_at "l"; rw [List.size_toArray, hlen]
  walk_at "l"; suffices rest : ∀ (j i : Nat) (ys : List Value), i + j = n → ys = List.replicate i (.bool false) → LCg.CompRest PW g.w f.A f.h₀ f.L m (envX cn I1671.scope f.L a ccd [(("tops" : Str), c)]) rd4e "symbol" (lcS rd4c) [("tops", c)] { s with heap := gh } (LCg.SrcAt f.h₀ sx ls.toArray) (fun i v => ls.toArray[i]? = some v) (LCg.FinE f.h₀ f.L m { s with heap := gh } Q) j i ys R from rest n 0 [] (by lia) rfl
  walk_at "l"; intro j
  walk_at "l"; induction j with
  | zero =>
    walk_at "l"; rintro i ys hi rfl
    walk_at "e"; obtain rfl : i = n := by lia
    walk_at "l"; exact .zero fun D h tk F' N' zz => k D h tk F' N'
  | succ j ih =>
    walk_at "l"; rintro i ys hi rfl
    walk_at "l"; refine .succ fun v I oI C oC D m₂ h tk E' hp hC hx F' N' off ne => ?_
    walk_at "e"; obtain ⟨t, rfl⟩ : ∃ t, v = .int (i : Int) t := by
      have hp : ls[i]? = some v := by simpa using hp
      walk_at "e"; obtain ⟨u, h1, h2⟩ := hls.get (i := i) (a := IsI (i : Int)) (by rw [List.getElem?_map, List.getElem?_range' (by lia)]; simp)
      rw [hp] at h1; walk_at "e"; cases h1
      walk_at "l"; exact h2.1
    let R' : Ld := (I, oI) :: (C, oC) :: (D, LCg.lst (List.replicate i (.bool false))) :: R
    have sub : ∀ p ∈ R, p ∈ R' := fun p hp => .tail _ (.tail _ (.tail _ hp))
    have hT' := InsP.imp hT sub (.cons ⟨rfl, fun zz h => h⟩ (.cons ⟨rfl, fun zz h => h⟩ .nil))
    let f' : Fx := { f with E := E' }
    have O' : COk g kd f' := ⟨O.B, O.X, O.T, O.hA, O.hf, O.hke, O.hh, O.hd, O.hu, O.env, O.one⟩
    have XK : (K g.w.params).In f.h₀ := by rw [← hK]; exact O.X
    walk_at "l"; rw [rd4e_eq]
    walk_at "l"; refine meth1 (g := g) (f := f') O.X rd4_pos rfl (lcf_cell N' rfl (sub _ hc) hoc ?_ sc_k sc_t)
    walk_at "l"; refine vo_ro (i := i) hT' (sub _ hd) hk hl fun dt u hu ro => ?_
    let g' : Gx := ⟨g.w, mkT [(i : Int)] [u] kvs, voX g.w.params false, R', R', 3, [tp, dt, dv]⟩
    walk_at "l"; refine instMethK (g := g') (f := f') (vo_meth g.w.params false) (kd := kd) ⟨O.B, XK, O.T, O.hA, O.hf, O.hke, O.hh, O.hd, O.hu, O.env, O.one⟩ (sr_mk0 (f := f') (loc := []) F' N' LocR.nil rfl ro (low_of O N') (List.cons_ne_nil _ _)) rfl ?_
    walk_at "l"; refine ⟨837, rfl, by rw [hK]; exact vo_keep _, ?_⟩
    walk_at "l"; refine wpAny_Name (wpAny_loadName_local sc_k (lookup_relabel_local sc_x) (hC.ns (N' _ (.tail _ (.head _))).1) hx ?_) rfl
    walk_at "l"; refine ⟨O.X.keeps F'.keep, ?_⟩
    walk_at "l"; refine says_run (g := g) (f := f') (s := { s with heap := h, toks := tk }) (vo_says hT' (sub _ hd) hk hl (hv i (by lia) (by lia)) (low_of O N')) O' hK hkd F' N' fun v led' h₂ tk₂ F₂ N₂ r => ?_
    walk_at "e"; obtain ⟨rfl, r⟩ := r
    walk_at "l"; refine ⟨h₂, tk₂, R, rfl, F₂, fun p hp => N₂ p (r p hp), off, .inr ⟨_, hs, rfl, _, rfl⟩, ih (i + 1) _ (by lia) ?_⟩
    walk_at "l"; rw [List.replicate_succ']
end NT
end
section
open PySem PySem.W PySem.Calls PyProof.Rows
namespace NT
section
noncomputable section
noncomputable def r4Loc : List (Str × SV) := [("symbols", .a 0), ("found", .v 0), ("machine", .v 1)]
noncomputable def r4X (P : Params) (n c : Nat) : Sx := ⟨K P, [], rdRo n c, [], [], []⟩
noncomputable def r4S : SS := ⟨r4Loc, [(1, .list [.bool false] 0)], 2⟩
noncomputable def r4N : List Nat := [3, 4, 5, 6, 7]
noncomputable def r5M : MS := ⟨.v 1, .v 2, .v 3, .v 4, .v 5, .v 6, .v 7, .v 8, .v 9, .v 10, .v 11, .v 12, .v 13⟩
noncomputable def r5X (P : Params) : Sx := ⟨K P, [], [(0, .inst 1165 1), (1, .dict (mS r5M) 13)], [], [], []⟩
noncomputable def r5S : SS := ⟨[("found", .v 0), ("machine", .a 0)], [], 2⟩
end
theorem r4_runs (P : Params) (c : Nat) : r4N.map (fun n => ((recN (r4X P n c) 200).E I1671.scope 80 (biL rd4m) ⟨r4Loc, [], 1⟩, (recN (r4X P n c) 200).E I1671.scope 80 (biR rd4m) r4S)) = r4N.map (fun n : Nat => (some (.a 1, r4S), some (.int 0 (n : Int), r4S))) := by kernel_rfl
theorem r5_run (P : Params) : (recN (r5X P) 200).A I1671.scope 80 (tuE rd5) r5S = some ([.v 0, .v 7, .v 5], r5S) := by kernel_rfl
end
theorem falses_ok : (r4N.all fun n => PySem.SeqAt.shaped (.list (List.replicate n (PyData.bool false))) && PySem.Spec.same (.list (List.replicate n (PyData.bool false))) (.list (List.replicate n (PyData.bool false))) && PySem.SeqAt.noMix (.list (List.replicate n (PyData.bool false))) (.list (List.replicate n (PyData.bool false)))) = true := by kernel_rfl
theorem carried_rep : ∀ n : Nat, CarriedAll (List.replicate n (Value.bool false)) (List.replicate n (PyData.bool false))
  | 0 => .nil
  | n + 1 => by
    walk_at "l"; rw [List.replicate_succ, List.replicate_succ]
    walk_at "l"; exact .cons (.bool false) (carried_rep n)
theorem flat_rep {α : Type} (a : α) : ∀ n : Nat, (List.replicate n [a]).flatten = List.replicate n a
  | 0 => rfl
  | n + 1 => by rw [List.replicate_succ, List.flatten_cons, flat_rep a n]; rfl
theorem ne_flags {g : Gx} {f : Fx} {s : Shared} {kd n : Nat} {a b : Addr} {Q : Value → Shared → Prop} (hn : n ∈ r4N) (O : COk g kd f) (hkd : 9 ≤ kd) (ha : s.heap.IsList a (List.replicate n (Value.bool false)).toArray) (hb : s.heap.IsList b (List.replicate n (Value.bool false)).toArray) (q : Q (.bool false) s) :
    WP g f (compareOp .NotEq (.ref a) (.ref b)) Q s := by
  have h := List.all_eq_true.mp falses_ok n hn
  rw [Bool.and_eq_true, Bool.and_eq_true] at h
  have hu := O.hu
  walk_at "l"; exact ne_dataH_same (reads_newData ha (carried_rep n)) (reads_newData hb (carried_rep n)) h.1.1 h.1.1 (by lia) h.2 (by rw [h.1.2]; exact q)
theorem ints_vr {τ : Vt} {ρ : List Addr} : ∀ (n j : Nat) {ls : List Value}, All2 LiR ((List.range' j n).map fun i : Nat => IsI (i : Int)) ls → All2 (VR τ ρ) ((List.range' j n).map fun i : Nat => SV.int 0 (i : Int)) ls
  | 0, j, _, h => by cases h; exact .nil
  | n + 1, j, _, h => by
    walk_at "l"; rw [List.range'_succ, List.map_cons] at h ⊢
    walk_at "e"; cases h with
    | cons a h => walk_at "l"; exact .cons a.1 (ints_vr n (j + 1) h)
theorem wrap_sz (w : Int) (nd : Nd) : (wrap w nd).sz ≤ nd.sz + 6 := by
  walk_at "l"; unfold wrap
  (repeat' split) <;> simp only [Nd.sz] <;> lia
theorem within_sz (ws : List Int) : ∀ nd : Nd, (within ws nd).sz ≤ nd.sz + 6 * ws.length := by
  walk_at "l"; induction ws with
  | nil => walk_at "l"; intro nd; exact Nat.le_refl _
  | cons w ws ih =>
    walk_at "l"; intro nd
    have h1 := ih (wrap w nd)
    have h2 := wrap_sz w nd
    have h3 : (within (w :: ws) nd) = within ws (wrap w nd) := rfl
    walk_at "l"; rw [h3, List.length_cons]
    walk_at "l"; lia
theorem again_sz (b : Bool) : (again b).sz ≤ 4 := by cases b <;> decide
theorem bodyN_sz {ws : List Int} {b : Bool} (hw : ws.length ≤ 4) : ∀ n : Nat, (bodyN ws b n).sz ≤ 40 * n + 1
  | 0 => Nat.le_refl _
  | n + 1 => by
    have h1 := within_sz ws (again b)
    have h2 := again_sz b
    have h3 := bodyN_sz (b := b) hw n
    walk_at "l"; show 1 + ((1 + 1) + (within ws (again b)).sz + 1) + (bodyN ws b n).sz + 1 ≤ _
    walk_at "l"; lia
theorem rd4_ok {g : Gx} {f : Fx} {s : Shared} {m : Str → Option Value} {R : Ld} {c tp dv sx : Addr} {oc ofl : Obj} {n cs : Nat} {ls : List Value} {cn : Str} {a : Addr} {ccd u mv : Value} {kvs : List (Int × Value)} (O : FOk g I1671.scope 80 f) (hK : g.X.K = K g.w.params) (he : f.env = envX cn I1671.scope f.L a ccd [("tops", c)])
    (F : Fr f.h₀ f.L s.heap m) (N : News f.h₀ f.L s.heap R) (hc : (c, oc) ∈ R) (hoc : oc.data = .cell (some (.ref tp))) (hT : InsP g.w R 854 [("table", Tr), ("values", fun v => v = .ref dv)] (.ref tp)) (hd : (dv, ofl) ∈ R) (hk : ofl.IsDictOf (intKind PW g.w) kvs) (hl : kvs.length ≤ 1000)
    (hv : ∀ i : Int, 0 ≤ i → i < n → valueAt kvs i = some (.bool false)) (hs : (sx, W.listOf ls.toArray cs) ∈ R) (hls : All2 LiR ((List.range' 0 n).map fun i : Nat => IsI (i : Int)) ls) (hn : n ∈ r4N) (hm : m "symbols" = some (.ref sx)) (hm1 : m "found" = some u) (hm2 : m "machine" = some mv) (hu : handedIn u = true) (hmv : handedIn mv = true) {Q : Flow → Shared → Prop}
    (k : ∀ m' R' h tk, Fr f.h₀ f.L h m' → News f.h₀ f.L h R' → Sub R R' → m' "found" = some u → m' "machine" = some mv → Q .next { s with heap := h, toks := tk }) : WP g f (exec (.If rd4 (ifB (nth I1671.body 4)) [] (ifP (nth I1671.body 4))) f.env) Q s := by
  have hn7 : n ≤ 7 := by
    have : ∀ k ∈ r4N, k ≤ 7 := by decide
    walk_at "l"; exact this n hn
  have hr := List.map_inj_left.mp (r4_runs g.w.params cs) n hn
  have r1 := congrArg Prod.fst hr
  have r2 := congrArg Prod.snd hr
  dsimp only at r1 r2
  walk_at "l"; refine wpAny_If ?_
  walk_at "l"; rw [rd4_eq]
  walk_at "l"; refine wpAny_isTrue_Compare1 (vals_comp (g := g) O.toCOk hK (by decide) he F N hc hoc hT hd hk hl hv hs hls (by lia) hm fun D h₁ tk₁ F₁ N₁ => ?_) rfl
  walk_at "l"; rw [rd4m_eq]
  let τ : Vt := mkT [] [u, mv] []
  let R₁ : Ld := (D, LCg.lst (List.replicate n (.bool false))) :: R
  let g₁ : Gx := ⟨g.w, τ, r4X g.w.params n cs, R₁, R₁, 1, [sx]⟩
  have hV : ∀ i, handedIn (τ.V i) = true := mkT_V (hl_cons hu (hl_cons hmv hl_nil))
  have G : g₁.Ok := gok0 hV
  have O₁ : FOk g₁ I1671.scope 80 f := O.to rfl hK.symm
  have hsy : All2 (VR τ [sx]) ((List.range' 0 n).map fun i : Nat => SV.int 0 (i : Int)) ls := ints_vr n 0 hls
  walk_at "l"; refine wpAny_BinOp (seq (g := g₁) (f := f) (s := { s with heap := h₁, toks := tk₁ }) ((recN_ok 200).E r1 (g := g₁) rfl G O₁ (sr_mk0 F₁ N₁ (LocR.cons hm ⟨sx, rfl, rfl⟩ (LocR.cons hm1 rfl (LocR.cons hm2 rfl LocR.nil))) rfl (.cons rfl (.tail _ hs) ⟨ls, rfl, hsy⟩ .nil) (low_of O.toCOk N₁) (List.cons_ne_nil _ _))) fun v ρ₂ m₂ news₂ h₂ tk₂ le₂ S₂ rv => ?_)
  walk_at "l"; refine seq (g := g₁) (f := f) (s := { s with heap := h₂, toks := tk₂ }) ((recN_ok 200).E r2 (g := g₁) rfl G O₁ S₂) fun v' ρ₃ m₃ news₃ h₃ tk₃ le₃ S₃ rv' => ?_
  walk_at "e"; obtain ⟨l, hl1, rfl⟩ := rv.mono le₃
  walk_at "e"; obtain ⟨t, rfl⟩ := rv'
  walk_at "e"; obtain ⟨x, ob, b1, b2, us, rfl, b3⟩ := S₃.led.look (i := 1) (o := .list [.bool false] 0) rfl
  rw [hl1] at b1; walk_at "e"; cases b1
  have hus : us = [.bool false] := b3.oc fun w zz e q L => L.o0 fun e2 => by rw [e, e2]; exact congrArg (fun z => [z]) q
  walk_at "e"; subst hus
  walk_at "l"; refine mul_list_carried (ds := [.bool false]) S₃.F S₃.N (S₃.N _ (List.mem_append_left _ b2)).1 rfl (.cons (.bool false) .nil) (by show (-(2 ^ 63) : Int) ≤ (n : Int); lia) (by show (n : Int) < 2 ^ 63; lia) (by show 1 * n ≤ 2 ^ 24; lia) fun h₄ F₄ N₄ zz hL zz => ?_
  rw [show ((τ.iv 0 (n : Int)).toNat) = n from rfl, flat_rep] at hL
  walk_at "l"; refine ne_flags hn O.toCOk (by decide) ⟨_, (N₄ _ (List.mem_append_right _ (.head _))).1, rfl, _, rfl⟩ hL ?_
  walk_at "l"; refine wpAny_truthy_bool (ite_neg (by decide) (wpAny_execs_nil ?_))
  walk_at "e"; obtain ⟨v1, c1, d1⟩ := S₃.loc ("found" : Str) (.v 0) rfl
  walk_at "e"; obtain ⟨v2, c2, d2⟩ := S₃.loc ("machine" : Str) (.v 1) rfl
  rw [show v1 = u from d1] at c1
  rw [show v2 = mv from d2] at c2
  walk_at "l"; exact k m₃ _ h₄ _ F₄ N₄ (fun p hp => List.mem_append_right _ (.tail _ hp)) c1 c2
end NT
end
section
open PySem PySem.W PySem.Calls PyProof.Rows
namespace NT
noncomputable def sesOf : List Str → Nat → List (Str × SV)
  | [], _ => []
  | n :: l, k => (n, .v k) :: sesOf l (k + 1)
theorem ses_ok {ρ : List Addr} {Vs : List Value} {fs : Fd} {es : List (Str × Value)} (h : All2 FdR fs es) : ∀ pre, Vs = pre ++ es.map (·.2) → All2 (SvE (mkT [] Vs []) ρ) (sesOf (fs.map (·.1)) pre.length) es := by
  walk_at "l"; induction h with
  | nil => walk_at "l"; exact fun zz zz => .nil
  | @cons a b _ _ x _ ih =>
    walk_at "l"; intro pre e
    walk_at "l"; refine .cons ⟨x.1.symm, ?_⟩ ?_
    · walk_at "l"; show b.2 = Vs.getD pre.length .none
      walk_at "l"; rw [e, List.getD_eq_getElem?_getD]; simp
    · have := ih (pre ++ [b.2]) (by rw [e]; simp)
      rw [List.length_append] at this
      walk_at "l"; exact this
theorem fd_handed {fs : Fd} {es : List (Str × Value)} (h : All2 FdR fs es) : ∀ v ∈ es.map (·.2), handedIn v = true := by
  walk_at "l"; induction h with
  | nil => walk_at "l"; exact fun zz h => nomatch h
  | cons x _ ih => walk_at "l"; exact List.forall_mem_cons.mpr ⟨x.2.2, ih⟩
noncomputable def tupObj (vs : List Value) : Obj := { cls := .type "tuple", data := .seq vs.toArray }
theorem rd5_ok {g : Gx} {f : Fx} {s : Shared} {m : Str → Option Value} {R : Ld} {am dm : Addr} {om : Obj} {u : Value} {fs : Fd} {es : List (Str × Value)} {P5 P7 : Value → Prop} (O : FOk g I1671.scope 80 f) (hK : g.X.K = K g.w.params) (F : Fr f.h₀ f.L s.heap m) (N : News f.h₀ f.L s.heap R)
    (hI : (am, instObj 1165 dm) ∈ R) (hd : (dm, om) ∈ R) (hD : DV g.w es om) (hE : All2 FdR fs es) (hf : fs.map (·.1) = (mS r5M).map (·.1)) (h5 : ∀ e, es[4]? = some e → P5 e.2) (h7 : ∀ e, es[6]? = some e → P7 e.2) (hm1 : m "found" = some u) (hm2 : m "machine" = some (.ref am)) (hu : handedIn u = true) {Q : Value → Shared → Prop}
    (k : ∀ m' R' h tk x v5 v7, Fr f.h₀ f.L h m' → News f.h₀ f.L h ((x, tupObj [u, v7, v5]) :: R') → Sub R R' → P5 v5 → P7 v7 → Q (.ref x) { s with heap := h, toks := tk }) : WP g f (eval rd5 f.env) Q s := by
  let Vs : List Value := u :: es.map (·.2)
  let τ : Vt := mkT [] Vs []
  let g₁ : Gx := ⟨g.w, τ, r5X g.w.params, R, R, 2, [am, dm]⟩
  have hV : ∀ i, handedIn (τ.V i) = true := mkT_V (hl_cons hu (fd_handed hE))
  have hses : All2 (SvE τ [am, dm]) (mS r5M) es := by
    have := ses_ok (ρ := [am, dm]) (Vs := Vs) hE [u] rfl
    rw [hf] at this
    walk_at "l"; exact this
  have hlen : es.length = 13 := hses.length.symm
  walk_at "l"; rw [rd5_eq]
  walk_at "l"; refine Tuple_ (seq (g := g₁) (f := f) ((recN_ok 200).A (r5_run g.w.params) (g := g₁) rfl (gok0 hV) (O.to rfl hK.symm) (sr_mk0 F N (LocR.cons hm1 rfl (LocR.cons hm2 ⟨am, rfl, rfl⟩ LocR.nil)) rfl (.ins rfl rfl hI hd hD hlen.symm hses .nil) (low_of O.toCOk N) (List.ne_nil_of_mem hd)) (tuP rd5)) fun vs ρ₂ m₂ news₂ h₂ tk₂ le₂ S₂ rv => ?_)
  have hvs : vs = [τ.V 0, τ.V 7, τ.V 5] := ps_v (is := [0, 7, 5]) rv
  walk_at "e"; subst hvs
  walk_at "l"; refine newTuple_N S₂.F S₂.N (fun h' F' N' => ?_) (by show 3 ≤ sizeLine; decide)
  have e7 : ∃ e, es[6]? = some e ∧ τ.V 7 = e.2 := by
    walk_at "l"; refine ⟨es[6]'(by lia), List.getElem?_eq_getElem _, ?_⟩
    walk_at "l"; show (u :: es.map (·.2)).getD 7 .none = _
    walk_at "l"; simp [hlen]
  have e5 : ∃ e, es[4]? = some e ∧ τ.V 5 = e.2 := by
    walk_at "l"; refine ⟨es[4]'(by lia), List.getElem?_eq_getElem _, ?_⟩
    walk_at "l"; show (u :: es.map (·.2)).getD 5 .none = _
    walk_at "l"; simp [hlen]
  walk_at "e"; obtain ⟨a7, b7, c7⟩ := e7
  walk_at "e"; obtain ⟨a5, b5, c5⟩ := e5
  walk_at "l"; exact k m₂ (news₂ ++ R) h' _ _ (τ.V 5) (τ.V 7) F' N' (fun p hp => List.mem_append_right _ hp) (c5 ▸ h5 _ b5) (c7 ▸ h7 _ b7)
end NT
end
section
open PySem PySem.W PySem.Calls PyProof.Rows
namespace NT
theorem Fresh.up {w : World} {am dm dv tp ab : Addr} {n : Int} {r r' : Ld} {om ofl : Obj} {fl : Int → Bool} (H : Fresh w am dm dv tp ab n r om ofl fl) (s : Sub r r') (h1 : ∀ p ∈ r', p.1 ≠ dm) (h2 : ∀ p ∈ r', p.1 ≠ dv) (low : ∀ p ∈ r', @LT.lt Nat _ 1 p.1) : Fresh w am dm dv tp ab n r' om ofl fl :=
  ⟨s _ H.hI, H.hT.imp s (.cons .rfl (.cons .rfl .nil)), H.hB.imp s (.cons .rfl .nil), H.hd, h1, h2, low, H.lowm, H.lowv, H.mach, H.fl⟩
noncomputable def less (a b : Addr) (r : Ld) : Ld := r.filter fun p => !(Nat.beq p.1 a || Nat.beq p.1 b)
theorem less_of {a b : Addr} {r : Ld} {p : Addr × Obj} (h : p ∈ less a b r) : p ∈ r ∧ p.1 ≠ a ∧ p.1 ≠ b := by
  walk_at "e"; obtain ⟨h1, h2⟩ := List.mem_filter.mp h
  rw [Bool.not_eq_true', Bool.or_eq_false_iff] at h2
  walk_at "l"; refine ⟨h1, fun e => ?_, fun e => ?_⟩
  · have := h2.1
    rw [e, Nat.beq_refl] at this
    walk_at "e"; cases this
  · have := h2.2
    rw [e, Nat.beq_refl] at this
    walk_at "e"; cases this
theorem to_less {a b : Addr} {r : Ld} {p : Addr × Obj} (h : p ∈ r) (h1 : p.1 ≠ a) (h2 : p.1 ≠ b) : p ∈ less a b r := by
  walk_at "l"; refine List.mem_filter.mpr ⟨h, ?_⟩
  walk_at "l"; rw [Bool.not_eq_true', Bool.or_eq_false_iff]
  walk_at "l"; refine ⟨?_, ?_⟩
  · walk_at "l"; cases q : Nat.beq p.1 a with
    | true => walk_at "l"; exact absurd (Nat.eq_of_beq_eq_true q) h1
    | false => walk_at "l"; rfl
  · walk_at "l"; cases q : Nat.beq p.1 b with
    | true => walk_at "l"; exact absurd (Nat.eq_of_beq_eq_true q) h2
    | false => walk_at "l"; rfl
theorem updF_mid {c : Addr} {o : Obj} {b : Ld} (hb : ∀ p ∈ b, p.1 ≠ c) : ∀ (a : Ld), (∀ p ∈ a, p.1 ≠ c) → UpdF c o (a ++ (c, o) :: b) (fun o' => a ++ (c, o') :: b)
  | [], _ => .head hb
  | p :: a, h => .tail (h p (.head _)) (updF_mid hb a fun q hq => h q (.tail _ hq))
theorem rdC_ok : ∀ p ∈ rdC, p.1 ∈ r4N ∧ p.1 ≤ 7 ∧ 0 < p.2 ∧ p.2 ≤ p.1 := by decide
noncomputable section
noncomputable def rdLoc3 : List (Str × SV) := [("machine", .a 8), ("symbols", .a 0), ("ways", .v 0), ("is_last", .v 1)]
noncomputable def rd3S (n : Nat) (u : Int) : SS := ⟨rdLoc3, rdL2 n u, 12⟩
end
theorem rd3_arg (P : Params) (n c : Nat) (u : Int) : callHd (rdX P n c) (recN (rdX P n c) 200) I1671.scope 80 (clA rd3) (rd3S n u) = some (.k 1666, [.a 0, .v 0, .v 1], rd3S n u) := by kernel_rfl
theorem rd3_meth (P : Params) (n c : Nat) (u : Int) : instMeth (rdX P n c) (rd3S n u) 8 "run" = some (.k 1050, [.a 8]) := by kernel_rfl
theorem rd3_name (P : Params) (n c : Nat) (u : Int) : evName (rdX P n c) I1671.scope "machine" (rd3S n u) = some (.a 8) := by kernel_rfl
theorem run_keep (P : Params) : keepIn (K P) (.ref 1050) = true := by kernel_rfl
theorem rd3_pos : ((clQ rd3).endLine == (clP rd3).line) = true := by kernel_rfl
theorem rd0_nc : notComp (asE (nth I1671.body 0)) = true := by kernel_rfl
theorem rd3_nc : notComp rd3 = true := by kernel_rfl
theorem rd3_pl : plainEl (clA rd3) = true := by kernel_rfl
theorem rd_cells : ∀ n, cellsFrom n I1671.scope.names [] = [(("tops" : Str), n)] := fun n => by kernel_rfl
theorem tops_cell : I1671.scope.names.lookup ("tops" : Str) = some .cell := by kernel_rfl
theorem found_local : I1671.scope.names.lookup ("found" : Str) = some .local := by kernel_rfl
end NT
end
section
open PySem PySem.W PySem.Calls PyProof.Rows
namespace NT
theorem storeK {g : Gx} {cs : Scope} {kd : Nat} {f : Fx} {s : Shared} {m : Str → Option Value} {led : Ld} {x : Str} {v : Value} {Q : Unit → Shared → Prop} (O : FOk g cs kd f) (hl : cs.names.lookup x = some .local) (F : Fr f.h₀ f.L s.heap m) (N : News f.h₀ f.L s.heap led)
    (k : ∀ h', Fr f.h₀ f.L h' (fun y => if y = x then some v else m y) → News f.h₀ f.L h' led → Q () { s with heap := h', toks := s.toks + 1 }) : WP g f (storeName f.env x v) Q s := by
  walk_at "e"; obtain ⟨cn, a, ccd, cl, he, _⟩ := O.envo
  have hk := O.hke
  walk_at "l"; unfold WP
  walk_at "l"; rw [he] at hk ⊢
  walk_at "l"; exact storeX_L (cl := cl) F N k hk hl
inductive RanR (n : Nat) (u : Nat) (ws : List Int) (bl : Bool) (r : Ld) (v : Value) (ld : Ld) : Prop
  | mk (x lx t1 t2 t3) : (v = .ref x) → ((x, tupObj [.ref lx, .int (deepOf bl u) t1, .int (1 + (costOf bl ws n u : Nat)) t2]) ∈ ld) → ((lx, W.listOf [Value.int 7 t3].toArray 0) ∈ ld) → (Sub r ld) → RanR n u ws bl r v ld
theorem ran_end {w : World} {f : Fx} {s : Shared} {g : Gx} {ρ : List Addr} {m : Str → Option Value} {news r : Ld} {c sx wx : Addr} {o' : Obj} {ls l : List Value} {cs cw n u : Nat} {ws : List Int} {bl : Bool} {tb : Value} {cn : Str} {a tp : Addr} {ccd : Value}
    (hg : g = ⟨w, mkT [] [.ref wx, .bool bl, tb] [], rdX w.params n cs, (c, o') :: r, g.N0, g.n0, g.ρ0⟩) (G : g.Ok) (O : FOk g I1671.scope 80 f) (he : f.env = envX cn I1671.scope f.L a ccd [(("tops" : Str), c)]) (ho' : o'.data = .cell (some (.ref tp))) (htp : ρ[1]? = some tp) (hnu : (n, (u : Int)) ∈ rdC)
    (hs : (sx, W.listOf ls.toArray cs) ∈ r) (hls : All2 LiR ((List.range' 0 n).map fun i : Nat => IsI (i : Int)) ls) (hsx : ρ[0]? = some sx) (hw : (wx, W.listOf l.toArray cw) ∈ r) (hws : All2 LiR (ws.map IsI) l) (hk : ∀ k ∈ ws, 0 ≤ k ∧ k < 5) (hwl : ws.length ≤ 4)
    (S : SR g f ρ (rd3S n u) m news s.heap) :
    WP g f (execs [.Assign [.Name "found" (asXp (nth I1671.body 3))] rd3 (asP (nth I1671.body 3)), .If rd4 (ifB (nth I1671.body 4)) [] (ifP (nth I1671.body 4)), .Return (some rd5) (rP (nth I1671.body 5))] f.env) (EndP f s (RanR n u ws bl r)) s := by
  walk_at "e"; obtain ⟨hn4, hn7, hu0, hun⟩ := rdC_ok _ hnu
  dsimp only at hn4 hn7 hu0 hun
  have hK : g.X.K = K g.w.params := by rw [hg]; rfl
  have hX : g.X = rdX g.w.params n cs := by rw [hg]
  have hR0 : g.R0 = (c, o') :: r := by rw [hg]
  have hw' : g.w = w := by rw [hg]
  walk_at "e"; subst hw'
  have hτ : g.τ = mkT [] [.ref wx, .bool bl, tb] [] := by rw [hg]
  clear hg
  have OK := O.toCOk
  walk_at "l"; refine wpAny_execs_cons (wpAny_Assign_Name ?_ (swaps_no rd3_nc))
  walk_at "l"; rw [rd3_eq]
  walk_at "l"; refine meth1 (g := g) (f := f) O.X rd3_pos rd3_pl (evName_ok (g := g) (cs := I1671.scope) (kd := 80) (sv := .a 8) (by rw [hX]; exact rd3_name _ _ _ _) O S fun v rv => ?_)
  walk_at "e"; obtain ⟨am, h8, rfl⟩ := rv
  walk_at "l"; refine instMethK (i := 8) (fa := 1050) (by rw [hX]; exact rd3_meth _ _ _ _) OK S h8 ⟨1050, rfl, by rw [hK]; exact run_keep _, ?_⟩
  walk_at "l"; refine callHd_ok (g := g) (recN_ok 200) (by rw [hX]; exact rd3_arg _ _ _ _) G O S fun fv ρ₁ m₁ news₁ h₁ tk₁ vs le S₁ ra rc => ?_
  walk_at "e"; cases rc
  have hvs : vs = [.ref sx, .ref wx, .bool bl] := ra.oc fun u1 zz e1 q1 L => L.oc fun u2 zz e2 q2 L => L.oc fun u3 zz e3 q3 L => L.o0 fun e4 => by
    walk_at "e"; obtain ⟨x, d1, rfl⟩ := q1
    rw [le 0 sx hsx] at d1; walk_at "e"; cases d1
    walk_at "l"; rw [e1, e2, e3, e4, show u2 = g.τ.V 0 from q2, show u3 = g.τ.V 1 from q3, hτ]
    walk_at "l"; rfl
  walk_at "e"; subst hvs
  have S1N := S₁.N
  rw [hR0] at S1N
  walk_at "l"; refine fresh_of G hn7 S₁ fun am' dm dv tp' ab om ofl r₂ e8 e1 H sub subR => ?_
  rw [le 8 am h8] at e8; walk_at "e"; cases e8
  rw [le 1 tp htp] at e1; walk_at "e"; cases e1
  have hsr : Sub r (news₁ ++ (c, o') :: r) := fun p hp => List.mem_append_right _ (.tail _ hp)
  walk_at "l"; refine says_run (g := g) (f := f) (s := { s with heap := h₁, toks := tk₁ }) (program_says (r := news₁ ++ (c, o') :: r) (bl := bl) (hsr _ hs) hls (hsr _ hw) hws hk (low_of OK S1N)) OK hK (by decide) S₁.F S1N ?_
  walk_at "l"; rintro nv led₂ h₂ tk₂ F₂ N₂ ⟨r₃, sub₃, subr, hfix, hnv, low₃⟩
  rw [hR0] at sub subR
  have mm : (dm, om) ∈ r₃ := subr _ (sub _ (.head _))
  have mf : (dv, ofl) ∈ r₃ := subr _ (sub _ (.tail _ (.head _)))
  have uniq : ∀ p ∈ r₃, ∀ q ∈ r₃, p.1 = q.1 → p.2 = q.2 := fun p hp q hq e => by
    have a1 := (N₂ p (sub₃ p hp)).1
    have a2 := (N₂ q (sub₃ q hq)).1
    rw [e] at a1
    walk_at "l"; exact Option.some.inj (a1.symm.trans a2)
  walk_at "e"; obtain ⟨d, hD, _⟩ := id H.mach
  walk_at "e"; obtain ⟨kvs, hkv, _⟩ := id H.fl
  have hT : SubT g.w r₃ (less dm dv r₃) := fun p hp hc => to_less hp (fun e => NdO.mach hD rfl (by have e := uniq p hp _ mm e; dsimp only at e; rw [← e]; exact hc)) fun e => NdO.flags hkv (by have e := uniq p hp _ mf e; dsimp only at e; rw [← e]; exact hc)
  have H' := H.up (r' := less dm dv r₃) (fun p hp => to_less (subr _ (sub p (.tail _ (.tail _ hp)))) (H.hdm p hp) (H.hdv p hp)) (fun p hp => (less_of hp).2.1) (fun p hp => (less_of hp).2.2) (fun p hp => low₃ p (less_of hp).1)
  have keep4 : ∀ p ∈ (c, o') :: r, p ∈ less dm dv r₃ := fun p hp => H'.hI |> fun zz => to_less (subr _ (sub p (.tail _ (.tail _ (subR p hp))))) (H.hdm p (subR p hp)) (H.hdv p (subR p hp))
  walk_at "e"; obtain ⟨fl', hfl', hruns⟩ := runs_whole bl ws n u (fun i => decide ((n : Int) - (u : Int) ≤ i)) (by lia) (by lia) (fun g hg => decide_eq_decide.mpr (by lia))
  have hcost := cost_le bl ws n u hn7 (by lia) hwl
  have hsz := bodyN_sz (b := bl) hwl n
  walk_at "l"; refine ⟨O.X.keeps F₂.keep, ?_⟩
  walk_at "l"; refine says_run (g := g) (f := f) (s := { s with heap := h₂, toks := tk₂ }) (run_says H' (hfix.filt hT) hnv (by lia) hruns rfl rfl (by show 1 + ((costOf bl ws n u : Nat) : Int) ≤ 6000; lia)) OK hK (by decide) F₂ (fun p hp => N₂ p (sub₃ p ?_)) ?_
  · walk_at "e"; rcases List.mem_cons.mp hp with rfl | hp
    · walk_at "l"; exact mm
    · walk_at "e"; rcases List.mem_cons.mp hp with rfl | hp
      · walk_at "l"; exact mf
      · walk_at "l"; exact (less_of hp).1
  walk_at "l"; rintro uv led₃ h₃ tk₃ F₃ N₃ ⟨sz, cz, dcz, om', ofl', r₅, sub₅, HS, HV⟩
  have v1 := (S₁.loc ("symbols" : Str) (.a 0) rfl)
  have v2 := (S₁.loc ("machine" : Str) (.a 8) rfl)
  walk_at "e"; obtain ⟨w1, m1, x1, q1, rfl⟩ := v1
  rw [le 0 sx hsx] at q1; walk_at "e"; cases q1
  walk_at "e"; obtain ⟨w2, m2, x2, q2, rfl⟩ := v2
  rw [le 8 am h8] at q2; walk_at "e"; cases q2
  have sub5 : ∀ p ∈ less dm dv r₃, p ∈ (dm, om') :: (dv, ofl') :: r₅ := fun p hp => .tail _ (.tail _ (HS.base.hX p hp))
  walk_at "e"; obtain ⟨kvs', k1, k2, k3⟩ := HS.fl
  walk_at "e"; obtain ⟨lx, vx, e, hlx, hv7, hvh⟩ : ∃ lx vx, uv = .ref lx ∧ (lx, W.listOf [vx].toArray 0) ∈ r₅ ∧ IsI 7 vx ∧ handedIn vx = true := LstP.o1 HV fun x v e h1 h2 h3 => ⟨x, v, e, h1, h2, h3⟩
  walk_at "e"; subst e
  walk_at "e"; obtain ⟨t3, rfl⟩ := hv7
  walk_at "l"; refine storeK (g := g) (s := { s with heap := h₃, toks := tk₃ }) O found_local F₃ (fun p hp => N₃ p (sub₅ p hp)) fun h₄ F₄ N₄ => ?_
  walk_at "l"; refine wpAny_execs_cons (rd4_ok (g := g) (s := { s with heap := h₄, toks := tk₃ + 1 }) (n := n) (u := .ref lx) (mv := .ref am) O hK he F₄ N₄ (sub5 _ (keep4 _ (.head _))) ho' (HS.base.hT.imp (fun p hp => .tail _ (.tail _ hp)) (.cons .rfl (.cons .rfl .nil))) (.tail _ (.head _)) k1 (by lia) (fun i h1 h2 => ?_) (sub5 _ (keep4 _ (.tail _ hs))) hls hn4 ((if_neg (by decide)).trans m1) (if_pos rfl) ((if_neg (by decide)).trans m2) rfl rfl fun m₆ R₆ h₅ tk₅ F₅ N₅ sub6 n1 n2 => ?_)
  · walk_at "l"; rw [k2 i h1 h2]
    have := hfl' i.toNat (by lia)
    rw [Int.toNat_of_nonneg h1] at this
    walk_at "l"; exact congrArg (fun b => some (Value.bool b)) this
  walk_at "e"; obtain ⟨es, hDV, hE⟩ := HS.mach
  walk_at "l"; refine wpAny_execs_cons (wpAny_Return_some (rd5_ok (g := g) (s := { s with heap := h₅, toks := tk₅ }) (P5 := IsI (1 + (costOf bl ws n u : Nat))) (P7 := IsI (deepOf bl u)) O hK F₅ N₅ (sub6 _ (.tail _ (.tail _ HS.base.hI))) (sub6 _ (.head _)) hDV hE rfl (fun e h => ?_) (fun e h => ?_) n1 n2 rfl fun m₇ R₇ h₆ tk₆ x v5 v7 F₆ N₆ sub7 p5 p7 => ?_))
  · walk_at "e"; obtain ⟨b, h1, h2⟩ := hE.get (i := 4) rfl
    rw [h] at h1; walk_at "e"; cases h1
    walk_at "l"; exact h2.2.1
  · walk_at "e"; obtain ⟨b, h1, h2⟩ := hE.get (i := 6) rfl
    rw [h] at h1; walk_at "e"; cases h1
    walk_at "l"; exact h2.2.1
  walk_at "e"; obtain ⟨t2, rfl⟩ := p5
  walk_at "e"; obtain ⟨t1, rfl⟩ := p7
  walk_at "l"; exact ⟨m₇, _, h₆, tk₆, rfl, F₆, N₆, x, lx, t1, t2, t3, rfl, .head _, .tail _ (sub7 _ (sub6 _ (.tail _ (.tail _ hlx)))), fun p hp => .tail _ (sub7 _ (sub6 _ (sub5 _ (keep4 _ (.tail _ hp)))))⟩
end NT
end
section
open PySem PySem.W PySem.Calls PyProof.Rows
namespace NT
set_option tactic.hygienic true in
theorem ran_says {w : World} {r : Ld} {sx wx : Addr} {ls l : List Value} {cs cw n u : Nat} {ws : List Int} {bl : Bool} {tb : Value} {t : Tok} (hnu : (n, (u : Int)) ∈ rdC) (hs : (sx, W.listOf ls.toArray cs) ∈ r) (hls : All2 LiR ((List.range' 0 n).map fun i : Nat => IsI (i : Int)) ls)
    (hw : (wx, W.listOf l.toArray cw) ∈ r) (hws : All2 LiR (ws.map IsI) l) (hk : ∀ k ∈ ws, 0 ≤ k ∧ k < 5) (hwl : ws.length ≤ 4) (htb : handedIn tb = true) : Says w 81 1671 [.ref sx, .int u t, .ref wx, .bool bl, tb] r (RanR n u ws bl r) := by
  walk_at "l"; refine says_enterC (kd := 80) (fi1671 _) (binds := [("symbols", .v 0), ("ups", .v 1), ("ways", .v 2), ("is_last", .v 3), ("table", .v 4)]) rfl rfl rd_cells ?_
  walk_at "l"; intro f h₁ tk₁ m s c o v0 O he F N lt hod mm
  walk_at "e"; obtain ⟨cn, a, ccd, he⟩ := he
  have m1 := mm "symbols" 0 _ rfl rfl
  have m2 := mm "ups" 1 _ rfl rfl
  have m3 := mm "ways" 2 _ rfl rfl
  have m4 := mm "is_last" 3 _ rfl rfl
  have m5 := mm "table" 4 _ rfl rfl
  walk_at "l"; rw [b1671]
  have hr := rd_run w.params cs n u hnu
  have r0 : rd0 w.params n cs u = _ := congrArg Prod.fst hr
  have r1 : rd1 w.params n cs u = _ := congrArg (fun x => x.2.1) hr
  have r2 : rd2 w.params n cs u = _ := congrArg (fun x => x.2.2) hr
  dsimp only at r0 r1 r2
  let τ : Vt := mkT [] [.ref wx, .bool bl, tb] []
  have hV : ∀ i, handedIn (τ.V i) = true := mkT_V (hl_cons rfl (hl_cons rfl (hl_cons htb hl_nil)))
  let R0 : Ld := (c, o) :: r
  let g0 : Gx := ⟨w, τ, ⟨K w.params, [], rdRo n cs, [], [], []⟩, R0, R0, 1, [sx]⟩
  have O0 : FOk g0 I1671.scope 80 f := O.to rfl rfl
  walk_at "l"; refine wpAny_execs_cons (wpAny_Assign_Name (seq (g := g0) (f := f) (s := { s with heap := h₁, toks := tk₁ }) ((recN_ok 200).E r0 (g := g0) rfl (gok0 hV) O0 (sr_mk0 (τ := τ) F N (LocR.cons m1 ⟨sx, rfl, rfl⟩ (LocR.cons m2 ⟨t, rfl⟩ (LocR.cons m3 rfl (LocR.cons m4 rfl (LocR.cons m5 rfl LocR.nil))))) rfl (.cons rfl (.tail _ hs) ⟨ls, rfl, ints_vr n 0 hls⟩ .nil) (low_of O.toCOk N) (List.cons_ne_nil _ _))) fun v ρ₁ m₁ news₁ h₂ tk₂ le S₁ rv => ?_) (swaps_no rd0_nc))
  walk_at "e"; obtain ⟨tp, htp, rfl⟩ := rv
  have hke := O.hke
  have off₁ : ∀ p ∈ news₁, p.1 ≠ c := fun p hp => (S₁.off p hp (c, o) (.head _)).symm
  have rest : ∀ h₃ o', Fr f.h₀ f.L h₃ m₁ → News f.h₀ f.L h₃ (news₁ ++ (c, o') :: r) → o'.data = .cell (some (.ref tp)) → WP g0 f (execs [nth I1671.body 1, nth I1671.body 2, .Assign [.Name "found" (asXp (nth I1671.body 3))] rd3 (asP (nth I1671.body 3)), .If rd4 (ifB (nth I1671.body 4)) [] (ifP (nth I1671.body 4)), .Return (some rd5) (rP (nth I1671.body 5))] f.env)
      (EndP f s (RanR n u ws bl r)) { s with heap := h₃, toks := tk₂ } := by
    walk_at "l"; intro h₃ o' F₃ N₃ ho'
    let R1 : Ld := (c, o') :: r
    let g1 : Gx := ⟨w, τ, rdX w.params n cs, R1, news₁ ++ R1, 4, ρ₁⟩
    have G1 : g1.Ok := ⟨rfl, fun zz zz zz zz h => (nomatch h), hV, fun zz zz zz h => (nomatch h), fun zz zz zz h => (nomatch h)⟩
    have O1 : FOk g1 I1671.scope 80 f := by
      walk_at "l"; refine ⟨⟨O.B, O.X, O.T, O.hA, O.hf, O.hke, O.hh, O.hd, O.hu, O.env, O.one⟩, ⟨cn, a, ccd, _, he, fun x sv e1 e2 => ?_⟩, O.pass⟩
      have e1 : List.lookup x [(("tops" : Str), SV.a 1)] = some sv := e1
      rw [List.lookup_cons] at e1
      walk_at "e"; split at e1
      · rename_i q
        walk_at "e"; cases e1
        walk_at "e"; cases eq_of_beq q
        walk_at "l"; exact ⟨c, o', .ref tp, rfl, .head _, ho', tp, htp, rfl⟩
      · walk_at "e"; cases e1
    have S : SR g1 f ρ₁ ⟨rdLoc u, rdL0, 4⟩ m₁ news₁ h₃ := sr_mk (τ := τ) (X := rdX w.params n cs) (st := ⟨rdLoc u, rdL0, 4⟩) F₃ N₃ S₁.loc S₁.led S₁.nx (fun p hp q hq => (List.mem_cons.mp hq).elim (fun e => by rw [e]; exact (off₁ p hp).symm) fun h => S₁.off p hp q (.tail _ h)) S₁.nd (.cons (le 0 sx rfl) (.tail _ hs) ⟨ls, rfl, ints_vr n 0 hls⟩ .nil) (low_of O.toCOk N₃) (List.cons_ne_nil _ _)
    walk_at "l"; refine wpAny_execs_cons (seq (g := g1) (f := f) (s := { s with heap := h₃, toks := tk₂ }) ((recN_ok 200).S r1 (g := g1) rfl G1 O1 S) fun fl ρ₂ m₂ news₂ h₄ tk₄ le₂ S₂ rv => ?_)
    walk_at "e"; cases rv
    walk_at "l"; refine wpAny_execs_cons (seq (g := g1) (f := f) (s := { s with heap := h₄, toks := tk₄ }) ((recN_ok 200).S r2 (g := g1) rfl G1 O1 S₂) fun fl ρ₃ m₃ news₃ h₅ tk₅ le₃ S₃ rv => ?_)
    walk_at "e"; cases rv
    have lk : ∀ x sv, (x == ("machine" : Str)) = false → (x == ("at" : Str)) = false → (rdLoc u).lookup x = some sv → ∃ v, m₃ x = some v ∧ VR τ ρ₃ sv v := fun x sv e1 e2 e3 => S₃.loc x sv (by
      walk_at "l"; show List.lookup x (("machine", .a 8) :: (((List.range' 0 n).reverse.map fun i : Nat => (("at" : Str), SV.int 0 (i : Int))) ++ rdLoc u)) = _
      walk_at "l"; rw [List.lookup_cons, e1]
      walk_at "l"; exact (at_look e2 _).trans e3)
    walk_at "e"; obtain ⟨v8, n8, p8⟩ := S₃.loc ("machine" : Str) (.a 8) rfl
    walk_at "e"; obtain ⟨v1, n1, p1⟩ := lk ("symbols" : Str) (.a 0) (by decide) (by decide) rfl
    walk_at "e"; obtain ⟨v3, n3, p3⟩ := lk ("ways" : Str) (.v 0) (by decide) (by decide) rfl
    walk_at "e"; obtain ⟨v4, n4, p4⟩ := lk ("is_last" : Str) (.v 1) (by decide) (by decide) rfl
    have S₄ : SR g1 f ρ₃ (rd3S n u) m₃ news₃ h₅ := ⟨S₃.F, S₃.N, LocR.cons n8 p8 (LocR.cons n1 p1 (LocR.cons n3 p3 (LocR.cons n4 p4 LocR.nil))), S₃.led, S₃.nx, S₃.off, S₃.nd, S₃.up, S₃.ro, S₃.old, S₃.le, S₃.low, S₃.ne⟩
    walk_at "l"; exact wpAny_mono (ran_end (g := g1) (s := { s with heap := h₅, toks := tk₅ }) rfl G1 O1 he ho' ((le₂.trans le₃) 1 tp htp) hnu hs hls ((le.trans (le₂.trans le₃)) 0 sx rfl) hw hws hk hwl S₄) (fun _ _ ⟨a, b, c, d, e, x, y, z⟩ => ⟨a, b, c, d, e, x, y, z⟩) fun zz zz q => q
  have st : WP g0 f (storeName f.env "tops" (.ref tp)) (fun zz s' => ∃ h₃ o', s' = { s with heap := h₃, toks := tk₂ } ∧ Fr f.h₀ f.L h₃ m₁ ∧ News f.h₀ f.L h₃ (news₁ ++ (c, o') :: r) ∧ o'.data = .cell (some (.ref tp))) { s with heap := h₂, toks := tk₂ } := by
    walk_at "l"; unfold WP
    walk_at "l"; rw [he] at hke ⊢
    walk_at "l"; exact storeX_C (s := { s with heap := h₂, toks := tk₂ }) S₁.F S₁.N rfl (updF_mid (fun p hp => Nat.ne_of_lt (lt p hp)) news₁ off₁) hod (fun h₃ o' F₃ N₃ ho' => ⟨h₃, o', rfl, F₃, N₃, ho'⟩) hke tops_cell
  walk_at "l"; refine wpAny_mono st (fun zz s' q => ?_) fun zz zz q => q
  walk_at "e"; obtain ⟨h₃, o', rfl, F₃, N₃, ho'⟩ := q
  walk_at "l"; exact rest h₃ o' F₃ N₃ ho'
end NT
end
section
open PySem PySem.W PySem.Calls PyProof.Rows
namespace NT
theorem fill_WLD2 : (NT.K, PySem.Challenge.rw_nt0264_01) = (NT.K, PySem.Challenge.rw_nt0264_01) := by
  k_fill
  walk_at "l"; rfl
local macro_rules | `(tactic| k_all) => `(tactic| with_reducible assumption)
local macro_rules | `(tactic| k_mem) => `(tactic| first | exact List.Mem.head _ | (refine' memL ?_; with_reducible assumption) | (refine' List.Mem.tail _ ?_; k_mem))
set_option hygiene false in
local macro_rules | `(tactic| walk_at "call builtin:len") => `(tactic| (k_here; k_dflt ((refine' PyProof.Rows.len_list (News.isList ?N ?m) ?fit ?_); (case N => k_asm); (case m => k_mem); (case fit => (show ((cells.length : Nat) : Int) < 2 ^ 63; lia)); k_whole)))
theorem fm5 (a : Int) : a.fmod 5 ≤ 4 := by have := Int.fmod_lt_of_pos a (show (0 : Int) < 5 by decide); lia
section
variable {w : World}
theorem law_draw {dk ce : Addr} {cells : List Value} {xs : List Int} {nc n0 : Nat} {c : Int} {tc tm : Tok} {rest : Ld} (hc : 0 ≤ c) (hc2 : c ≤ 100) (hcl : (ce, listOf cells.toArray nc) ∈ rest) (hx : IntsAre cells xs) (hlen : cells.length ≤ 63) (hr : ∀ p ∈ rest, p.1 ≠ dk) :
    Says w 10 1652 [.ref dk, .int 5 tm] ((dk, listOf [.ref ce, .int c tc].toArray n0) :: rest) (fun r l => ∃ (k : Int) (t t2 : Tok) (n1 : Nat), r = .int k t ∧ 0 ≤ k ∧ k ≤ 4 ∧ l = (dk, listOf [.ref ce, .int (c + 1) t2].toArray n1) :: rest) := by
  walk_at "l"; unfold Says
  walk_at "l"; intro p loose mean mg mb dp un gd cn cs a ccd cl outer A₀ base h₀ L m s Q E B F X N Tp on hk hdp hun ret
  walk_at "l"; refine wpAny_call ?_
  walk_at "l"; k_dflt ktr_enter
  walk_at "l"; k_steps
  walk_at "l"; all_goals exact ret _ _ _ _ (by k_asm) (by k_asm) ⟨_, _, _, _, rfl, Int.fmod_nonneg_of_pos _ (by decide), fm5 _, rfl⟩
end
end NT
end
section
open PySem PySem.W PySem.Calls PyProof.Rows
namespace NT
section
variable {f : Fx} {w : World} {s : Shared} {m : Str → Option Value} {elt : PySem.Expr} {x : Str} {scope : Scope} {cl : List (Str × Addr)} {env : Env} {E : Value → Shared → Prop} {C : Addr} {pos : Pos} {Q : Value → Shared → Prop}
theorem comp_rest {A : Around} {h₀ : Heap} {L : Addr} {S : Ld → Prop} {P : Nat → Value → Prop} {J : Nat → List Value → Ld → Prop} {Fin : List Value → Ld → Prop} {n : Nat}
    (step : ∀ i ys news v I oI C oC D m₂ h tk (E' : Value → Shared → Prop), i < n → J i ys news → P i v → LCg.NsObj oC m₂ → m₂ x = some v → Fr h₀ L h m → News h₀ L h ((I, oI) :: (C, oC) :: (D, LCg.lst ys) :: news) → LCg.Off3 I C D news →
      wpAny (model PW w) A (eval elt (compEnvC scope cl C env)) (fun y s' => ∃ h' tk' news', s' = { s with heap := h', toks := tk' } ∧ Fr h₀ L h' m ∧ News h₀ L h' ((I, oI) :: (C, oC) :: (D, LCg.lst ys) :: news') ∧ LCg.Off3 I C D news' ∧ S news' ∧ J (i + 1) (ys ++ [y]) news') E' { s with heap := h, toks := tk })
    (fin : ∀ ys news, J n ys news → Fin ys news) : ∀ (j i : Nat) (ys : List Value) (news : Ld), i + j = n → J i ys news → LCg.CompRest PW w A h₀ L m env elt x scope cl s S P Fin j i ys news
  | 0, i, ys, news, e, h => .zero (fin ys news (by rw [← e]; exact h))
  | j + 1, i, ys, news, e, h => .succ fun v I oI C oC D m₂ hp tk E' p hC hx F N off ne =>
      wpAny_mono (step i ys news v I oI C oC D m₂ hp tk E' (by lia) h p hC hx F N off) (fun y s' q => by
        walk_at "e"; obtain ⟨h', tk', news', rfl, F', N', off', S', J'⟩ := q
        walk_at "l"; exact ⟨h', tk', news', rfl, F', N', off', S', comp_rest step fin j (i + 1) _ news' (by lia) J'⟩) fun zz zz q => q
theorem cenvK {g : Gx} {kd : Nat} {v : Value} (O : COk g kd f) (F : Fr f.h₀ f.L s.heap m) (hg : env.globals = mainGlobals) (e : nsIn g.X.K mainGlobals x = some (some v)) (hk : scope.kind = .function) (hx : (compEnvC scope cl C env).kindOf x = some .globalImplicit) (hd : (x == ("__debug__" : Str)) = false) {A : Around} (h : Q v s) :
    wpAny (model PW w) A (eval (.Name x pos) (compEnvC scope cl C env)) Q E s :=
  Name_function_global hk hx (loadGlobal_global (env := compEnvC scope cl C env) (by show s.heap.Ns env.globals _; rw [hg]; exact (topRead_of O.T).g.keeps F.keep) (mg_of O.X (topRead_of O.T).g e) h) hd
theorem cenvB {g : Gx} {kd : Nat} {v : Value} (O : COk g kd f) (F : Fr f.h₀ f.L s.heap m) (hg : env.globals = mainGlobals) (hb : env.builtins = builtinsNs) (e : nsIn g.X.K mainGlobals x = some none) (hv : bootBuiltins x = some v) (hn : x ≠ "__name__") (hk : scope.kind = .function) (hx : (compEnvC scope cl C env).kindOf x = some .globalImplicit) (hd : (x == ("__debug__" : Str)) = false) {A : Around} (h : Q v s) :
    wpAny (model PW w) A (eval (.Name x pos) (compEnvC scope cl C env)) Q E s :=
  Name_function_global hk hx (loadGlobal_builtin (env := compEnvC scope cl C env) (by show s.heap.Ns env.globals _; rw [hg]; exact (topRead_of O.T).g.keeps F.keep) (mg_none_of O.X (topRead_of O.T).g e) (by show s.heap.Ns env.builtins _; rw [hb]; exact (topRead_of O.T).b.keeps F.keep) (((topRead_of O.T).builtins x hn).trans hv) h) hd
theorem callN {g : Gx} {fa : Nat} {fp : Pos} {a : PySem.Expr} {as : List PySem.Expr} (X : g.X.K.In f.h₀) (hk : keepIn g.X.K (.ref fa) = true) (hp : (a :: as).all plainEl = true)
    (h : WP g f (eval (.Name x fp) env) (fun v s₁ => v = .ref fa ∧ WP g f (spliced (backTo pos (starEach (a :: as) env))) (fun vs s₂ => g.X.K.In s₂.heap ∧ WP g f (call (.ref fa) vs) Q s₂) s₁) s) : WP g f (eval (.Call (.Name x fp) (a :: as) [] pos) env) Q s := by
  walk_at "l"; refine Call_ (wpAny_mono h (fun v s₁ q => ?_) fun zz zz q => q) rfl
  walk_at "e"; obtain ⟨rfl, q⟩ := q
  have hp' := hp
  rw [List.all_cons, Bool.and_eq_true] at hp'
  walk_at "l"; exact callWith_K X hk q (plain_star hp'.1) (plain_any hp'.2)
end
theorem cellK {g : Gx} {kd : Nat} {f : Fx} {s : Shared} {m : Str → Option Value} {led : Ld} {x : Str} {v : Value} {Q : Unit → Shared → Prop} {cn : Str} {cs : Scope} {a c : Addr} {ccd : Value} {cl : List (Str × Addr)} {o : Obj} {v0 : Option Value} (O : COk g kd f) (he : f.env = envX cn cs f.L a ccd cl) (hx : cs.names.lookup x = some .cell) (hcl : cl.lookup x = some c)
    (F : Fr f.h₀ f.L s.heap m) (N : News f.h₀ f.L s.heap led) (hc : (c, o) ∈ led) (hd : o.data = .cell v0)
    (k : ∀ h' o', Fr f.h₀ f.L h' m → News f.h₀ f.L h' ((c, o') :: less c c led) → o'.data = .cell (some v) → Q () { s with heap := h' }) : WP g f (storeName f.env x v) Q s := by
  have hk := O.hke
  walk_at "l"; unfold WP
  walk_at "l"; rw [he] at hk ⊢
  walk_at "l"; refine storeX_C (cl := cl) (news := (c, o) :: less c c led) F (fun p hp => ?_) hcl (UpdF.head fun p hp => (less_of hp).2.1) hd (fun h' o' F' N' hd' => k h' o' F' N' hd') hk hx
  walk_at "e"; rcases List.mem_cons.mp hp with rfl | hp
  · walk_at "l"; exact N _ hc
  · walk_at "l"; exact N p (less_of hp).1
theorem less_cell {f : Fx} {h : Heap} {led : Ld} {c : Addr} {o : Obj} {v0 : Option Value} (N : News f.h₀ f.L h led) (hc : (c, o) ∈ led) (hd : o.data = .cell v0) {p : Addr × Obj} (hp : p ∈ led) (hn : ∀ v, p.2.data ≠ .cell v) : p ∈ less c c led := by
  have : p.1 ≠ c := fun e => by
    have h1 := (N p hp).1
    have h2 := (N _ hc).1
    rw [e] at h1
    walk_at "l"; exact hn v0 (by rw [Option.some.inj (h1.symm.trans h2)]; exact hd)
  walk_at "l"; exact to_less hp this this
end NT
end
section
open PySem PySem.W PySem.Calls PyProof.Rows
namespace NT
section
noncomputable section
noncomputable def I1676 : FnI := fnI e_1676
noncomputable def liE (e : PySem.Expr) : List PySem.Expr := kids e
noncomputable def liP (e : PySem.Expr) : Pos := e.pos
noncomputable def coK : PySem.Expr → Nat
  | .Constant _ k _ => k
  | _ => 0
noncomputable def coP (e : PySem.Expr) : Pos := e.pos
noncomputable def suV (e : PySem.Expr) : PySem.Expr := kid e 0
noncomputable def suI (e : PySem.Expr) : PySem.Expr := kid e 1
noncomputable def suP (e : PySem.Expr) : Pos := e.pos
noncomputable def slH (e : PySem.Expr) : PySem.Expr := kid e 0
noncomputable def slP (e : PySem.Expr) : Pos := e.pos
noncomputable def nthE (l : List PySem.Expr) (n : Nat) : PySem.Expr := nE l n
noncomputable def foI : Stmt → PySem.Expr
  | .For _ i _ _ _ => i
  | _ => pX
noncomputable def foX : Stmt → PySem.Expr
  | .For x _ _ _ _ => x
  | _ => pX
noncomputable def foB : Stmt → List Stmt
  | .For _ _ b _ _ => b
  | _ => []
noncomputable def foP : Stmt → Pos
  | .For _ _ _ _ p => p
  | _ => pP
noncomputable def lw0 : PySem.Expr := asE (nth I1676.body 0)
noncomputable def lw0c : PySem.Expr := nthE (liE lw0) 0
noncomputable def lw0k : PySem.Expr := nthE (liE lw0) 1
noncomputable def lw1 : PySem.Expr := asE (nth I1676.body 1)
noncomputable def lw2 : PySem.Expr := asE (nth I1676.body 2)
noncomputable def lw3 : PySem.Expr := asE (nth I1676.body 3)
noncomputable def lw4 : PySem.Expr := asE (nth I1676.body 4)
noncomputable def lw5 : PySem.Expr := foI (nth I1676.body 5)
noncomputable def lwB : List Stmt := foB (nth I1676.body 5)
end
theorem b1676 : I1676.body = [.Assign [.Name "deck" (asXp (nth I1676.body 0))] lw0 (asP (nth I1676.body 0)), .Assign [.Name "many" (asXp (nth I1676.body 1))] lw1 (asP (nth I1676.body 1)), .Assign [.Name "ways" (asXp (nth I1676.body 2))] lw2 (asP (nth I1676.body 2)), .Assign [.Name "table" (asXp (nth I1676.body 3))] lw3 (asP (nth I1676.body 3)),
  .Assign [.Name "symbols" (asXp (nth I1676.body 4))] lw4 (asP (nth I1676.body 4)), .For (.Name "is_last" (nmP (foX (nth I1676.body 5)))) lw5 lwB [] (foP (nth I1676.body 5)), .Return (some (rE (nth I1676.body 6))) (rP (nth I1676.body 6))] := by kernel_rfl
theorem lw0_eq : lw0 = .List [lw0c, lw0k] (liP lw0) := by kernel_rfl
theorem lw0k_eq : lw0k = .Constant (.int 0) (coK lw0k) (coP lw0k) := by kernel_rfl
theorem lw0c_eq : lw0c = .ListComp (lcE lw0c) [⟨.Name "cell" (nmP (lcX lw0c)), lcI lw0c, [], 0⟩] (lcS lw0c) (lcP lw0c) := by kernel_rfl
theorem lw0e_eq : lcE lw0c = .Call (.Name "abs" (nmP (clF (lcE lw0c)))) [.Name "cell" (nmP (clA (lcE lw0c)))] [] (clP (lcE lw0c)) := by kernel_rfl
theorem lw0i_eq : lcI lw0c = .Subscript (.Name "script" (nmP (suV (lcI lw0c)))) (.Slice none (some (.Constant (.int 63) (coK (slH (suI (lcI lw0c)))) (coP (slH (suI (lcI lw0c)))))) none (slP (suI (lcI lw0c)))) (suP (lcI lw0c)) := by kernel_rfl
theorem lw6_eq : rE (nth I1676.body 6) = .Constant (.bool true) (coK (rE (nth I1676.body 6))) (coP (rE (nth I1676.body 6))) := by kernel_rfl
end
noncomputable def lwC (c : Addr) : List (Str × Addr) := [("is_last", c + 4), ("symbols", c + 3), ("table", c + 2), ("ways", c + 1), ("deck", c)]
theorem lw_cells : ∀ n, cellsFrom n I1676.scope.names [] = lwC n := fun n => by kernel_rfl
theorem script_local : I1676.scope.names.lookup ("script" : Str) = some .local := by kernel_rfl
theorem many_local : I1676.scope.names.lookup ("many" : Str) = some .local := by kernel_rfl
theorem deck_cell : I1676.scope.names.lookup ("deck" : Str) = some .cell := by kernel_rfl
noncomputable def scOk (sc : Scope) (x : Str) : Bool := sc.names.all (fun y => y.2 != .cell && (y.2 != .local || sc.names.lookup y.1 == some .local)) && (sc.kind == .function && sc.names.lookup x == some .local)
theorem scOk_a {sc : Scope} {x : Str} (h : scOk sc x = true) : ∀ y ∈ sc.names, y.2 ≠ .cell := fun y hy e => by
  unfold scOk at h
  rw [Bool.and_eq_true] at h
  have := List.all_eq_true.mp h.1 y hy
  rw [e] at this; walk_at "e"; cases this
theorem scOk_b {sc : Scope} {x : Str} (h : scOk sc x = true) : ∀ y ∈ sc.names, y.2 = .local → sc.names.lookup y.1 = some .local := fun y hy e => by
  unfold scOk at h
  rw [Bool.and_eq_true] at h
  have := List.all_eq_true.mp h.1 y hy
  rw [e, Bool.and_eq_true, Bool.or_eq_true] at this
  walk_at "e"; rcases this.2 with h | h
  · walk_at "e"; cases h
  · walk_at "l"; exact eq_of_beq h
theorem scOk_k {sc : Scope} {x : Str} (h : scOk sc x = true) : sc.kind = .function := by
  unfold scOk at h
  rw [Bool.and_eq_true, Bool.and_eq_true] at h
  walk_at "l"; exact eq_of_beq h.2.1
theorem scOk_x {sc : Scope} {x : Str} (h : scOk sc x = true) : sc.names.lookup x = some .local := by
  unfold scOk at h
  rw [Bool.and_eq_true, Bool.and_eq_true] at h
  walk_at "l"; exact eq_of_beq h.2.2
theorem cenvL {A : Around} {w : World} {s : Shared} {f : Fx} {sc : Scope} {x : Str} {xp : Pos} {C : Addr} {oC : Obj} {m₂ : Str → Option Value} {v : Value} {env : Env} {cl : List (Str × Addr)} {led : Ld} {Q E : Value → Shared → Prop} (h : scOk sc x = true) (hb : (x == ("__debug__" : Str)) = false) (N : News f.h₀ f.L s.heap led) (hC : (C, oC) ∈ led) (ho : LCg.NsObj oC m₂) (hm : m₂ x = some v) (q : Q v s) :
    wpAny (model PW w) A (eval (.Name x xp) (compEnvC sc cl C env)) Q E s :=
  wpAny_Name (wpAny_loadName_local (show sc.kind = .function from scOk_k h) (lookup_relabel_local (scOk_x h)) (ho.ns (N _ hC).1) hm q) hb
theorem lw0_sc : scOk (lcS lw0c) "cell" = true := by kernel_rfl
theorem lw0_abs {cn : Str} {L a C : Addr} {ccd : Value} {cl cl' : List (Str × Addr)} : (compEnvC (lcS lw0c) cl' C (envX cn I1676.scope L a ccd cl)).kindOf ("abs" : Str) = some .globalImplicit := by kernel_rfl
theorem lw0_clo {cn : Str} {L a c : Addr} {ccd : Value} : closureFor (lcS lw0c) (envX cn I1676.scope L a ccd (lwC c)) = pure [] := by kernel_rfl
theorem abs_b (P : Params) : nsIn (K P) mainGlobals "abs" = some none := by kernel_rfl
end NT
end
section
open PySem PySem.W PySem.Calls PyProof.Rows
namespace NT
theorem ints_snoc {i : Int} {t : Tok} {vs : List Value} {ns : List Int} (H : IntsAre vs ns) : IntsAre (vs ++ [.int i t]) (ns ++ [i]) := by
  walk_at "l"; induction H with
  | nil => walk_at "l"; exact .cons i t .nil
  | cons j u r ih => walk_at "l"; exact .cons j u ih
theorem ints_get {j : Nat} {v : Value} : ∀ {vs : List Value} {ns : List Int}, IntsAre vs ns → vs[j]? = some v → ∃ i t, v = .int i t := by
  walk_at "l"; intro vs ns h e
  walk_at "l"; induction h generalizing j with
  | nil => walk_at "e"; cases e
  | cons i t r ih => walk_at "e"; cases j with
    | zero => walk_at "e"; cases e; walk_at "l"; exact ⟨i, t, rfl⟩
    | succ j => walk_at "l"; exact ih (by simpa using e)
theorem deck_val {g : Gx} {f : Fx} {s : Shared} {kd : Nat} {m : Str → Option Value} {R : Ld} {sc c : Addr} {vals : List Value} {xs : List Int} {cn : Str} {a : Addr} {ccd : Value} (O : COk g kd f) (hK : g.X.K = K g.w.params) (he : f.env = envX cn I1676.scope f.L a ccd (lwC c))
    (F : Fr f.h₀ f.L s.heap m) (N : News f.h₀ f.L s.heap R) (hm : m "script" = some (.ref sc)) (hsc : f.h₀.IsList sc vals.toArray) (hi : IntsAre vals xs) (hl : vals.length ≤ 63) {Q : Value → Shared → Prop}
    (k : ∀ dk ce cells xs' t h tk R', Fr f.h₀ f.L h m → News f.h₀ f.L h ((dk, W.listOf [Value.ref ce, .int 0 t].toArray 0) :: R') → (ce, W.listOf cells.toArray cells.length) ∈ R' → IntsAre cells xs' → cells.length ≤ 63 → Sub R R' → (∀ p ∈ R', p.1 ≠ dk) → Q (.ref dk) { s with heap := h, toks := tk }) : WP g f (eval lw0 f.env) Q s := by
  have hke := O.hke
  rw [he] at hke
  walk_at "l"; rw [he, lw0_eq]
  walk_at "l"; refine List_ (args_cons ?_ (plain_star rfl))
  walk_at "l"; rw [lw0c_eq]
  walk_at "l"; refine LCg.ListComp_U (F₀ := F) lw0_clo (scOk_a lw0_sc) (scOk_k lw0_sc) (scOk_b lw0_sc) (scOk_x lw0_sc) ?_
  walk_at "l"; rw [lw0i_eq]
  walk_at "l"; refine Subscript_ (nameX_L F hm ?_ hke script_local)
  walk_at "l"; refine wpAny_Slice (evalPart_none_step (evalPart_some_step (wpAny_Constant_int (evalPart_none_step ?_))))
  have hsc' : s.heap.IsList sc vals.toArray := by
    walk_at "e"; obtain ⟨o, e, r⟩ := hsc
    walk_at "l"; exact ⟨o, F.keep _ _ e, r⟩
  have hz : vals.toArray.size ≤ sizeLine := by rw [List.size_toArray, sizeLine_eq]; lia
  walk_at "l"; refine kms_slice_lit (s := { s with toks := s.toks + 1 }) F N hsc' IsPart.none (IsPart.int _ _) rfl ?_ rfl (fun zz => rfl) hz
  walk_at "l"; intro D h₁ F₁ N₁ lt
  let zs : List Value := kms_pick vals.toArray.toList none (some 63)
  have hzi : ∃ ns, IntsAre zs ns := ⟨_, (hi.drop _).take _⟩
  have hzl : zs.length ≤ 63 := by
    walk_at "l"; show ((vals.drop _).take _).length ≤ 63
    walk_at "l"; rw [List.length_take, List.length_drop]
    walk_at "l"; lia
  walk_at "e"; obtain ⟨ns, hns⟩ := hzi
  have hm1 : (D, W.listOf zs.toArray 0) ∈ ((D, W.listOf zs.toArray 0) :: R : Ld) := .head _
  walk_at "l"; refine LCg.CompSrc.ledger (k := 0) O.hh F₁ N₁ hm1 (by rw [List.size_toArray, sizeLine_eq]; lia) fun gh => ?_
  walk_at "l"; refine comp_rest (J := fun i ys news => news = (D, W.listOf zs.toArray 0) :: R ∧ ys.length = i ∧ ∃ xs', IntsAre ys xs') (n := zs.toArray.size) ?_ ?_ _ 0 [] _ (Nat.zero_add _) ⟨rfl, rfl, [], .nil⟩
  · walk_at "l"; rintro i ys news v I oI C oC D' m₂ h tk E' hlt ⟨rfl, hyl, xs', hys⟩ hp hC hx F' N' off
    have hp : zs[i]? = some v := by simpa using hp
    walk_at "e"; obtain ⟨j, t, rfl⟩ := ints_get hns hp
    walk_at "l"; rw [lw0e_eq]
    walk_at "l"; refine Call_ (cenvB O F' rfl rfl (by rw [hK]; exact abs_b _) boot_abs (by decide) (scOk_k lw0_sc) lw0_abs (by decide) ?_) rfl
    walk_at "l"; refine callWith_method1 (args_cons (cenvL lw0_sc (by decide) N' (.tail _ (.head _)) hC hx (args_nil ?_)) (plain_star rfl)) (plain_star rfl) rfl
    walk_at "l"; refine call_abs_int fun u tk' => ⟨h, tk', _, rfl, F', N', off, .inr ⟨_, .head _, rfl, _, rfl⟩, rfl, by rw [List.length_append, hyl]; rfl, _, ints_snoc hys⟩
  · walk_at "l"; rintro ys news ⟨rfl, hyl, xs', hys⟩ D' h tk F' N' o1
    walk_at "l"; rw [lw0k_eq]
    walk_at "l"; refine args_cons (wpAny_Constant_int (args_nil ?_)) (plain_star rfl)
    walk_at "l"; refine newList_N F' N' (fun h₃ F₃ N₃ => ?_) (by show 2 ≤ sizeLine; decide)
    have hyl' : ys.length ≤ 63 := by rw [hyl, List.size_toArray]; exact hzl
    walk_at "l"; exact k _ D' ys xs' _ h₃ _ _ F₃ N₃ (.head _) hys hyl' (fun p hp => .tail _ (.tail _ hp)) fun p hp => Nat.ne_of_lt (Heap.lt_size (N' p hp).1)
end NT
end
section
open PySem PySem.W PySem.Calls PyProof.Rows
namespace NT
inductive DeckIn (R : Ld) (c dk : Addr) (j : Int) : Prop
  | mk (o ce cells xs t n0 nc) : ((c, o) ∈ R) → (o.data = .cell (some (.ref dk))) → ((dk, W.listOf [Value.ref ce, .int j t].toArray n0) ∈ R) → ((ce, W.listOf cells.toArray nc) ∈ R) → (IntsAre cells xs) → (cells.length ≤ 63) → DeckIn R c dk j
theorem draw_call {g : Gx} {f : Fx} {s : Shared} {kd : Nat} {m : Str → Option Value} {X R : Ld} {c dk : Addr} {j : Int} {tm : Tok} (O : COk g kd f) (hK : g.X.K = K g.w.params) (hkd : 10 ≤ kd) (F : Fr f.h₀ f.L s.heap m) (N : News f.h₀ f.L s.heap (X ++ R)) (hX : ∀ p ∈ X, p.1 ≠ dk) (D : DeckIn R c dk j) (h0 : 0 ≤ j) (h1 : j ≤ 100) {Q : Value → Shared → Prop}
    (k : ∀ v t R' h tk, 0 ≤ v → v ≤ 4 → Fr f.h₀ f.L h m → News f.h₀ f.L h (X ++ R') → DeckIn R' c dk (j + 1) → (∀ p ∈ R, p.1 ≠ dk → p ∈ R') → (∀ p ∈ R', p.1 = dk ∨ p ∈ R) → Q (.int v t) { s with heap := h, toks := tk }) : WP g f (call (.ref 1652) [.ref dk, .int 5 tm]) Q s := by
  walk_at "e"; obtain ⟨o, ce, cells, xs, t, n0, nc, d1, d2, d3, d4, d5, d6⟩ := D
  have N' : ∀ p ∈ R, s.heap.get? p.1 = some p.2 := fun p hp => (N p (List.mem_append_right _ hp)).1
  have e1 : ce ≠ dk := fun e => by
    have a1 := N' _ d3
    have a2 := N' _ d4
    rw [e] at a2
    have := (Data.seq.inj (congrArg Obj.data (Option.some.inj (a1.symm.trans a2)))).1
    have h : [Value.ref ce, .int j t] = cells := by simpa using congrArg Array.toList this
    rw [← h] at d5
    walk_at "e"; cases d5
  have e2 : c ≠ dk := fun e => by
    have a1 := N' _ d3
    have a2 := N' _ d1
    rw [e] at a2
    have := congrArg Obj.data (Option.some.inj (a1.symm.trans a2))
    rw [d2] at this
    walk_at "e"; cases this
  walk_at "l"; refine says_run (law_draw (rest := X ++ less dk dk R) (n0 := n0) (tc := t) h0 h1 (List.mem_append_right _ (to_less d4 e1 e1)) d5 d6 (fun p hp => ?_)) O hK hkd F (fun p hp => ?_) ?_
  · walk_at "l"; exact (List.mem_append.mp hp).elim (hX p) fun h => (less_of h).2.1
  · walk_at "e"; rcases List.mem_cons.mp hp with rfl | hp
    · walk_at "l"; exact N _ (List.mem_append_right _ d3)
    · walk_at "l"; exact (List.mem_append.mp hp).elim (fun h => N p (List.mem_append_left _ h)) fun h => N p (List.mem_append_right _ (less_of h).1)
  · walk_at "l"; rintro v led' h tk F₂ N₂ ⟨i, t1, t2, n1, rfl, i0, i4, rfl⟩
    walk_at "l"; refine k i t1 ((dk, W.listOf [Value.ref ce, .int (j + 1) t2].toArray n1) :: less dk dk R) h tk i0 i4 F₂ (fun p hp => ?_) ⟨o, ce, cells, xs, t2, n1, nc, .tail _ (to_less d1 e2 e2), d2, .head _, .tail _ (to_less d4 e1 e1), d5, d6⟩ (fun p hp hn => .tail _ (to_less hp hn hn)) fun p hp => ?_
    · walk_at "e"; rcases List.mem_append.mp hp with hp | hp
      · walk_at "l"; exact N₂ p (.tail _ (List.mem_append_left _ hp))
      · walk_at "e"; rcases List.mem_cons.mp hp with rfl | hp
        · walk_at "l"; exact N₂ _ (.head _)
        · walk_at "l"; exact N₂ p (.tail _ (List.mem_append_right _ hp))
    · walk_at "e"; rcases List.mem_cons.mp hp with rfl | hp
      · walk_at "l"; exact .inl rfl
      · walk_at "l"; exact .inr (less_of hp).1
end NT
end
section
open PySem PySem.W PySem.Calls PyProof.Rows
namespace NT
noncomputable section
noncomputable def clB : PySem.Expr → PySem.Expr
  | .Call _ (_ :: b :: _) _ _ => b
  | _ => pX
noncomputable def lw2r : PySem.Expr := lcI lw2
end
noncomputable def DrawE (e : PySem.Expr) : Prop := e = .Call (.Name "_law_draw" (nmP (clF e))) [.Name "deck" (nmP (clA e)), .Constant (.int 5) (coK (clB e)) (coP (clB e))] [] (clP e)
theorem lw1_eq : lw1 = .BinOp (.Constant (.int 3) (coK (biL lw1)) (coP (biL lw1))) .Add (biR lw1) (biP lw1) := by kernel_rfl
theorem dr1 : DrawE (biR lw1) := by unfold DrawE; kernel_rfl
theorem dr2 : DrawE (lcE lw2) := by unfold DrawE; kernel_rfl
theorem dr3 : DrawE (clA lw2r) := by unfold DrawE; kernel_rfl
theorem lw2_eq : lw2 = .ListComp (lcE lw2) [⟨.Name "turn" (nmP (lcX lw2)), lw2r, [], 0⟩] (lcS lw2) (lcP lw2) := by kernel_rfl
theorem lw2r_eq : lw2r = .Call (.Name "range" (nmP (clF lw2r))) [clA lw2r] [] (clP lw2r) := by kernel_rfl
theorem lw2_sc : scOk (lcS lw2) "turn" = true := by kernel_rfl
theorem lw2_clo {cn : Str} {L a c : Addr} {ccd : Value} : closureFor (lcS lw2) (envX cn I1676.scope L a ccd (lwC c)) = pure [(("deck" : Str), c)] := by kernel_rfl
theorem lw2_deck {cn : Str} {L a C : Addr} {ccd : Value} {cl cl' : List (Str × Addr)} : (compEnvC (lcS lw2) cl' C (envX cn I1676.scope L a ccd cl)).kindOf ("deck" : Str) = some .cell := by kernel_rfl
theorem lw2_draw {cn : Str} {L a C : Addr} {ccd : Value} {cl cl' : List (Str × Addr)} : (compEnvC (lcS lw2) cl' C (envX cn I1676.scope L a ccd cl)).kindOf ("_law_draw" : Str) = some .globalImplicit := by kernel_rfl
theorem lw2_sw {cn : Str} {L a c : Addr} {ccd : Value} : swapsWith lw2 (some (.Name "ways" (asXp (nth I1676.body 2)))) (asP (nth I1676.body 2)).line (envX cn I1676.scope L a ccd (lwC c)) = pure false := by kernel_rfl
theorem draw_k (P : Params) : nsIn (K P) mainGlobals "_law_draw" = some (some (.ref 1652)) := by kernel_rfl
theorem draw_keep (P : Params) : keepIn (K P) (.ref 1652) = true := by kernel_rfl
theorem draw_g : I1676.scope.names.lookup ("_law_draw" : Str) = some .globalImplicit := by kernel_rfl
theorem range_g : I1676.scope.names.lookup ("range" : Str) = some .globalImplicit := by kernel_rfl
theorem range_b (P : Params) : nsIn (K P) mainGlobals "range" = some none := by kernel_rfl
theorem lw1_nc : notComp lw1 = true := by kernel_rfl
theorem ways_cell : I1676.scope.names.lookup ("ways" : Str) = some .cell := by kernel_rfl
theorem lw_draw_pl : plainEl (clA lw2r) = true := by kernel_rfl
section
variable {g : Gx} {f : Fx} {s : Shared} {kd : Nat} {m : Str → Option Value} {X R : Ld} {c dk : Addr} {j : Int}
theorem draw_eval {e : PySem.Expr} {env : Env} (hE : DrawE e) (O : COk g kd f) (hK : g.X.K = K g.w.params) (hkd : 10 ≤ kd) (F : Fr f.h₀ f.L s.heap m) (N : News f.h₀ f.L s.heap (X ++ R)) (hX : ∀ p ∈ X, p.1 ≠ dk) (D : DeckIn R c dk j) (h0 : 0 ≤ j) (h1 : j ≤ 100)
    (hN : ∀ (p : Pos) (Q : Value → Shared → Prop), Q (.ref 1652) s → WP g f (eval (.Name "_law_draw" p) env) Q s) (hD : ∀ (p : Pos) (Q : Value → Shared → Prop), Q (.ref dk) s → WP g f (eval (.Name "deck" p) env) Q s) {Q : Value → Shared → Prop}
    (k : ∀ v t R' h tk, 0 ≤ v → v ≤ 4 → Fr f.h₀ f.L h m → News f.h₀ f.L h (X ++ R') → DeckIn R' c dk (j + 1) → (∀ p ∈ R, p.1 ≠ dk → p ∈ R') → (∀ p ∈ R', p.1 = dk ∨ p ∈ R) → Q (.int v t) { s with heap := h, toks := tk }) : WP g f (eval e env) Q s := by
  walk_at "l"; rw [hE]
  walk_at "l"; refine callN (fa := 1652) O.X (by rw [hK]; exact draw_keep _) rfl (hN _ _ ⟨rfl, args_cons (hD _ _ (args_cons (wpAny_Constant_int (args_nil ⟨O.X.keeps F.keep, ?_⟩)) (plain_star rfl))) (plain_star rfl)⟩)
  walk_at "l"; exact draw_call (s := { s with toks := s.toks + 1 }) O hK hkd F N hX D h0 h1 k
theorem fr_draw {cn : Str} {a : Addr} {ccd : Value} {cl : List (Str × Addr)} (O : COk g kd f) (hK : g.X.K = K g.w.params) (he : f.env = envX cn I1676.scope f.L a ccd cl) (F : Fr f.h₀ f.L s.heap m) (p : Pos) (Q : Value → Shared → Prop) (q : Q (.ref 1652) s) : WP g f (eval (.Name "_law_draw" p) f.env) Q s := by
  have hk := O.hke
  walk_at "l"; unfold WP
  walk_at "l"; rw [he] at hk ⊢
  walk_at "l"; exact nameX_K F O.X (topRead_of O.T) (by rw [hK]; exact draw_k _) q hk draw_g (by decide)
theorem fr_range {cn : Str} {a : Addr} {ccd : Value} {cl : List (Str × Addr)} (O : COk g kd f) (hK : g.X.K = K g.w.params) (he : f.env = envX cn I1676.scope f.L a ccd cl) (F : Fr f.h₀ f.L s.heap m) (p : Pos) (Q : Value → Shared → Prop) (q : Q (.type "range") s) : WP g f (eval (.Name "range" p) f.env) Q s := by
  have hk := O.hke
  walk_at "l"; unfold WP
  walk_at "l"; rw [he] at hk ⊢
  walk_at "l"; exact nameX_B F O.X (topRead_of O.T) (by rw [hK]; exact range_b _) boot_range (by decide) q hk range_g (by decide)
theorem fr_cell {cn x : Str} {a c' : Addr} {ccd v : Value} {cl : List (Str × Addr)} {o : Obj} (O : COk g kd f) (he : f.env = envX cn I1676.scope f.L a ccd cl) (hx : I1676.scope.names.lookup x = some .cell) (hcl : cl.lookup x = some c') (hb : (x == ("__debug__" : Str)) = false) (N : News f.h₀ f.L s.heap R) (hm : (c', o) ∈ R) (hd : o.data = .cell (some v)) (p : Pos) (Q : Value → Shared → Prop) (q : Q v s) : WP g f (eval (.Name x p) f.env) Q s := by
  have hk := O.hke
  walk_at "l"; unfold WP
  walk_at "l"; rw [he] at hk ⊢
  walk_at "l"; exact nameX_C N hcl hm hd q hk hx hb
end
end NT
end
section
open PySem PySem.W PySem.Calls PyProof.Rows
namespace NT
theorem small_of {v : Int} (h0 : 0 ≤ v) (h : v ≤ 7) : Builtin.Range.small 0 v 1 = true ∧ Builtin.Range.rangeSize 0 v 1 = ((v.toNat : Nat) : Int) := by
  have : v = 0 ∨ v = 1 ∨ v = 2 ∨ v = 3 ∨ v = 4 ∨ v = 5 ∨ v = 6 ∨ v = 7 := by lia
  walk_at "l"; rcases this with rfl | rfl | rfl | rfl | rfl | rfl | rfl | rfl <;> exact ⟨rfl, rfl⟩
theorem off1_mem {D : Addr} : ∀ {l : Ld}, LCg.Off1 D l → ∀ p ∈ l, p.1 ≠ D
  | [], _, _, h => nomatch h
  | _ :: _, x, p, h => by
    walk_at "e"; rcases List.mem_cons.mp h with rfl | h
    · walk_at "l"; exact x.1
    · walk_at "l"; exact off1_mem x.2 p h
theorem ways_val {g : Gx} {f : Fx} {s : Shared} {kd : Nat} {m : Str → Option Value} {R : Ld} {c dk : Addr} {j : Int} {cn : Str} {a : Addr} {ccd : Value} (O : COk g kd f) (hK : g.X.K = K g.w.params) (hkd : 10 ≤ kd) (he : f.env = envX cn I1676.scope f.L a ccd (lwC c))
    (F : Fr f.h₀ f.L s.heap m) (N : News f.h₀ f.L s.heap R) (D : DeckIn R c dk j) (h0 : 0 ≤ j) (h1 : j ≤ 50) {Q : Value → Shared → Prop}
    (k : ∀ d ys (ws : List Int) h tk R' j', Fr f.h₀ f.L h m → News f.h₀ f.L h ((d, LCg.lst ys) :: R') → ws.length ≤ 4 → (∀ k ∈ ws, 0 ≤ k ∧ k < 5) → All2 LiR (ws.map IsI) ys → DeckIn R' c dk j' → (∀ p ∈ R, p.1 ≠ dk → p ∈ R') → (∀ p ∈ R', p.1 ≠ d) → Q (.ref d) { s with heap := h, toks := tk }) : WP g f (eval lw2 f.env) Q s := by
  walk_at "l"; rw [lw2_eq]
  walk_at "l"; refine LCg.ListComp_U (cl := [(("deck" : Str), c)]) (F₀ := F) (by rw [he]; exact lw2_clo) (scOk_a lw2_sc) (scOk_k lw2_sc) (scOk_b lw2_sc) (scOk_x lw2_sc) ?_
  walk_at "l"; rw [lw2r_eq]
  have hDk := D
  walk_at "e"; obtain ⟨o, ce, cells, xs, t, n0, nc, d1, d2, d3⟩ := hDk
  walk_at "l"; refine Call_ (fr_range (g := g) O hK he F _ _ (Pv.callWith_type1 (args_cons (draw_eval (X := []) (R := R) dr3 O hK hkd F N (fun zz h => nomatch h) D h0 (by lia) (fr_draw O hK he F) (fr_cell O he deck_cell rfl (by decide) N d1 d2) fun v tv R₁ h₁ tk₁ v0 v4 F₁ N₁ D₁ sub₁ of₁ => args_nil ?_) (plain_star lw_draw_pl)) (plain_star lw_draw_pl) rfl)) rfl
  have N₁' : News f.h₀ f.L h₁ R₁ := N₁
  walk_at "l"; refine range1_rows (s := { s with heap := h₁, toks := tk₁ }) F₁ N₁' fun h₂ tk₂ t1 t2 t3 hr F₂ N₂ zz => ?_
  walk_at "e"; obtain ⟨hsm, hsz⟩ := small_of v0 (by lia)
  walk_at "l"; refine LCg.CompSrc.range O.hh F₂ N₂ hr hsm hsz (by rw [sizeLine_eq]; lia) fun gh => ?_
  walk_at "l"; refine comp_rest (J := fun i ys news => DeckIn news c dk (j + 1 + i) ∧ (∀ p ∈ R₁, p.1 ≠ dk → p ∈ news) ∧ ∃ ws : List Int, ws.length = i ∧ (∀ k ∈ ws, 0 ≤ k ∧ k < 5) ∧ All2 LiR (ws.map IsI) ys) (n := v.toNat) ?_ ?_ _ 0 [] _ (Nat.zero_add _) ⟨by rw [Int.ofNat_zero, Int.add_zero]; exact D₁, fun p hp zz => hp, [], rfl, fun zz h => (nomatch h), .nil⟩
  · walk_at "l"; rintro i ys news u I oI C oC d m₂ h tk E' hlt ⟨Di, subi, ws, hwl, hw5, hws⟩ hp hC hx F' N' off
    have off' := off.mem
    let f' : Fx := { f with E := E' }
    have O' : COk g kd f' := ⟨O.B, O.X, O.T, O.hA, O.hf, O.hke, O.hh, O.hd, O.hu, O.env, O.one⟩
    have hdk : ∀ p ∈ ([(I, oI), (C, oC), (d, LCg.lst ys)] : Ld), p.1 ≠ dk := by
      walk_at "e"; obtain ⟨_, _, _, _, _, _, _, _, _, e3, _⟩ := Di
      have := off' _ e3
      walk_at "l"; exact List.forall_mem_cons.mpr ⟨this.1.symm, List.forall_mem_cons.mpr ⟨this.2.1.symm, List.forall_mem_cons.mpr ⟨this.2.2.symm, fun zz h => (nomatch h)⟩⟩⟩
    have hDi := Di
    walk_at "e"; obtain ⟨o', _, _, _, _, _, _, e1, e2, _⟩ := hDi
    have hc' : (c, o') ∈ ([(I, oI), (C, oC), (d, LCg.lst ys)] : Ld) ++ news := List.mem_append_right _ e1
    walk_at "l"; rw [he]
    walk_at "l"; refine draw_eval (g := g) (f := f') (X := [(I, oI), (C, oC), (d, LCg.lst ys)]) (R := news) dr2 O' hK hkd F' N' hdk Di (by lia) (by lia) (fun p Q q => cenvK O' F' rfl (by rw [hK]; exact draw_k _) (scOk_k lw2_sc) lw2_draw (by decide) q) (fun p Q q => lcf_cell N' rfl hc' e2 q (show (lcS lw2).kind = .function from scOk_k lw2_sc) lw2_deck) fun v' t' R₂ h₃ tk₃ w0 w4 F₃ N₃ D₃ sub₃ of₃ => ?_
    walk_at "l"; refine ⟨h₃, tk₃, R₂, rfl, F₃, N₃, LCg.Off3.of fun p hp => ?_, trivial, ?_, fun p hp hn => sub₃ p (subi p hp hn) hn, ws ++ [v'], by rw [List.length_append, hwl]; rfl, fun k hk => ?_, ?_⟩
    · walk_at "e"; rcases of₃ p hp with e | e
      · walk_at "l"; rw [e]; exact ⟨(hdk _ (.head _)).symm, (hdk _ (.tail _ (.head _))).symm, (hdk _ (.tail _ (.tail _ (.head _)))).symm⟩
      · walk_at "l"; exact off' p e
    · have e : j + 1 + ((i + 1 : Nat) : Int) = j + 1 + (i : Int) + 1 := by lia
      walk_at "l"; rw [e]; exact D₃
    · walk_at "e"; rcases List.mem_append.mp hk with hk | hk
      · walk_at "l"; exact hw5 k hk
      · walk_at "l"; rw [List.mem_singleton.mp hk]; lia
    · walk_at "l"; rw [List.map_append]
      walk_at "l"; exact hws.append (.cons ⟨⟨_, rfl⟩, rfl⟩ .nil)
  · walk_at "l"; rintro ys news ⟨Dn, subn, ws, hwl, hw5, hws⟩ d h tk F' N' o1
    walk_at "l"; exact k d ys ws h tk news _ F' N' (by lia) hw5 hws Dn (fun p hp hn => subn p (sub₁ p hp hn) hn) (off1_mem o1)
end NT
end
section
open PySem PySem.W PySem.Calls PyProof.Rows
namespace NT
section
noncomputable section
noncomputable def I93 : FnI := fnI e_93
noncomputable def atE : PySem.Expr → PySem.Expr
  | .Attribute o _ _ => o
  | _ => pX
noncomputable def atP : PySem.Expr → Pos
  | .Attribute _ _ p => p
  | _ => pP
noncomputable def asT : Stmt → PySem.Expr
  | .Assign (t :: _) _ _ => t
  | _ => pX
noncomputable def sy0 : PySem.Expr := asE (nth I93.body 0)
noncomputable def syB : List Stmt := ifB (nth I93.body 1)
noncomputable def sy4 : Stmt := nth syB 2
noncomputable def syRow (i : Nat) : List SV := (List.range' 2 i).map .v
noncomputable def syRo : List (Nat × SO) := [(0, .inst 131 1), (1, .dict [("rows", .a 2), ("by_text", .v 0)] 2)]
noncomputable def syX (P : Params) : Sx := ⟨K P, [], syRo, [], [], []⟩
noncomputable def syL : List (Str × SV) := [("self", .a 0), ("text", .v 1)]
noncomputable def syN : List Nat := [0, 1, 2, 3, 4, 5, 6]
noncomputable def syS (i n : Nat) : SS := ⟨("found", .none) :: syL, [(2, .list (syRow i) n)], 3⟩
noncomputable def syS1 (i n : Nat) : SS := ⟨("found", .a 3) :: ("found", .none) :: syL, [(3, .inst 68 4), (4, .dict [("number", .int 0 (i : Int)), ("text", .v 1)] 2), (2, .list (syRow i) n)], 5⟩
noncomputable def syS2 (i n : Nat) : SS := ⟨("found", .a 3) :: ("found", .none) :: syL, [(3, .inst 68 4), (4, .dict [("number", .int 0 (i : Int)), ("text", .v 1)] 2), (2, .list (syRow i ++ [.a 3]) (n + 1))], 5⟩
noncomputable def syTab (P : Params) : Option (SV × SS) := (recN ⟨K P, [], [], [], [], []⟩ 200).C 30 (.k 131) [] ⟨[], [], 0⟩
end
theorem fi93 (P : Params) : fnInfo (K P) 93 = some I93 := by kernel_rfl
theorem b93 : I93.body = [.Assign [.Name "found" (asXp (nth I93.body 0))] sy0 (asP (nth I93.body 0)), .If (ifT (nth I93.body 1)) syB [] (ifP (nth I93.body 1)), nth I93.body 2] := by kernel_rfl
theorem sy0_eq : sy0 = .Call (.Attribute (.Attribute (atE (clO sy0)) "by_text" (atP (clO sy0))) "get" (clQ sy0)) [.Name "text" (nmP (clA sy0)), .Constant .none (coK (clB sy0)) (coP (clB sy0))] [] (clP sy0) := by kernel_rfl
theorem syB_eq : syB = [nth syB 0, nth syB 1, .Assign [.Subscript (suV (asT sy4)) (suI (asT sy4)) (suP (asT sy4))] (asE sy4) (asP sy4)] := by kernel_rfl
theorem sy_pos : ((clQ sy0).endLine == (clP sy0).line) = true := by kernel_rfl
theorem sy_self (P : Params) (i n : Nat) : (recN (syX P) 200).E I93.scope 20 (.Attribute (atE (clO sy0)) "by_text" (atP (clO sy0))) ⟨syL, [(2, .list (syRow i) n)], 3⟩ = some (.v 0, ⟨syL, [(2, .list (syRow i) n)], 3⟩) := by kernel_rfl
theorem sy_test (P : Params) (i n : Nat) : (recN (syX P) 200).T I93.scope 20 (ifT (nth I93.body 1)) (syS i n) = some (true, syS i n) := by kernel_rfl
theorem sy_runs (P : Params) (n : Nat) : syN.map (fun i => ((recN (syX P) 200).S I93.scope 20 (nth syB 0) (syS i n), (recN (syX P) 200).S I93.scope 20 (nth syB 1) (syS1 i n))) = syN.map (fun i => (some (.next, syS1 i n), some (.next, syS2 i n))) := by kernel_rfl
theorem sy_set (P : Params) (i n : Nat) : ((recN (syX P) 200).E I93.scope 20 (asE sy4) (syS2 i n), (recN (syX P) 200).E I93.scope 20 (suV (asT sy4)) (syS2 i n), (recN (syX P) 200).E I93.scope 20 (suI (asT sy4)) (syS2 i n)) = (some (.a 3, syS2 i n), some (.v 0, syS2 i n), some (.v 1, syS2 i n)) := by kernel_rfl
theorem sy_tab (P : Params) : syTab P = some (.a 0, ⟨[], [(3, .idict []), (2, .list [] 0), (0, .inst 131 1), (1, .dict [("rows", .a 2), ("by_text", .a 3)] 2)], 4⟩) := by kernel_rfl
theorem sy_nc0 : notComp sy0 = true := by kernel_rfl
theorem sy_nc4 : notComp (asE sy4) = true := by kernel_rfl
theorem sy_pl : plainSl (suI (asT sy4)) = true := by kernel_rfl
theorem sy_ret_eq : nth I93.body 2 = .Return (some (.Name "found" (nmP (rE (nth I93.body 2))))) (rP (nth I93.body 2)) := by kernel_rfl
theorem sy_found : I93.scope.names.lookup ("found" : Str) = some .local := by kernel_rfl
theorem sy_text : I93.scope.names.lookup ("text" : Str) = some .local := by kernel_rfl
end
end NT
end
section
open PySem PySem.W PySem.Calls PyProof.Rows
namespace NT
noncomputable def txt (i : Nat) : Str := ("flag" : Str) ++ (Str.ofString (toString (i : Int)))
theorem txt_ne : ∀ i < 7, ∀ j < 7, i ≠ j → txt i ≠ txt j := by decide +kernel
theorem txt_len : ∀ i : Nat, i < 7 → (Str.ofString (toString (i : Int))).length < 100 := by decide +kernel
inductive TabIn (w : World) (R : Ld) (tb dt dl dd : Addr) (i : Nat) : Prop
  | mk (o : Obj) (rows : List Value) (n : Nat) (od : Obj) (kvs : List (Str × Value)) : ((tb, instObj 131 dt) ∈ R) → ((dt, o) ∈ R) → (DV w [("rows", .ref dl), ("by_text", .ref dd)] o) → ((dl, W.listOf rows.toArray n) ∈ R) → (rows.length = i) → ((∀ v ∈ rows, handedIn v = true)) → ((dd, od) ∈ R) → (od.IsDictOf (strKind PW w) kvs) → (kvs.length = i) → (@Ne Nat dt dd) → (∀ j, i ≤ j → j < 7 → valueAt kvs (txt j) = none) → TabIn w R tb dt dl dd i
theorem row_vr {Vs : List Value} {ρ : List Addr} : ∀ (rows pre : List Value), Vs = pre ++ rows → All2 (VR (mkT [] Vs []) ρ) ((List.range' pre.length rows.length).map .v) rows
  | [], pre, _ => .nil
  | u :: rows, pre, e => by
    walk_at "l"; rw [List.length_cons, List.range'_succ, List.map_cons]
    walk_at "l"; refine .cons ?_ ?_
    · walk_at "l"; show u = Vs.getD pre.length .none
      walk_at "l"; rw [e, List.getD_eq_getElem?_getD]; simp
    · have := row_vr (Vs := Vs) (ρ := ρ) rows (pre ++ [u]) (by rw [e]; simp)
      rw [List.length_append] at this
      walk_at "l"; exact this
theorem none_stored {kvs : List (Str × Value)} {k k' : Str} {v : Value} (h : valueAt kvs k = none) (h' : valueAt kvs k' = none) (hn : k' ≠ k) : (stored kvs k v).length = kvs.length + 1 ∧ valueAt (stored kvs k v) k' = none := by
  have ha : kvs.any (fun kv => kv.1 = k) = false := by
    walk_at "l"; rw [← valueAt_isSome_eq_any, h]; rfl
  walk_at "l"; unfold stored
  walk_at "l"; rw [if_neg (by rw [ha]; decide)]
  walk_at "l"; refine ⟨by rw [List.length_append]; rfl, ?_⟩
  walk_at "l"; unfold valueAt at h' ⊢
  walk_at "l"; rw [Option.map_eq_none_iff] at h' ⊢
  walk_at "l"; rw [List.find?_append, h', Option.none_or, List.find?_cons, decide_eq_false hn.symm]
  walk_at "l"; rfl
theorem len_stored {kvs : List (Str × Value)} {k : Str} {v : Value} (h : valueAt kvs k = none) : (stored kvs k v).length = kvs.length + 1 := by
  have ha : kvs.any (fun kv => kv.1 = k) = false := by
    walk_at "l"; rw [← valueAt_isSome_eq_any, h]; rfl
  walk_at "l"; unfold stored
  walk_at "l"; rw [if_neg (by rw [ha]; decide), List.length_append]
  walk_at "l"; rfl
end NT
end
section
open PySem PySem.W PySem.Calls PyProof.Rows
namespace NT
inductive SyR (w : World) (R : Ld) (tb dt dl dd : Addr) (i : Nat) (t : Tok) (r : Value) (l : Ld) : Prop
  | mk (x dx ob tx) : (r = .ref x) → ((x, instObj 68 dx) ∈ l) → ((dx, ob) ∈ l) → (DV w [("number", .int (i : Int) tx), ("text", .str (txt i) t)] ob) → (TabIn w l tb dt dl dd (i + 1)) → ((∀ p ∈ R, p.1 ≠ dl → p.1 ≠ dd → p ∈ l)) → (∀ p ∈ l, p.1 = dl ∨ p.1 = dd ∨ p ∈ R ∨ ∀ q ∈ R, @LT.lt Nat _ q.1 p.1) → SyR w R tb dt dl dd i t r l
theorem symbol_says {w : World} {R : Ld} {tb dt dl dd : Addr} {i : Nat} {t : Tok} (H : TabIn w R tb dt dl dd i) (hi : i < 7) (hdl : @Ne Nat dl dd) (uniq : ∀ p ∈ R, ∀ q ∈ R, p.1 = q.1 → p.2 = q.2) (low : ∀ p ∈ R, @LT.lt Nat _ 1 p.1) :
    Says w 21 93 [.ref tb, .str (txt i) t] R (SyR w R tb dt dl dd i t) := by
  walk_at "e"; obtain ⟨o, rows, n, od, kvs, a1, a2, a3, a4, a5, a6, a7, a8, a9, a11, a10⟩ := H
  walk_at "l"; refine says_enter (kd := 20) (fi93 _) (binds := [("self", .v 0), ("text", .v 1)]) rfl rfl ?_
  walk_at "l"; intro f h₁ tk₁ m s O F N hmm
  have m1 := hmm "self" 0 _ rfl rfl
  have m2 := hmm "text" 1 _ rfl rfl
  walk_at "l"; rw [b93]
  have in_syN : ∀ j, j < 7 → j ∈ syN := by decide
  have hr := List.map_inj_left.mp (sy_runs w.params n) i (in_syN i hi)
  have r1 := congrArg Prod.fst hr
  have r2 := congrArg Prod.snd hr
  dsimp only at r1 r2
  let Vs : List Value := .ref dd :: .str (txt i) t :: rows
  let τ : Vt := mkT [] Vs []
  have hV : ∀ i, handedIn (τ.V i) = true := mkT_V (hl_cons rfl (hl_cons rfl a6))
  have n1 : ∀ p ∈ R, p.2.data ≠ (W.listOf rows.toArray n).data → p.1 ≠ dl := fun p hp h e => h (congrArg Obj.data (uniq p hp _ a4 e))
  have e1 : tb ≠ dl := n1 _ a1 (fun h => by cases h)
  have e2 : dt ≠ dl := by
    walk_at "e"; obtain ⟨des, rfl, _⟩ := a3
    walk_at "l"; exact n1 _ a2 (fun h => by cases h)
  let R0 : Ld := less dl dl R
  have N0 : News f.h₀ f.L h₁ ([(dl, W.listOf rows.toArray n)] ++ R0) := fun p hp => by
    walk_at "e"; rcases List.mem_cons.mp hp with rfl | hp
    · walk_at "l"; exact N _ a4
    · walk_at "l"; exact N p (less_of hp).1
  have hd0 : (dd, od) ∈ R0 := to_less a7 hdl.symm hdl.symm
  let g : Gx := ⟨w, τ, syX w.params, R0, [(dl, W.listOf rows.toArray n)] ++ R0, 3, [tb, dt, dl]⟩
  have G : g.Ok := gok0 hV
  have O' : FOk g I93.scope 20 f := O.to rfl rfl
  have OK := O'.toCOk
  have S : SR g f [tb, dt, dl] ⟨syL, [(2, .list (syRow i) n)], 3⟩ m [(dl, W.listOf rows.toArray n)] h₁ := by
    walk_at "l"; refine sr_mk (τ := τ) (X := syX w.params) (st := ⟨syL, [(2, .list (syRow i) n)], 3⟩) F N0 (LocR.cons m1 ⟨tb, rfl, rfl⟩ (LocR.cons m2 rfl LocR.nil)) (.cons ⟨rfl, rows, rfl, ?_⟩ .nil) rfl ?_ (List.pairwise_singleton _ _) (.ins rfl rfl (to_less a1 e1 e1) (to_less a2 e2 e2) a3 rfl (.cons ⟨rfl, dl, rfl, rfl⟩ (.cons ⟨rfl, rfl⟩ .nil)) .nil) (low_of OK N0) (List.ne_nil_of_mem hd0)
    · have := row_vr (Vs := Vs) (ρ := [tb, dt, dl]) rows [.ref dd, .str (txt i) t] rfl
      rw [a5] at this
      walk_at "l"; exact this
    · walk_at "l"; exact List.forall_mem_cons.mpr ⟨fun q hq => (less_of hq).2.1, fun zz h => (nomatch h)⟩
  have lowd : (dd == sysModules) = false := by
    have := low_of OK N _ a7
    walk_at "l"; exact beq_eq_false_iff_ne.mpr fun e => absurd this (by rw [show (dd, od).1 = 1 from e]; decide)
  have step : WP g f (eval sy0 f.env) (fun v s' => ∃ tk, v = .none ∧ ∃ ρ₁ m₁ news₁ h₂, s' = { s with heap := h₂, toks := tk } ∧ Le [tb, dt, dl] ρ₁ ∧ SR g f ρ₁ ⟨syL, [(2, .list (syRow i) n)], 3⟩ m₁ news₁ h₂) { s with heap := h₁, toks := tk₁ } := by
    walk_at "l"; rw [sy0_eq]
    walk_at "l"; refine MethodCall_ (pl := do return (← importBound (.Attribute (atE (clO sy0)) "by_text" (atP (clO sy0))) f.env).getD true) (seq (g := g) (f := f) (s := { s with heap := h₁, toks := tk₁ }) ((recN_ok 200).E (sy_self w.params i n) (g := g) rfl G O' S) fun ov ρ₁ m₁ news₁ h₂ tk₂ le S₁ rv => ?_) (meth_eq (.inr ⟨_, _, _, rfl⟩) rfl (show 2 < 30 by decide) sy_pos)
    walk_at "l"; rw [show ov = .ref dd from rv]
    walk_at "l"; refine kdg_method (knd := strKind PW w) S₁.N (List.mem_append_right _ hd0) a8 ?_
    walk_at "e"; obtain ⟨tv, c1, c2⟩ := S₁.loc ("text" : Str) (.v 1) rfl
    have hke := O'.hke
    walk_at "e"; obtain ⟨cn, a, ccd, cl, he, _⟩ := O'.envo
    walk_at "l"; rw [he] at hke ⊢
    walk_at "l"; refine callWith_method1 (args_cons (nameX_L S₁.F c1 (args_cons (wpAny_Constant_none (args_nil ?_)) (plain_star rfl)) hke sy_text) (plain_star rfl)) (plain_star rfl) rfl
    walk_at "l"; rw [show tv = .str (txt i) t from c2]
    walk_at "l"; exact kdg_get2 (knd := strKind PW w) S₁.N (List.mem_append_right _ hd0) a8 lowd (strKind_is _ _ _ _) none (a10 i (Nat.le_refl _) hi) ⟨_, rfl, ρ₁, m₁, news₁, h₂, rfl, le, S₁⟩
  walk_at "l"; refine wpAny_execs_cons (wpAny_Assign_Name (wpAny_mono step (fun v s' q => ?_) fun zz zz q => q) (swaps_no sy_nc0))
  walk_at "e"; obtain ⟨tk₂, rfl, ρ₁, m₁, news₁, h₂, rfl, le, S₁⟩ := q
  walk_at "l"; refine seq (g := g) (f := f) (s := { s with heap := h₂, toks := tk₂ }) (R := fun zz zz => True) (storeW (sv := .none) O' S₁ (by show isLocal I93.scope ("found" : Str) = true; unfold isLocal; rw [sy_found]) rfl) fun zz ρ₂ m₂ news₂ h₃ tk₃ le₂ S₂ zz => ?_
  walk_at "l"; refine wpAny_execs_cons (wpAny_If (seq (g := g) (f := f) (s := { s with heap := h₃, toks := tk₃ }) ((recN_ok 200).T (sy_test w.params i n) (g := g) rfl G O' S₂ rfl) fun b ρ₃ m₃ news₃ h₄ tk₄ le₃ S₃ rb => ?_))
  walk_at "e"; subst rb
  walk_at "l"; refine ite_pos rfl ?_
  walk_at "l"; rw [syB_eq]
  walk_at "l"; refine wpAny_execs_cons (seq (g := g) (f := f) (s := { s with heap := h₄, toks := tk₄ }) ((recN_ok 200).S r1 (g := g) rfl G O' S₃) fun fl ρ₄ m₄ news₄ h₅ tk₅ le₄ S₄ rv => ?_)
  walk_at "e"; cases rv
  walk_at "l"; refine wpAny_execs_cons (seq (g := g) (f := f) (s := { s with heap := h₅, toks := tk₅ }) ((recN_ok 200).S r2 (g := g) rfl G O' S₄) fun fl ρ₅ m₅ news₅ h₆ tk₆ le₅ S₅ rv => ?_)
  walk_at "e"; cases rv
  have hset := sy_set w.params i n
  have s1 := congrArg Prod.fst hset
  have s2 := congrArg (fun x => x.2.1) hset
  have s3 := congrArg (fun x => x.2.2) hset
  dsimp only at s1 s2 s3
  walk_at "l"; refine wpAny_execs_cons (wpAny_Assign_Subscript (seq (g := g) (f := f) (s := { s with heap := h₆, toks := tk₆ }) ((recN_ok 200).E s1 (g := g) rfl G O' S₅) fun v ρ₆ m₆ news₆ h₇ tk₇ le₆ S₆ rv => ?_) (swaps_no sy_nc4))
  walk_at "l"; refine seq (g := g) (f := f) (s := { s with heap := h₇, toks := tk₇ }) ((recN_ok 200).E s2 (g := g) rfl G O' S₆) fun v2 ρ₇ m₇ news₇ h₈ tk₈ le₇ S₇ rv2 => ?_
  walk_at "l"; refine seq (g := g) (f := f) (s := { s with heap := h₈, toks := tk₈ }) ((recN_ok 200).E s3 (g := g) rfl G O' S₇) fun v3 ρ₈ m₈ news₈ h₉ tk₉ le₈ S₈ rv3 => ?_
  walk_at "l"; rw [show v2 = .ref dd from rv2, show v3 = .str (txt i) t from rv3]
  walk_at "e"; obtain ⟨x, hx6, rfl⟩ := rv
  have hx : ρ₈[3]? = some x := (le₇.trans le₈) 3 x hx6
  have L8 : LR w τ ρ₈ [(3, .inst 68 4), (4, .dict [("number", .int 0 (i : Int)), ("text", .v 1)] 2), (2, .list (syRow i ++ [.a 3]) (n + 1))] news₈ := S₈.led
  have leA : Le [tb, dt, dl] ρ₈ := S₈.le
  walk_at "l"; refine L8.oc fun p3 zz g1 q3 L => L.oc fun p4 zz g2 q4 L => L.oc fun p2 zz g3 q2 L => L.o0 fun g4 => ?_
  walk_at "e"; subst g4 g3 g2
  have f3 : p3.1 = x := by have := q3.1; rw [hx] at this; exact (Option.some.inj this).symm
  have f2 : p2.1 = dl := by have := q2.1; rw [leA 2 dl rfl] at this; exact (Option.some.inj this).symm
  have up : ∀ p ∈ [p3, p4], ∀ q ∈ g.N0, @LT.lt Nat _ q.1 p.1 := up_all S₈ (nl := [(3, .inst 68 4), (4, .dict [("number", .int 0 (i : Int)), ("text", .v 1)] 2)]) rfl (.cons q3 (.cons q4 .nil))
  have up' : ∀ p ∈ [p3, p4], ∀ q ∈ R, @LT.lt Nat _ q.1 p.1 := fun p hp q hq => by
    walk_at "e"; by_cases e : q.1 = dl
    · have := up p hp _ (.head _)
      walk_at "l"; rw [e]; exact this
    · walk_at "l"; exact up p hp q (List.mem_append_right _ (to_less hq e e))
  walk_at "e"; obtain ⟨x4, hx4, ho3⟩ := q3.2
  have f4 : x4 = p4.1 := by have := q4.1; rw [hx4] at this; exact Option.some.inj this
  walk_at "e"; obtain ⟨us, hu, hus⟩ := q2.2
  walk_at "e"; obtain ⟨us1, us2, hu2, hu3, hu4⟩ := All2.split hus
  have hrows : us1 = rows := by
    have b := row_vr (Vs := Vs) (ρ := ρ₈) rows [.ref dd, .str (txt i) t] rfl
    rw [a5] at b
    walk_at "l"; exact (ps_v (is := List.range' 2 i) hu3).trans (ps_v (is := List.range' 2 i) b).symm
  have hus2 : us2 = [.ref x] := hu4.oc fun w1 zz c1 c2 L => L.o0 fun c3 => by
    walk_at "e"; obtain ⟨y, c4, rfl⟩ := c2
    rw [hx] at c4; walk_at "e"; cases c4
    walk_at "l"; rw [c1, c3]
  rw [hrows, hus2] at hu2
  have ndd : ∀ p ∈ [p3, p4], p.1 ≠ dd := fun p hp e => absurd (up' p hp _ a7) (by rw [e]; exact Nat.lt_irrefl _)
  have hmem : (dd, od) ∈ news₈ ++ R0 := List.mem_append_right _ hd0
  have NP : News f.h₀ f.L h₉ ((dd, od) :: less dd dd (news₈ ++ R0)) := fun p hp => by
    walk_at "e"; rcases List.mem_cons.mp hp with rfl | hp
    · walk_at "l"; exact S₈.N _ hmem
    · walk_at "l"; exact S₈.N p (less_of hp).1
  walk_at "l"; refine kda_set (knd := strKind PW w) S₈.F NP (UpdF.head fun p hp => (less_of hp).2.1) a8 (strKind_is _ _ _ _) (by rw [a9, sizeLine_eq]; lia) fun h' o' F' N' hd' => ?_
  walk_at "e"; obtain ⟨fv', k1, k2⟩ := S₈.loc ("found" : Str) (.a 3) rfl
  walk_at "e"; obtain ⟨x', k3, rfl⟩ := k2
  rw [hx] at k3; walk_at "e"; cases k3
  have ret : ∀ tk, WP g f (execs [nth I93.body 2] f.env) (fun fl s' => fl = .ret (.ref x) ∧ s' = { s with heap := h', toks := tk }) { s with heap := h', toks := tk } := fun tk => by
    have hke := O'.hke
    walk_at "e"; obtain ⟨cn, a, ccd, cl, he, _⟩ := O'.envo
    walk_at "l"; unfold WP
    walk_at "l"; rw [sy_ret_eq]
    walk_at "l"; rw [he] at hke ⊢
    walk_at "l"; exact wpAny_execs_cons (wpAny_Return_some (nameX_L F' k1 ⟨rfl, rfl⟩ hke sy_found))
  walk_at "l"; refine wpAny_execs_nil (wpAny_mono (ret _) (fun fl s' q => ?_) fun zz zz q => q)
  walk_at "e"; obtain ⟨rfl, rfl⟩ := q
  walk_at "e"; obtain ⟨es, hD, hE⟩ := DV.of q4.2 rfl
  have hes : ∃ tx : Tok, es = ([(("number" : Str), Value.int (i : Int) tx), (("text" : Str), Value.str (txt i) t)] : List (Str × Value)) := hE.oc fun e1 zz c1 d1 L => L.oc fun e2 zz c2 d2 L => L.o0 fun c3 => by
    walk_at "e"; obtain ⟨n1, v1⟩ := e1
    walk_at "e"; obtain ⟨n2, v2⟩ := e2
    walk_at "e"; obtain ⟨d1a, tx, d1b⟩ := d1
    walk_at "e"; obtain ⟨d2a, d2b⟩ := d2
    dsimp only at d1a d1b d2a d2b
    walk_at "e"; subst d1a d2a
    walk_at "l"; refine ⟨tx, ?_⟩
    walk_at "l"; rw [c1, c2, c3, d1b, show v2 = .str (txt i) t from d2b]
    walk_at "l"; rfl
  walk_at "e"; obtain ⟨tx, rfl⟩ := hes
  have keep : ∀ p ∈ R, p.1 ≠ dl → p.1 ≠ dd → p ∈ ((dd, o') :: less dd dd (news₈ ++ R0) : Ld) := fun p hp h1 h2 => .tail _ (to_less (List.mem_append_right _ (to_less hp h1 h1)) h2 h2)
  have m3 : p3 ∈ ((dd, o') :: less dd dd (news₈ ++ R0) : Ld) := .tail _ (to_less (List.mem_append_left _ (by rw [g1]; exact .head _)) (ndd _ (.head _)) (ndd _ (.head _)))
  have m4 : p4 ∈ ((dd, o') :: less dd dd (news₈ ++ R0) : Ld) := .tail _ (to_less (List.mem_append_left _ (by rw [g1]; exact .tail _ (.head _))) (ndd _ (.tail _ (.head _))) (ndd _ (.tail _ (.head _))))
  have m2' : (dl, W.listOf (rows ++ [Value.ref x]).toArray (n + 1)) ∈ ((dd, o') :: less dd dd (news₈ ++ R0) : Ld) := by
    have e : p2 = (dl, W.listOf (rows ++ [Value.ref x]).toArray (n + 1)) := by
      walk_at "l"; rw [← hu2, ← hu, ← f2]
    walk_at "l"; rw [← e]
    walk_at "l"; exact .tail _ (to_less (List.mem_append_left _ (by rw [g1]; exact .tail _ (.tail _ (.head _)))) (by rw [f2]; exact hdl) (by rw [f2]; exact hdl))
  have tbd : tb ≠ dd := fun e => by
    have h := uniq _ a1 _ a7 e
    walk_at "e"; obtain ⟨es', ep, _, hd2, _⟩ := a8
    have h : instObj 131 dt = od := h
    rw [← h] at hd2
    walk_at "e"; cases hd2
  walk_at "l"; refine ⟨m₈, _, h', _, rfl, F', N', x, p4.1, p4.2, tx, rfl, ?_, m4, hD, ⟨o, rows ++ [.ref x], n + 1, o', _, keep _ a1 e1 tbd, keep _ a2 e2 a11, a3, m2', by rw [List.length_append, a5]; rfl, ?_, .head _, hd', ?_, a11, ?_⟩, keep, ?_⟩
  · walk_at "l"; rw [← f4, ← ho3, ← f3]; exact m3
  · walk_at "l"; exact fun v hv => (List.mem_append.mp hv).elim (a6 v) fun h => by rw [List.mem_singleton.mp h]; rfl
  · walk_at "l"; rw [len_stored (a10 i (Nat.le_refl _) hi), a9]
  · walk_at "l"; exact fun j hj hj7 => (none_stored (a10 i (Nat.le_refl _) hi) (a10 j (by lia) hj7) (txt_ne j hj7 i hi (by lia))).2
  · walk_at "l"; intro p hp
    walk_at "e"; rcases List.mem_cons.mp hp with rfl | hp
    · walk_at "l"; exact .inr (.inl rfl)
    · walk_at "e"; obtain ⟨hp, _⟩ := less_of hp
      walk_at "e"; rcases List.mem_append.mp hp with hp | hp
      · rw [g1] at hp
        walk_at "e"; rcases List.mem_cons.mp hp with rfl | hp
        · walk_at "l"; exact .inr (.inr (.inr (up' _ (.head _))))
        · walk_at "e"; rcases List.mem_cons.mp hp with rfl | hp
          · walk_at "l"; exact .inr (.inr (.inr (up' _ (.tail _ (.head _)))))
          · walk_at "l"; rw [List.mem_singleton.mp hp]; exact .inl f2
      · walk_at "l"; exact .inr (.inr (.inl (less_of hp).1))
end NT
end
section
open PySem PySem.W PySem.Calls PyProof.Rows
namespace NT
section
noncomputable section
noncomputable def lw4e : PySem.Expr := lcE lw4
noncomputable def lw4c : PySem.Expr := atE lw4e
noncomputable def lw4r : PySem.Expr := lcI lw4
noncomputable def lw4a : PySem.Expr := clA lw4c
noncomputable def lw4s : PySem.Expr := biR lw4a
noncomputable def tbS (P : Params) : Option (SV × SS) := (recN ⟨K P, [], [], [], [], []⟩ 200).E I1676.scope 90 lw3 ⟨[("many", .v 0)], [], 0⟩
noncomputable def tbL : List (Nat × SO) := [(3, .idict []), (2, .list [] 0), (0, .inst 131 1), (1, .dict [("rows", .a 2), ("by_text", .a 3)] 2)]
noncomputable def smX (P : Params) : Sx := ⟨K P, [], [(0, .inst 68 1), (1, .dict [("number", .int 1 0), ("text", .v 0)] 2)], [], [], []⟩
end
theorem tb_run (P : Params) : tbS P = some (.a 0, ⟨[("many", .v 0)], tbL, 4⟩) := by kernel_rfl
theorem sm_run (P : Params) : evAttr (smX P) ⟨[], [], 2⟩ (.a 0) "number" = some (.int 1 0) := by kernel_rfl
theorem tb_meth (P : Params) : instMeth (syX P) ⟨[], [(2, .list [] 0)], 3⟩ 0 "symbol" = some (.k 93, [.a 0]) := by kernel_rfl
theorem lw3_nc : notComp lw3 = true := by kernel_rfl
theorem lw4_eq : lw4 = .ListComp lw4e [⟨.Name "at" (nmP (lcX lw4)), lw4r, [], 0⟩] (lcS lw4) (lcP lw4) := by kernel_rfl
theorem lw4r_eq : lw4r = .Call (.Name "range" (nmP (clF lw4r))) [.Name "many" (nmP (clA lw4r))] [] (clP lw4r) := by kernel_rfl
theorem lw4e_eq : lw4e = .Attribute (.Call (.Attribute (.Name "table" (nmP (clO lw4c))) "symbol" (clQ lw4c)) [lw4a] [] (clP lw4c)) "number" (atP lw4e) := by kernel_rfl
theorem lw4a_eq : lw4a = .BinOp (.Constant (.str "flag") (coK (biL lw4a)) (coP (biL lw4a))) .Add lw4s (biP lw4a) := by kernel_rfl
theorem lw4s_eq : lw4s = .Call (.Name "str" (nmP (clF lw4s))) [.Name "at" (nmP (clA lw4s))] [] (clP lw4s) := by kernel_rfl
theorem lw4_sc : scOk (lcS lw4) "at" = true := by kernel_rfl
theorem lw4_pos : ((clQ lw4c).endLine == (clP lw4c).line) = true := by kernel_rfl
theorem lw4_pl : plainEl lw4a = true := by kernel_rfl
theorem lw4_clo {cn : Str} {L a c : Addr} {ccd : Value} : closureFor (lcS lw4) (envX cn I1676.scope L a ccd (lwC c)) = pure [(("table" : Str), c + 2)] := by kernel_rfl
theorem lw4_table {cn : Str} {L a C : Addr} {ccd : Value} {cl cl' : List (Str × Addr)} : (compEnvC (lcS lw4) cl' C (envX cn I1676.scope L a ccd cl)).kindOf ("table" : Str) = some .cell := by kernel_rfl
theorem lw4_str {cn : Str} {L a C : Addr} {ccd : Value} {cl cl' : List (Str × Addr)} : (compEnvC (lcS lw4) cl' C (envX cn I1676.scope L a ccd cl)).kindOf ("str" : Str) = some .globalImplicit := by kernel_rfl
theorem lw4_sw {cn : Str} {L a c : Addr} {ccd : Value} : swapsWith lw4 (some (.Name "symbols" (asXp (nth I1676.body 4)))) (asP (nth I1676.body 4)).line (envX cn I1676.scope L a ccd (lwC c)) = pure false := by kernel_rfl
theorem str_b (P : Params) : nsIn (K P) mainGlobals "str" = some none := by kernel_rfl
theorem sym_keep (P : Params) : keepIn (K P) (.ref 93) = true := by kernel_rfl
theorem table_cell : I1676.scope.names.lookup ("table" : Str) = some .cell := by kernel_rfl
theorem symbols_cell : I1676.scope.names.lookup ("symbols" : Str) = some .cell := by kernel_rfl
end
theorem nil_kind {w : World} {o : Obj} (h : ∃ rk, o.IsDictOf (intKind PW w) rk ∧ All2 (fun (p : (Nat × Int) × SV) (q : Int × Value) => True) [] rk) : o.IsDictOf (strKind PW w) [] := by
  walk_at "e"; obtain ⟨rk, ⟨es, ep, hx, hd, hk, hp, hn⟩, ha⟩ := h
  walk_at "e"; cases ha
  have hes : es.toList = [] := by
    revert hp
    walk_at "l"; generalize es.toList = l
    walk_at "l"; intro hp
    walk_at "e"; cases hp; walk_at "l"; rfl
  walk_at "l"; refine ⟨es, ep, hx, hd, fun e he => ?_, ?_, List.nodup_nil⟩
  · rw [← Array.mem_toList_iff, hes] at he
    walk_at "l"; nomatch he
  · walk_at "l"; rw [hes]; exact .nil
theorem TabIn.sub {w : World} {R R' : Ld} {tb dt dl dd : Addr} {i : Nat} (H : TabIn w R tb dt dl dd i) (s : ∀ p ∈ R, p.1 = tb ∨ p.1 = dt ∨ p.1 = dl ∨ p.1 = dd → p ∈ R') : TabIn w R' tb dt dl dd i := by
  walk_at "e"; obtain ⟨o, rows, n, od, kvs, a1, a2, a3, a4, a5, a6, a7, a8, a9, a10, a11⟩ := H
  walk_at "l"; exact ⟨o, rows, n, od, kvs, s _ a1 (.inl rfl), s _ a2 (.inr (.inl rfl)), a3, s _ a4 (.inr (.inr (.inl rfl))), a5, a6, s _ a7 (.inr (.inr (.inr rfl))), a8, a9, a10, a11⟩
theorem table_val {g : Gx} {f : Fx} {s : Shared} {m : Str → Option Value} {R : Ld} {mv : Value} (O : FOk g I1676.scope 90 f) (hK : g.X.K = K g.w.params) (F : Fr f.h₀ f.L s.heap m) (N : News f.h₀ f.L s.heap R) (hne : R ≠ []) (hm : m "many" = some mv) (hmv : handedIn mv = true) {Q : Value → Shared → Prop}
    (k : ∀ tb dt dl dd m' h tk R', Fr f.h₀ f.L h m' → News f.h₀ f.L h R' → TabIn g.w R' tb dt dl dd 0 → @Ne Nat dl dd → Sub R R' → (∀ q ∈ R, @LT.lt Nat _ q.1 dl ∧ @LT.lt Nat _ q.1 dd) → m' "many" = some mv → Q (.ref tb) { s with heap := h, toks := tk }) : WP g f (eval lw3 f.env) Q s := by
  let τ : Vt := mkT [] [mv] []
  let g₁ : Gx := ⟨g.w, τ, ⟨K g.w.params, [], [], [], [], []⟩, R, R, 0, []⟩
  have hV : ∀ i, handedIn (τ.V i) = true := mkT_V (hl_cons hmv hl_nil)
  walk_at "l"; refine seq (g := g₁) (f := f) ((recN_ok 200).E (tb_run g.w.params) (g := g₁) rfl (gok0 hV) (O.to rfl hK.symm) (sr_mk0 (τ := τ) F N (LocR.cons hm rfl LocR.nil) rfl .nil (low_of O.toCOk N) hne)) fun v ρ₁ m₁ news₁ h₁ tk₁ le S₁ rv => ?_
  walk_at "e"; obtain ⟨tb, h0, rfl⟩ := rv
  have up := up_all S₁ (nl := tbL) rfl S₁.led
  have L : LR g.w τ ρ₁ tbL news₁ := S₁.led
  have nd := S₁.nd
  have N' := S₁.N
  walk_at "l"; refine L.oc fun p3 zz g1 q3 L => L.oc fun p2 zz g2 q2 L => L.oc fun p0 zz g3 q0 L => L.oc fun p1 zz g4 q1 L => L.o0 fun g5 => ?_
  walk_at "e"; subst g5 g4 g3 g2 g1
  walk_at "e"; obtain ⟨x3, o3⟩ := p3
  walk_at "e"; obtain ⟨x2, o2⟩ := p2
  walk_at "e"; obtain ⟨x0, o0⟩ := p0
  walk_at "e"; obtain ⟨x1, o1⟩ := p1
  have e0 : x0 = tb := by have := q0.1; rw [h0] at this; exact (Option.some.inj this).symm
  walk_at "e"; subst e0
  walk_at "e"; obtain ⟨d1, hd1, ho0⟩ := q0.2
  have e1 : d1 = x1 := by have := q1.1; rw [hd1] at this; exact Option.some.inj this
  walk_at "e"; subst e1
  walk_at "e"; obtain ⟨us, hu, hus⟩ := q2.2
  walk_at "e"; cases hus
  walk_at "e"; obtain ⟨es, hD, hE⟩ := DV.of q1.2 rfl
  have hes : es = ([(("rows" : Str), Value.ref x2), (("by_text" : Str), Value.ref x3)] : List (Str × Value)) := hE.oc fun e1 zz c1 d1 L => L.oc fun e2 zz c2 d2 L => L.o0 fun c3 => by
    walk_at "e"; obtain ⟨n1, v1⟩ := e1
    walk_at "e"; obtain ⟨n2, v2⟩ := e2
    walk_at "e"; obtain ⟨d1a, y1, d1b, d1c⟩ := d1
    walk_at "e"; obtain ⟨d2a, y2, d2b, d2c⟩ := d2
    dsimp only at d1a d1c d2a d2c
    walk_at "e"; subst d1a d2a
    have b2 := q2.1
    have b3 := q3.1
    rw [d1b] at b2
    rw [d2b] at b3
    walk_at "l"; rw [c1, c2, c3, d1c, d2c, show y1 = x2 from Option.some.inj b2, show y2 = x3 from Option.some.inj b3]
  walk_at "e"; subst hes
  have n3 := (List.pairwise_cons.mp nd)
  walk_at "l"; refine k x0 d1 x2 x3 m₁ h₁ tk₁ _ S₁.F N' ⟨o1, [], 0, o3, [], ?_, ?_, hD, ?_, rfl, fun zz h => (nomatch h), List.mem_append_left _ (.head _), nil_kind (q3.2.imp fun rk h => ⟨h.1, h.2.imp fun zz zz zz => trivial⟩), rfl, n3.1 _ (.tail _ (.tail _ (.head _))), fun zz zz zz => rfl⟩ (n3.1 _ (.head _)) (fun p hp => List.mem_append_right _ hp) (fun q hq => ⟨up _ (.tail _ (.head _)) q hq, up _ (.head _) q hq⟩) ?_
  · walk_at "l"; rw [← ho0]; exact List.mem_append_left _ (.tail _ (.tail _ (.head _)))
  · walk_at "l"; exact List.mem_append_left _ (.tail _ (.tail _ (.tail _ (.head _))))
  · have hu : o2 = W.listOf ([] : List Value).toArray 0 := hu
    walk_at "l"; rw [← hu]; exact List.mem_append_left _ (.tail _ (.head _))
  · walk_at "e"; obtain ⟨v, c1, c2⟩ := S₁.loc ("many" : Str) (.v 0) rfl
    rw [show v = mv from c2] at c1
    walk_at "l"; exact c1
end NT
end
section
open PySem PySem.W PySem.Calls PyProof.Rows
namespace NT
noncomputable def less3 (a b c : Addr) (r : Ld) : Ld := less a b (less c c r)
theorem less3_of {a b c : Addr} {r : Ld} {p : Addr × Obj} (h : p ∈ less3 a b c r) : p ∈ r ∧ p.1 ≠ a ∧ p.1 ≠ b ∧ p.1 ≠ c := by
  have h1 := less_of h
  have h2 := less_of h1.1
  walk_at "l"; exact ⟨h2.1, h1.2.1, h1.2.2, h2.2.1⟩
theorem to_less3 {a b c : Addr} {r : Ld} {p : Addr × Obj} (h : p ∈ r) (h1 : p.1 ≠ a) (h2 : p.1 ≠ b) (h3 : p.1 ≠ c) : p ∈ less3 a b c r := to_less (to_less h h3 h3) h1 h2
theorem news_uniq {h₀ h : Heap} {L : Addr} {R : Ld} (N : News h₀ L h R) : ∀ p ∈ R, ∀ q ∈ R, p.1 = q.1 → p.2 = q.2 := fun p hp q hq e => by
  have a1 := (N p hp).1
  have a2 := (N q hq).1
  rw [e] at a1
  walk_at "l"; exact Option.some.inj (a1.symm.trans a2)
theorem sym_turn {g : Gx} {f : Fx} {s : Shared} {kd : Nat} {m m₂ : Str → Option Value} {W : Ld} {c C tb dt dl dd : Addr} {oC o2 : Obj} {i : Nat} {t : Tok} {cn : Str} {a : Addr} {ccd : Value} (O : COk g kd f) (hK : g.X.K = K g.w.params) (hkd : 21 ≤ kd) (hi : i < 7) (F : Fr f.h₀ f.L s.heap m) (N : News f.h₀ f.L s.heap W) (hC : (C, oC) ∈ W) (hoC : LCg.NsObj oC m₂) (hx : m₂ "at" = some (.int (i : Int) t))
    (hc : (c + 2, o2) ∈ W) (hd : o2.data = .cell (some (.ref tb))) (H : TabIn g.w W tb dt dl dd i) (hdl : @Ne Nat dl dd) {Q : Value → Shared → Prop}
    (k : ∀ l h tk tx, Fr f.h₀ f.L h m → News f.h₀ f.L h l → TabIn g.w l tb dt dl dd (i + 1) → (∀ p ∈ W, p.1 ≠ dl → p.1 ≠ dd → p ∈ l) → Q (.int (i : Int) tx) { s with heap := h, toks := tk }) :
    WP g f (eval lw4e (compEnvC (lcS lw4) [(("table" : Str), c + 2)] C (envX cn I1676.scope f.L a ccd (lwC c)))) Q s := by
  walk_at "l"; rw [lw4e_eq]
  walk_at "l"; refine Attribute_any_ ?_ rfl
  walk_at "l"; refine meth1 (g := g) (f := f) O.X lw4_pos lw4_pl (lcf_cell N rfl hc hd ?_ (show (lcS lw4).kind = .function from scOk_k lw4_sc) lw4_table)
  have XK : (K g.w.params).In f.h₀ := by rw [← hK]; exact O.X
  have hH := H
  walk_at "e"; obtain ⟨o, rows, n, od, kvs, a1, a2, a3, a4, a5, a6, a7, a8⟩ := hH
  walk_at "l"; refine instMethK (g := ⟨g.w, mkT [] [.ref dd] [], syX g.w.params, W, W, 3, [tb, dt, dl]⟩) (f := f) (ρ := [tb, dt, dl]) (st := ⟨[], [], 3⟩) (news := []) (i := 0) (fa := 93) (kd := kd) rfl ⟨O.B, XK, O.T, O.hA, O.hf, O.hke, O.hh, O.hd, O.hu, O.env, O.one⟩ (sr_mk0 (f := f) (loc := []) F N LocR.nil rfl (.ins rfl rfl a1 a2 a3 rfl (.cons ⟨rfl, dl, rfl, rfl⟩ (.cons ⟨rfl, rfl⟩ .nil)) .nil) (low_of O N) (List.ne_nil_of_mem a1)) rfl ?_
  walk_at "l"; refine ⟨93, rfl, by rw [hK]; exact sym_keep _, ?_⟩
  walk_at "l"; rw [lw4a_eq]
  walk_at "l"; refine wpAny_BinOp (Constant_str ?_)
  walk_at "l"; rw [lw4s_eq]
  walk_at "l"; refine Call_ (cenvB (s := { s with toks := s.toks + 1 }) O F rfl rfl (by rw [hK]; exact str_b _) PyProof.Rows.boot_str (by decide) (scOk_k lw4_sc) lw4_str (by decide) ?_) rfl
  walk_at "l"; refine Pv.callWith_type1 (args_cons (cenvL lw4_sc (by decide) N hC hoC hx (args_nil ?_)) (plain_star rfl)) (plain_star rfl) rfl
  walk_at "l"; refine str_of_int_fit (N := 100) (by split <;> lia) (by decide) fun zz => ?_
  walk_at "l"; refine PyProof.Rows.add_str (fun t' tk' => ⟨O.X.keeps F.keep, ?_⟩) ?_
  · walk_at "l"; refine says_run (g := g) (f := f) (s := { s with toks := tk' }) (symbol_says H hi hdl (news_uniq N) (low_of O N)) O hK hkd F N fun v l h tk F₂ N₂ r => ?_
    walk_at "e"; obtain ⟨x, dx, ob, tx, rfl, b1, b2, b3, b4, b5, b6⟩ := r
    let τ : Vt := mkT [(i : Int)] [.str (txt i) t'] []
    walk_at "l"; refine evAttr_ok (g := ⟨g.w, τ, smX g.w.params, l, l, 2, [x, dx]⟩) (f := f) (ρ := [x, dx]) (st := ⟨[], [], 2⟩) (news := []) (s := { s with heap := h, toks := tk }) (sm_run g.w.params) (gok0 (mkT_V (hl_cons rfl hl_nil))) (kd := kd) ⟨O.B, XK, O.T, O.hA, O.hf, O.hke, O.hh, O.hd, O.hu, O.env, O.one⟩
      (sr_mk0 (f := f) (loc := []) F₂ N₂ LocR.nil rfl (.ins rfl rfl b1 b2 b3 rfl (.cons ⟨rfl, tx, by show Value.int (i : Int) tx = .int ((i : Int) + 0) tx; rw [Int.add_zero]⟩ (.cons ⟨rfl, rfl⟩ .nil)) .nil) (low_of O N₂) (List.ne_nil_of_mem b1)) ⟨x, rfl, rfl⟩ fun v rv => ?_
    walk_at "e"; obtain ⟨t2, rfl⟩ := rv
    have e : (τ.iv 1 0 : Int) = (i : Int) := Int.add_zero _
    walk_at "l"; rw [e]
    walk_at "l"; exact k l h _ t2 F₂ N₂ b4 b5
  · have := txt_len i hi
    walk_at "l"; rw [sizeLine_eq]
    have h4 : (("flag" : Str)).length = 4 := by decide
    walk_at "l"; lia
end NT
end
section
open PySem PySem.W PySem.Calls PyProof.Rows
namespace NT
theorem symbols_val {g : Gx} {f : Fx} {s : Shared} {kd : Nat} {m : Str → Option Value} {R : Ld} {c tb dt dl dd : Addr} {o2 : Obj} {n : Nat} {t : Tok} {cn : Str} {a : Addr} {ccd : Value} (O : COk g kd f) (hK : g.X.K = K g.w.params) (hkd : 21 ≤ kd) (he : f.env = envX cn I1676.scope f.L a ccd (lwC c)) (hn : n ≤ 7)
    (F : Fr f.h₀ f.L s.heap m) (N : News f.h₀ f.L s.heap R) (hm : m "many" = some (.int (n : Int) t)) (hc : (c + 2, o2) ∈ R) (hd : o2.data = .cell (some (.ref tb))) (H : TabIn g.w R tb dt dl dd 0) (hdl : @Ne Nat dl dd) {Q : Value → Shared → Prop}
    (k : ∀ d ys h tk R', Fr f.h₀ f.L h m → News f.h₀ f.L h ((d, LCg.lst ys) :: R') → All2 LiR ((List.range' 0 n).map fun i : Nat => IsI (i : Int)) ys → (∀ p ∈ R, p.1 ≠ dl → p.1 ≠ dd → p ∈ R') → (∀ p ∈ R', p.1 ≠ d) → Q (.ref d) { s with heap := h, toks := tk }) : WP g f (eval lw4 f.env) Q s := by
  have hke := O.hke
  rw [he] at hke
  walk_at "l"; rw [lw4_eq]
  walk_at "l"; refine LCg.ListComp_U (cl := [(("table" : Str), c + 2)]) (F₀ := F) (by rw [he]; exact lw4_clo) (scOk_a lw4_sc) (scOk_k lw4_sc) (scOk_b lw4_sc) (scOk_x lw4_sc) ?_
  walk_at "l"; rw [lw4r_eq]
  walk_at "l"; refine Call_ (fr_range (g := g) O hK he F _ _ ?_) rfl
  walk_at "l"; rw [he]
  walk_at "l"; refine Pv.callWith_type1 (args_cons (nameX_L F hm (args_nil ?_) hke many_local) (plain_star rfl)) (plain_star rfl) rfl
  walk_at "l"; refine range1_rows F N fun h₂ tk₂ t1 t2 t3 hr F₂ N₂ zz => ?_
  walk_at "e"; obtain ⟨hsm, hsz⟩ := small_of (v := (n : Int)) (by lia) (by lia)
  walk_at "l"; refine LCg.CompSrc.range O.hh F₂ N₂ hr hsm hsz (by rw [sizeLine_eq]; lia) fun gh => ?_
  have ncell : ∀ {R' : Ld} {h : Heap} {i : Nat}, News f.h₀ f.L h R' → TabIn g.w R' tb dt dl dd i → ∀ p ∈ R', (∃ v, p.2.data = .cell v) → p.1 ≠ dl ∧ p.1 ≠ dd := fun N H p hp ⟨v, hv⟩ => by
    walk_at "e"; obtain ⟨o, rows, n, od, kvs, a1, a2, a3, a4, a5, a6, a7, a8, _⟩ := H
    walk_at "l"; refine ⟨fun e => ?_, fun e => ?_⟩
    · have := news_uniq N p hp _ a4 e
      rw [this] at hv; walk_at "e"; cases hv
    · have := news_uniq N p hp _ a7 e
      walk_at "e"; obtain ⟨es, ep, _, hd, _⟩ := a8
      rw [this, hd] at hv; walk_at "e"; cases hv
  walk_at "l"; refine comp_rest (J := fun i ys news => TabIn g.w news tb dt dl dd i ∧ (∀ p ∈ R, p.1 ≠ dl → p.1 ≠ dd → p ∈ news) ∧ All2 LiR ((List.range' 0 i).map fun i : Nat => IsI (i : Int)) ys) (n := (n : Int).toNat) ?_ ?_ _ 0 [] _ (Nat.zero_add _) ⟨H, fun p hp zz zz => hp, .nil⟩
  · walk_at "l"; rintro i ys news u I oI C oC d m₂ h tk E' hlt ⟨Hi, subi, hys⟩ ⟨tu, rfl⟩ hC hx F' N' off
    have off' := off.mem
    have hx : m₂ "at" = some (.int (i : Int) tu) := by rw [hx, Int.zero_add]
    let f' : Fx := { f with E := E' }
    have O' : COk g kd f' := ⟨O.B, O.X, O.T, O.hA, O.hf, O.hke, O.hh, O.hd, O.hu, O.env, O.one⟩
    have sub : Sub news ((I, oI) :: (C, oC) :: (d, LCg.lst ys) :: news) := fun p hp => .tail _ (.tail _ (.tail _ hp))
    have hcc := ncell N H _ hc ⟨_, hd⟩
    have hH := Hi
    walk_at "e"; obtain ⟨o, rows, nn, od, kvs, a1, a2, a3, a4, a5, a6, a7, a8⟩ := hH
    have q1 := off' _ a1
    have q2 := off' _ a2
    have q3 := off' _ a4
    have q4 := off' _ a7
    walk_at "l"; refine sym_turn (g := g) (f := f') (W := (I, oI) :: (C, oC) :: (d, LCg.lst ys) :: news) O' hK hkd (by lia) F' N' (.tail _ (.head _)) hC hx (sub _ (subi _ hc hcc.1 hcc.2)) hd (Hi.sub fun p hp zz => sub p hp) hdl fun l h₃ tk₃ tx F₃ N₃ H₃ keep => ?_
    walk_at "l"; refine ⟨h₃, tk₃, less3 I C d l, rfl, F₃, fun p hp => ?_, LCg.Off3.of fun p hp => (less3_of hp).2, trivial, H₃.sub fun p hp e => ?_, fun p hp e1 e2 => ?_, ?_⟩
    · walk_at "e"; rcases List.mem_cons.mp hp with rfl | hp
      · walk_at "l"; exact N₃ _ (keep _ (.head _) q3.1.symm q4.1.symm)
      · walk_at "e"; rcases List.mem_cons.mp hp with rfl | hp
        · walk_at "l"; exact N₃ _ (keep _ (.tail _ (.head _)) q3.2.1.symm q4.2.1.symm)
        · walk_at "e"; rcases List.mem_cons.mp hp with rfl | hp
          · walk_at "l"; exact N₃ _ (keep _ (.tail _ (.tail _ (.head _))) q3.2.2.symm q4.2.2.symm)
          · walk_at "l"; exact N₃ p (less3_of hp).1
    · walk_at "e"; rcases e with e | e | e | e
      · walk_at "l"; exact to_less3 hp (e ▸ q1.1) (e ▸ q1.2.1) (e ▸ q1.2.2)
      · walk_at "l"; exact to_less3 hp (e ▸ q2.1) (e ▸ q2.2.1) (e ▸ q2.2.2)
      · walk_at "l"; exact to_less3 hp (e ▸ q3.1) (e ▸ q3.2.1) (e ▸ q3.2.2)
      · walk_at "l"; exact to_less3 hp (e ▸ q4.1) (e ▸ q4.2.1) (e ▸ q4.2.2)
    · have h1 := subi p hp e1 e2
      have h2 := off' p h1
      walk_at "l"; exact to_less3 (keep p (sub p h1) e1 e2) h2.1 h2.2.1 h2.2.2
    · walk_at "l"; rw [List.range'_concat, List.map_append]
      walk_at "l"; refine hys.append (.cons ⟨⟨tx, ?_⟩, rfl⟩ .nil)
      walk_at "l"; rw [Nat.zero_add, Nat.one_mul]
  · walk_at "l"; rintro ys news ⟨Hn, subn, hys⟩ d h tk F' N' o1
    walk_at "l"; exact k d ys h tk news F' N' (by simpa using hys) subn (off1_mem o1)
end NT
end
section
open PySem PySem.W PySem.Calls PyProof.Rows
namespace NT
section
variable {w : World} {A : Around} {E : Value → Shared → Prop} {s : Shared} {h₀ : Heap} {L : Addr} {m : Str → Option Value} {env : Env} {elt iter : PySem.Expr} {x : Str} {px : Pos} {scope : Scope} {cl : List (Str × Addr)} {pos : Pos}
structure TupSt (h₀ : Heap) (L : Addr) (m : Str → Option Value) (I C D ax : Addr) (its : List Value) (J : Nat → List Value → Ld → Prop) (i : Nat) (h : Heap) (ys : List Value) (news : Ld) : Prop where
  it : h.IsTupleIter I ax i ∧ h.IsTuple ax its.toArray
  F : Fr h₀ L h m
  ns : ∃ m', h.Ns C m'
  N : News h₀ L h ((D, LCg.lst ys) :: news)
  off : LCg.Off3 I C D news
  len : ys.length = i
  inv : J i ys news
theorem tup_loop {I C D ax : Addr} {its : List Value} {J : Nat → List Value → Ld → Prop} {R : Result → Shared → Prop} {h : Heap} {tk : Nat} {news : Ld} (hh : A.handled = none) (sc : scOk scope x = true) (hsz : its.length ≤ 1000) (hIC : @Ne Nat I C) (hID : @Ne Nat I D) (hCD : @Ne Nat C D) (hax : @Ne Nat ax I) (haC : @Ne Nat ax C) (haD : @Ne Nat ax D)
    (hLI : @Ne Nat L I) (hLC : @Ne Nat C L) (hLD : @Ne Nat D L) (fI : h₀.get? I = none) (fC : h₀.get? C = none) (fD : h₀.get? D = none)
    (step : ∀ i ys news v oI oC m₂ h tk (E' : Value → Shared → Prop), its[i]? = some v → J i ys news → oI.cls = .type "tuple_iterator" → LCg.NsObj oC m₂ → m₂ x = some v → Fr h₀ L h m → News h₀ L h ((I, oI) :: (C, oC) :: (D, LCg.lst ys) :: news) → LCg.Off3 I C D news →
      wpAny (model PW w) A (eval elt (compEnvC scope cl C env)) (fun y s' => ∃ h' tk' news', s' = { s with heap := h', toks := tk' } ∧ Fr h₀ L h' m ∧ News h₀ L h' ((I, oI) :: (C, oC) :: (D, LCg.lst ys) :: news') ∧ LCg.Off3 I C D news' ∧ (∃ o, (ax, o) ∈ news' ∧ o = tupObj its) ∧ J (i + 1) (ys ++ [y]) news') E' { s with heap := h, toks := tk })
    (done : ∀ h tk ys news m', Fr h₀ L h m → News h₀ L h ((D, LCg.lst ys) :: news) → (∀ p ∈ news, p.1 ≠ C ∧ p.1 ≠ D) → h.Ns C m' → J its.length ys news → R (.ok .next) { s with heap := h, toks := tk })
    (H : TupSt h₀ L m I C D ax its J 0 h [] news) : codeAny (model PW w) A (.compLoop (.ListComp elt [⟨.Name x px, iter, [], 0⟩] scope pos) 0 (.ref I) (.ref D) (compEnvC scope cl C env)) R { s with heap := h, toks := tk } := by
  have W := Walks.tuple (prog := PW) (w := w) (A := A) hh I ax hax its.toArray
  walk_at "l"; refine codeAny_compLoop_tests (fun k s' => ∃ i h tk ys news, s' = { s with heap := h, toks := tk } ∧ i ≤ its.length ∧ k = its.length + 1 - i ∧ TupSt h₀ L m I C D ax its J i h ys news) ?_ (its.length + 1) ⟨0, h, tk, [], news, rfl, Nat.zero_le _, rfl, H⟩
  walk_at "l"; rintro k s' ⟨i, h, tk, ys, news, rfl, hi, rfl, T⟩
  have off := T.off.mem
  have NT' : News h₀ L h news := fun p hp => T.N p (.tail _ hp)
  walk_at "e"; by_cases hlt : i < its.length
  · walk_at "l"; refine W.item i _ _ _ (by rw [List.size_toArray]; exact hlt) T.it fun v h₂ tk₂ hP st₂ hk => ?_
    have hk' : ∀ b o, b ≠ I → h.get? b = some o → h₂.get? b = some o := fun b o hb => hk b o (fun e => hb (List.mem_singleton.mp e))
    walk_at "e"; obtain ⟨m', hns⟩ := T.ns
    walk_at "l"; refine wpAny_assign_Name (wpAny_storeName_local (lookup_relabel_local (scOk_x sc)) (hns.at' fun o e => hk' _ o hIC.symm e) (fun h₃ hn₃ hs₃ => ?_) (by simp [compEnvC, relabel, scOk_k sc]))
    walk_at "l"; refine wpAny_tests_nil ?_
    walk_at "l"; rw [if_pos rfl]
    have k3 : ∀ b o, b ≠ C → h₂.get? b = some o → h₃.get? b = some o := fun b o hb e => hs₃.extBut b o hb e
    walk_at "e"; obtain ⟨oI, hoI, hcI, hdI⟩ := st₂.1
    walk_at "e"; obtain ⟨oC, hoC, hnC⟩ := LCg.ns_obj hn₃
    have F₃ : Fr h₀ L h₃ m := ⟨T.F.ns.at' fun o e => k3 L o (Ne.symm hLC) (hk' L o hLI e), fun b o e => k3 b o (fun q => by rw [q, fC] at e; cases e) (hk' b o (fun q => by rw [q, fI] at e; cases e) (T.F.keep b o e)), T.F.above⟩
    have N₃ : News h₀ L h₃ ((I, oI) :: (C, oC) :: (D, LCg.lst ys) :: news) := fun p hp => by
      walk_at "e"; rcases List.mem_cons.mp hp with rfl | hp
      · walk_at "l"; exact ⟨k3 I oI hIC hoI, fun e => hLI e.symm, fI⟩
      · walk_at "e"; rcases List.mem_cons.mp hp with rfl | hp
        · walk_at "l"; exact ⟨hoC, hLC, fC⟩
        · have z := T.N p hp
          walk_at "l"; refine ⟨k3 _ _ ?_ (hk' _ _ ?_ z.1), z.2⟩
          · walk_at "e"; rcases List.mem_cons.mp hp with rfl | hp
            · walk_at "l"; exact hCD.symm
            · walk_at "l"; exact (off p hp).2.1
          · walk_at "e"; rcases List.mem_cons.mp hp with rfl | hp
            · walk_at "l"; exact hID.symm
            · walk_at "l"; exact (off p hp).1
    have hv : its[i]? = some v := by simpa using hP
    walk_at "l"; refine wpAny_mono (step i ys news v oI oC _ h₃ _ _ hv T.inv hcI hnC (by simp) F₃ N₃ T.off) (fun y s₄ q => ?_) fun zz zz e => e
    walk_at "e"; obtain ⟨h₄, tk₄, news₄, rfl, F₄, N₄, off₄, ⟨oa, hoa, rfl⟩, J₄⟩ := q
    have zI := (N₄ (I, oI) (.head _)).1
    have zC := (N₄ (C, oC) (.tail _ (.head _))).1
    have zD := (N₄ (D, LCg.lst ys) (.tail _ (.tail _ (.head _)))).1
    have zA := (N₄ _ (.tail _ (.tail _ (.tail _ hoa)))).1
    have off4 := off₄.mem
    walk_at "l"; refine append_at (hsz := by rw [List.size_toArray, T.len, sizeLine_eq]; lia) zD fun h₅ hs₅ hD₅ => ?_
    have k5 : ∀ b o, b ≠ D → h₄.get? b = some o → h₅.get? b = some o := fun b o hb e => hs₅.extBut b o hb e
    walk_at "l"; refine ⟨its.length + 1 - (i + 1), by lia, i + 1, h₅, tk₄, ys ++ [y], news₄, rfl, hlt, rfl, ⟨⟨⟨oI, k5 _ _ hID zI, hcI, hdI⟩, ⟨tupObj its, k5 _ _ haD zA, rfl, _, rfl⟩⟩, ⟨F₄.ns.at' fun o e => k5 L o (Ne.symm hLD) e, fun b o e => k5 b o (fun q => by rw [q, fD] at e; cases e) (F₄.keep b o e), F₄.above⟩, ⟨_, (hnC.ns zC).at' fun o e => k5 _ _ hCD e⟩, fun p hp => ?_, off₄, by rw [List.length_append, T.len]; rfl, J₄⟩⟩
    walk_at "e"; rcases List.mem_cons.mp hp with rfl | hp
    · walk_at "l"; exact ⟨hD₅.trans (congrArg some (LCg.lst_snoc ys y)), hLD, fD⟩
    · have z := N₄ p (.tail _ (.tail _ (.tail _ hp)))
      walk_at "l"; exact ⟨k5 _ _ (off4 p hp).2.2 z.1, z.2⟩
  · have e : i = its.length := by lia
    walk_at "e"; subst e
    have st := T.it
    rw [show its.length = its.toArray.size from (List.size_toArray ..).symm] at st
    walk_at "l"; refine W.done _ _ _ st fun h₂ tk₂ hk => ?_
    have hk' : ∀ b o, b ≠ I → h.get? b = some o → h₂.get? b = some o := fun b o hb => hk b o (fun e => hb (List.mem_singleton.mp e))
    walk_at "e"; obtain ⟨m', hns⟩ := T.ns
    walk_at "l"; refine done h₂ tk₂ ys news m' ⟨T.F.ns.at' fun o e => hk' L o hLI e, fun b o e => hk' b o (fun q => by rw [q, fI] at e; cases e) (T.F.keep b o e), T.F.above⟩ (fun p hp => ?_) (fun p hp => (off p hp).2) (hns.at' fun o e => hk' _ o hIC.symm e) T.inv
    have z := T.N p hp
    walk_at "l"; refine ⟨hk' _ _ ?_ z.1, z.2⟩
    walk_at "e"; rcases List.mem_cons.mp hp with rfl | hp
    · walk_at "l"; exact hID.symm
    · walk_at "l"; exact (off p hp).1
end
end NT
end
section
open PySem PySem.W PySem.Calls PyProof.Rows
namespace NT
theorem assign_tup {w : World} {A : Around} {E : Value → Shared → Prop} {s : Shared} {h₀ : Heap} {m : Str → Option Value} {env : Env} {elt iter : PySem.Expr} {x y : Str} {px py : Pos} {scope : Scope} {cl : List (Str × Addr)} {pos spos : Pos} {Q : Flow → Shared → Prop}
    (hh : A.handled = none) (sc : scOk scope x = true) (hsw : swapsWith (.ListComp elt [⟨.Name x px, iter, [], 0⟩] scope pos) (some (.Name y py)) spos.line env = pure true) (hclos : closureFor scope env = pure cl)
    (hy : env.kindOf y = some .local) (hp : (env.scope.kind == .class || (env.scope.kind == .module && env.locals != env.globals)) = false)
    (h : wpAny (model PW w) A (eval iter env) (fun xv s₁ => ∃ (ax : Addr) (news : Ld) (its : List Value) (J : Nat → List Value → Ld → Prop), its.length ≤ 1000 ∧ xv = .ref ax ∧ Fr h₀ env.locals s₁.heap m ∧ News h₀ env.locals s₁.heap news ∧ (ax, tupObj its) ∈ news ∧ J 0 [] news ∧
      (∀ I C D i ys news v oI oC m₂ h tk (E' : Value → Shared → Prop), its[i]? = some v → J i ys news → oI.cls = .type "tuple_iterator" → LCg.NsObj oC m₂ → m₂ x = some v → Fr h₀ env.locals h m → News h₀ env.locals h ((I, oI) :: (C, oC) :: (D, LCg.lst ys) :: news) → LCg.Off3 I C D news →
        wpAny (model PW w) A (eval elt (compEnvC scope cl C env)) (fun z s' => ∃ h' tk' news', s' = { s₁ with heap := h', toks := tk' } ∧ Fr h₀ env.locals h' m ∧ News h₀ env.locals h' ((I, oI) :: (C, oC) :: (D, LCg.lst ys) :: news') ∧ LCg.Off3 I C D news' ∧ (∃ o, (ax, o) ∈ news' ∧ o = tupObj its) ∧ J (i + 1) (ys ++ [z]) news') E' { s₁ with heap := h, toks := tk }) ∧
      (∀ D h tk ys news, Fr h₀ env.locals h (fun z => if z = y then some (.ref D) else m z) → News h₀ env.locals h ((D, LCg.lst ys) :: news) → (∀ p ∈ news, p.1 ≠ D) → J its.length ys news → Q .next { s₁ with heap := h, toks := tk })) E s)
    (hs : ∀ x, foldedSetIterable iter env x = pure x) :
    wpAny (model PW w) A (exec (.Assign [.Name y py] (.ListComp elt [⟨.Name x px, iter, [], 0⟩] scope pos) spos) env) Q E s := by
  walk_at "l"; rw [exec_Assign_Name_used _ _ _ _ hsw]
  walk_at "l"; refine wpAny_bind (wpAny_standAt (wpAny_bind ?_))
  walk_at "l"; show wpAny _ A (do let _ ← comprehension (.ListComp elt [⟨.Name x px, iter, [], 0⟩] scope pos) scope env _ (newList []) false (eval iter env) (some (assign (.Name y py) env))) _ _ s
  walk_at "l"; refine wpAny_bind (wpAny_mono (wpAny_comprehension_free (use := some (assign (.Name y py) env)) (Q := fun zz s' => Q .next s') rfl hs hclos (scOk_k sc) (scOk_b sc)
    (wpAny_mono h (fun xv s₁ h₁ => ?_) fun zz zz e => e)) (fun zz s' hq => wpAny_pure (wpAny_pure hq)) fun zz zz e => e)
  walk_at "e"; obtain ⟨ax, news, its, J, hsz, rfl, F, N, hax, J0, step, fin⟩ := h₁
  have hl : s₁.heap.IsTuple ax its.toArray := ⟨_, (N _ hax).1, rfl, _, rfl⟩
  walk_at "l"; refine wpAny_pyIter_tuple hl ?_
  walk_at "l"; generalize hH1 : s₁.heap.push { cls := .type "tuple_iterator", data := .fields #[.ref ax, .int 0 0] } = H1
  have z1 : H1.objs.size = s₁.heap.objs.size + 1 := by rw [← hH1, Heap.size_push]
  walk_at "l"; refine wpAny_newObj_type (wpAny_newFunctionEnv (scOk_a sc) (by intro y hy; simp at hy) (fun h₁ hns₁ hsb₁ => ?_) (scOk_k sc))
  walk_at "l"; dsimp only at hns₁ hsb₁ ⊢
  walk_at "l"; generalize hH2 : H1.push { cls := .type "list", dict := none, data := .seq ([] : List Value).toArray } = H2 at hns₁ hsb₁ ⊢
  have z2 : H2.objs.size = s₁.heap.objs.size + 2 := by rw [← hH2, Heap.size_push, z1]
  let I : Addr := s₁.heap.objs.size
  let D : Addr := H1.objs.size
  let C : Addr := H2.objs.size
  have hI : I < s₁.heap.objs.size + 1 := Nat.lt_succ_self _
  have p1 : ∀ b o, s₁.heap.get? b = some o → H1.get? b = some o := fun b o e => hH1 ▸ Heap.get?_push_of_some _ e
  have p2 : ∀ b o, H1.get? b = some o → H2.get? b = some o := fun b o e => hH2 ▸ Heap.get?_push_of_some _ e
  have gI1 : H1.get? s₁.heap.objs.size = some { cls := .type "tuple_iterator", data := .fields #[.ref ax, .int 0 0] } := hH1 ▸ Heap.get?_push_size _ rfl
  have gD2 : H2.get? H1.objs.size = some (LCg.lst []) := hH2 ▸ Heap.get?_push_size _ rfl
  have old : ∀ b o, s₁.heap.get? b = some o → h₁.get? b = some o := fun b o e => by
    have lt : @LT.lt Nat _ b s₁.heap.objs.size := Heap.lt_size e
    walk_at "l"; refine hsb₁.extBut b o (fun q => ?_) (Heap.get?_push_of_some _ (p2 _ _ (p1 _ _ e)))
    have q' : @Eq Nat b H2.objs.size := q
    walk_at "l"; lia
  have fresh : ∀ a : Addr, s₁.heap.objs.size ≤ a → h₀.get? a = none := fun a ha => by
    walk_at "l"; cases e : h₀.get? a with
    | none => walk_at "l"; rfl
    | some o' => walk_at "l"; exact absurd (Heap.lt_size (F.keep a o' e)) (Nat.not_lt.mpr ha)
  have hLlt : env.locals < s₁.heap.objs.size := F.ns.lt
  have hA : ax < s₁.heap.objs.size := Heap.lt_size (N _ hax).1
  have nIC : @Ne Nat I C := by show @Ne Nat s₁.heap.objs.size H2.objs.size; rw [z2]; lia
  have nID : @Ne Nat I D := by show @Ne Nat s₁.heap.objs.size H1.objs.size; rw [z1]; lia
  have nCD : @Ne Nat C D := by show @Ne Nat H2.objs.size H1.objs.size; rw [z2, z1]; lia
  have leC : ∀ b : Addr, b < s₁.heap.objs.size → @Ne Nat b I ∧ @Ne Nat b C ∧ @Ne Nat b D := fun b hb => ⟨Nat.ne_of_lt hb, by show @Ne Nat b H2.objs.size; rw [z2]; exact Nat.ne_of_lt (Nat.lt_trans hb (by lia)), by show @Ne Nat b H1.objs.size; rw [z1]; exact Nat.ne_of_lt (Nat.lt_trans hb (by lia))⟩
  have fI : h₀.get? I = none := fresh I (Nat.le_refl _)
  have fD : h₀.get? D = none := fresh D (by show s₁.heap.objs.size ≤ H1.objs.size; rw [z1]; lia)
  have fC : h₀.get? C = none := fresh C (by show s₁.heap.objs.size ≤ H2.objs.size; rw [z2]; lia)
  have gI : h₁.get? I = some { cls := .type "tuple_iterator", data := .fields #[.ref ax, .int 0 0] } := hsb₁.extBut I _ nIC (Heap.get?_push_of_some _ (p2 _ _ gI1))
  have gD : h₁.get? D = some (LCg.lst []) := hsb₁.extBut D _ nCD.symm (Heap.get?_push_of_some _ gD2)
  have nL := leC env.locals hLlt
  have nA := leC ax hA
  have T : TupSt h₀ env.locals m I C D ax its J 0 h₁ [] news := ⟨⟨⟨_, gI, rfl, rfl⟩, ⟨_, old _ _ (N _ hax).1, rfl, _, rfl⟩⟩, F.keeps old, ⟨_, hns₁⟩, fun p hp => by
    walk_at "e"; rcases List.mem_cons.mp hp with rfl | hp
    · walk_at "l"; exact ⟨gD, nL.2.2.symm, fD⟩
    · walk_at "l"; exact ⟨old _ _ (N p hp).1, (N p hp).2⟩, LCg.Off3.of fun p hp => leC _ (Heap.lt_size (N p hp).1), rfl, J0⟩
  have loop : ∀ tk, codeAny (model PW w) A (.compLoop (.ListComp elt [⟨.Name x px, iter, [], 0⟩] scope pos) 0 (.ref I) (.ref D) (compEnvC scope cl C env)) (compPost (model PW w) A E (some (assign (.Name y py) env)) (fun zz s' => Q .next s') (.ref D) C) { s₁ with heap := h₁, toks := tk } := fun tk => by
    walk_at "l"; refine tup_loop (s := s₁) (J := J) hh sc hsz nIC nID nCD nA.1 nA.2.1 nA.2.2 nL.1 nL.2.1.symm nL.2.2.symm fI fC fD (fun i ys news v oI oC m₂ h tk E' => step I C D i ys news v oI oC m₂ h tk E') (fun h tk ys news m' F' N' off hn Jn => ?_) T
    walk_at "l"; show wpAny _ A (assign (.Name y py) env (.ref D)) _ _ _
    walk_at "l"; refine wpAny_assign_Name (wpAny_storeName_local hy F'.ns (fun h₂ hn₂ hs₂ => ?_) hp)
    have hL₀ : h₀.get? env.locals = none := Heap.get?_none_of_le F'.above
    have F₂ : Fr h₀ env.locals h₂ (fun z => if z = y then some (.ref D) else m z) := ⟨hn₂, fun b o e => hs₂.extBut b o (fun q => by rw [q, hL₀] at e; cases e) (F'.keep b o e), F'.above⟩
    walk_at "l"; refine ⟨m', hn.sameBut hs₂ nL.2.1.symm, fun h'' hs'' => fin D h'' _ ys news (F₂.change hs'' nL.2.1.symm fC) (fun p hp => ?_) (fun p hp => (off p hp).2) Jn⟩
    have z : h₂.get? p.1 = some p.2 := hs₂.extBut _ _ (N' p hp).2.1 (N' p hp).1
    walk_at "l"; refine ⟨hs''.extBut _ _ ?_ z, (N' p hp).2⟩
    walk_at "e"; rcases List.mem_cons.mp hp with rfl | hp
    · walk_at "l"; exact nCD.symm
    · walk_at "l"; exact (off p hp).1
  walk_at "l"; exact codeAny_compStart_list (loop _) ((Walks.tuple (prog := PW) (w := w) (A := A) hh I ax nA.1 its.toArray).self 0 _ _ _ T.it (loop _))
end NT
end
section
open PySem PySem.W PySem.Calls PyProof.Rows
namespace NT
section
noncomputable section
noncomputable def tdE : PySem.Expr := asE (nth lwB 0)
noncomputable def tdX : PySem.Expr := lcE tdE
noncomputable def tdI : PySem.Expr := lcI tdE
noncomputable def clN (n : Nat) : PySem.Expr → PySem.Expr
  | .Call _ l _ _ => nthE l n
  | _ => pX
end
theorem td_eq : nth lwB 0 = .Assign [.Name "told" (asXp (nth lwB 0))] (.ListComp tdX [⟨.Name "ups" (nmP (lcX tdE)), tdI, [], 0⟩] (lcS tdE) (lcP tdE)) (asP (nth lwB 0)) := by kernel_rfl
theorem tdX_eq : tdX = .Call (.Name "_law_ran" (nmP (clF tdX))) [.Name "symbols" (nmP (clN 0 tdX)), .Name "ups" (nmP (clN 1 tdX)), .Name "ways" (nmP (clN 2 tdX)), .Name "is_last" (nmP (clN 3 tdX)), .Name "table" (nmP (clN 4 tdX))] [] (clP tdX) := by kernel_rfl
theorem tdI_eq : tdI = .Tuple [.Constant (.int 1) (coK (nthE (tuE tdI) 0)) (coP (nthE (tuE tdI) 0)), .Constant (.int 2) (coK (nthE (tuE tdI) 1)) (coP (nthE (tuE tdI) 1)), .Name "many" (nmP (nthE (tuE tdI) 2))] 0 (tuP tdI) := by kernel_rfl
theorem td_sc : scOk (lcS tdE) "ups" = true := by kernel_rfl
noncomputable def tdC (c : Addr) : List (Str × Addr) := [("ways", c + 1), ("table", c + 2), ("symbols", c + 3), ("is_last", c + 4)]
theorem td_clo {cn : Str} {L a c : Addr} {ccd : Value} : closureFor (lcS tdE) (envX cn I1676.scope L a ccd (lwC c)) = pure (tdC c) := by kernel_rfl
theorem td_sw {cn : Str} {L a c : Addr} {ccd : Value} : swapsWith (.ListComp tdX [⟨.Name "ups" (nmP (lcX tdE)), tdI, [], 0⟩] (lcS tdE) (lcP tdE)) (some (.Name "told" (asXp (nth lwB 0)))) (asP (nth lwB 0)).line (envX cn I1676.scope L a ccd (lwC c)) = pure true := by kernel_rfl
theorem td_told : I1676.scope.names.lookup ("told" : Str) = some .local := by kernel_rfl
theorem td_fold {x : Value} {env : Env} : foldedSetIterable tdI env x = pure x := by rw [tdI_eq]; rfl
theorem td_k {cn : Str} {L a C : Addr} {ccd : Value} {cl cl' : List (Str × Addr)} : ((compEnvC (lcS tdE) cl' C (envX cn I1676.scope L a ccd cl)).kindOf ("_law_ran" : Str), (compEnvC (lcS tdE) cl' C (envX cn I1676.scope L a ccd cl)).kindOf ("symbols" : Str), (compEnvC (lcS tdE) cl' C (envX cn I1676.scope L a ccd cl)).kindOf ("ways" : Str), (compEnvC (lcS tdE) cl' C (envX cn I1676.scope L a ccd cl)).kindOf ("is_last" : Str), (compEnvC (lcS tdE) cl' C (envX cn I1676.scope L a ccd cl)).kindOf ("table" : Str)) = (some .globalImplicit, some .cell, some .cell, some .cell, some .cell) := by kernel_rfl
theorem ran_k (P : Params) : nsIn (K P) mainGlobals "_law_ran" = some (some (.ref 1671)) := by kernel_rfl
theorem ran_keep (P : Params) : keepIn (K P) (.ref 1671) = true := by kernel_rfl
theorem nu_ok : ∀ n ∈ r4N, ∀ u ∈ [1, 2, n], (n, (u : Int)) ∈ rdC := by decide
end
structure LawIn (R : Ld) (c wx sx : Addr) (tb : Value) (n : Nat) (ws : List Int) (bl : Bool) : Prop where
  wc : ∃ o, (c + 1, o) ∈ R ∧ o.data = .cell (some (.ref wx))
  tc : ∃ o, (c + 2, o) ∈ R ∧ o.data = .cell (some tb)
  sc : ∃ o, (c + 3, o) ∈ R ∧ o.data = .cell (some (.ref sx))
  bc : ∃ o, (c + 4, o) ∈ R ∧ o.data = .cell (some (.bool bl))
  ways : ∃ (l : List Value) (cw : Nat), (wx, W.listOf l.toArray cw) ∈ R ∧ All2 LiR (ws.map IsI) l
  syms : ∃ (ls : List Value) (cs : Nat), (sx, W.listOf ls.toArray cs) ∈ R ∧ All2 LiR ((List.range' 0 n).map fun i : Nat => IsI (i : Int)) ls
theorem LawIn.mono {R R' : Ld} {c wx sx : Addr} {tb : Value} {n : Nat} {ws : List Int} {bl : Bool} (h : LawIn R c wx sx tb n ws bl) (s : Sub R R') : LawIn R' c wx sx tb n ws bl :=
  ⟨h.wc.imp fun zz q => ⟨s _ q.1, q.2⟩, h.tc.imp fun zz q => ⟨s _ q.1, q.2⟩, h.sc.imp fun zz q => ⟨s _ q.1, q.2⟩, h.bc.imp fun zz q => ⟨s _ q.1, q.2⟩, h.ways.imp fun zz q => q.imp fun zz q => ⟨s _ q.1, q.2⟩, h.syms.imp fun zz q => q.imp fun zz q => ⟨s _ q.1, q.2⟩⟩
inductive ToldR (R : Ld) (n : Nat) (ws : List Int) (bl : Bool) (u : Nat) (y : Value) : Prop
  | mk (x lx t1 t2 t3) : (y = .ref x) → ((x, tupObj [.ref lx, .int (deepOf bl u) t1, .int (1 + (costOf bl ws n u : Nat)) t2]) ∈ R) → ((lx, W.listOf [Value.int 7 t3].toArray 0) ∈ R) → ToldR R n ws bl u y
theorem ToldR.mono {R R' : Ld} {n : Nat} {ws : List Int} {bl : Bool} {u : Nat} {y : Value} (s : Sub R R') (h : ToldR R n ws bl u y) : ToldR R' n ws bl u y := by
  walk_at "e"; obtain ⟨x, lx, t1, t2, t3, a, b, c⟩ := h
  walk_at "l"; exact ⟨x, lx, t1, t2, t3, a, s _ b, s _ c⟩
theorem told_turn {g : Gx} {f : Fx} {s : Shared} {kd : Nat} {m m₂ : Str → Option Value} {R : Ld} {I C D c wx sx : Addr} {oI oC : Obj} {tb : Value} {n u : Nat} {ws : List Int} {bl : Bool} {t : Tok} {ys : List Value} {us : List Nat} {cn : Str} {a : Addr} {ccd : Value} (O : COk g kd f) (hK : g.X.K = K g.w.params) (hkd : 81 ≤ kd)
    (F : Fr f.h₀ f.L s.heap m) (N : News f.h₀ f.L s.heap ((I, oI) :: (C, oC) :: (D, LCg.lst ys) :: R)) (off : LCg.Off3 I C D R) (hI : oI.cls = .type "tuple_iterator") (hC : LCg.NsObj oC m₂) (hx : m₂ "ups" = some (.int (u : Int) t)) (H : LawIn R c wx sx tb n ws bl) (htb : handedIn tb = true) (hn : n ∈ r4N) (hu : u ∈ [1, 2, n]) (hws : ∀ k ∈ ws, 0 ≤ k ∧ k < 5) (hwl : ws.length ≤ 4)
    (hys : All2 (ToldR R n ws bl) us ys) {Q : Value → Shared → Prop}
    (k : ∀ R' h tk y, Fr f.h₀ f.L h m → News f.h₀ f.L h ((I, oI) :: (C, oC) :: (D, LCg.lst ys) :: R') → LCg.Off3 I C D R' → Sub R R' → ToldR R' n ws bl u y → Q y { s with heap := h, toks := tk }) :
    WP g f (eval tdX (compEnvC (lcS tdE) (tdC c) C (envX cn I1676.scope f.L a ccd (lwC c)))) Q s := by
  have XK : (K g.w.params).In f.h₀ := by rw [← hK]; exact O.X
  have kk := @td_k cn f.L a C ccd (lwC c) (tdC c)
  have k1 := congrArg Prod.fst kk
  have k2 := congrArg (fun x => x.2.1) kk
  have k3 := congrArg (fun x => x.2.2.1) kk
  have k4 := congrArg (fun x => x.2.2.2.1) kk
  have k5 := congrArg (fun x => x.2.2.2.2) kk
  dsimp only at k1 k2 k3 k4 k5
  have hsk : (lcS tdE).kind = .function := scOk_k td_sc
  let W0 : Ld := (I, oI) :: (C, oC) :: (D, LCg.lst ys) :: R
  have sub : Sub R W0 := fun p hp => .tail _ (.tail _ (.tail _ hp))
  walk_at "e"; obtain ⟨o1, b1, c1⟩ := H.wc
  walk_at "e"; obtain ⟨o2, b2, c2⟩ := H.tc
  walk_at "e"; obtain ⟨o3, b3, c3⟩ := H.sc
  walk_at "e"; obtain ⟨o4, b4, c4⟩ := H.bc
  walk_at "e"; obtain ⟨l, cw, l1, l2⟩ := H.ways
  walk_at "e"; obtain ⟨ls, cs, s1, s2⟩ := H.syms
  walk_at "l"; rw [tdX_eq]
  walk_at "l"; refine callN (g := g) (f := f) (fa := 1671) O.X (by rw [hK]; exact ran_keep _) rfl (cenvK O F rfl (by rw [hK]; exact ran_k _) hsk k1 (by decide) ⟨rfl, ?_⟩)
  walk_at "l"; refine args_cons (lcf_cell N rfl (sub _ b3) c3 ?_ hsk k2) (plain_star rfl)
  walk_at "l"; refine args_cons (cenvL td_sc (by decide) N (.tail _ (.head _)) hC hx ?_) (plain_star rfl)
  walk_at "l"; refine args_cons (lcf_cell N rfl (sub _ b1) c1 ?_ hsk k3) (plain_star rfl)
  walk_at "l"; refine args_cons (lcf_cell N rfl (sub _ b4) c4 ?_ hsk k4) (plain_star rfl)
  walk_at "l"; refine args_cons (lcf_cell N rfl (sub _ b2) c2 (args_nil ⟨O.X.keeps F.keep, ?_⟩) hsk k5) (plain_star rfl)
  walk_at "l"; refine says_run (g := g) (f := f) (ran_says (bl := bl) (t := t) (tb := tb) (nu_ok n hn u hu) (sub _ s1) s2 (sub _ l1) l2 hws hwl htb) O hK hkd F N fun v led h tk F₂ N₂ r => ?_
  walk_at "e"; obtain ⟨x, lx, t1, t2, t3, rfl, r1, r2, r3⟩ := r
  have uq := news_uniq N₂
  have mI : (I, oI) ∈ led := r3 _ (.head _)
  have mC : (C, oC) ∈ led := r3 _ (.tail _ (.head _))
  have mD : (D, LCg.lst ys) ∈ led := r3 _ (.tail _ (.tail _ (.head _)))
  walk_at "e"; obtain ⟨es, ep, hdC, _⟩ := hC
  have xI : @Ne Nat x I := fun e => by
    have := uq _ r1 _ mI e
    dsimp only at this
    rw [← this] at hI
    walk_at "l"; exact absurd (Value.type.inj hI) (by decide)
  have xC : @Ne Nat x C := fun e => by
    have := uq _ r1 _ mC e
    dsimp only at this
    rw [← this] at hdC
    walk_at "e"; cases hdC
  have xD : @Ne Nat x D := fun e => by
    have := congrArg Obj.cls (uq _ r1 _ mD e)
    walk_at "l"; exact absurd (Value.type.inj this) (by decide)
  have lI : @Ne Nat lx I := fun e => by
    have := uq _ r2 _ mI e
    dsimp only at this
    rw [← this] at hI
    walk_at "l"; exact absurd (Value.type.inj hI) (by decide)
  have lC : @Ne Nat lx C := fun e => by
    have := uq _ r2 _ mC e
    dsimp only at this
    rw [← this] at hdC
    walk_at "e"; cases hdC
  have lD : @Ne Nat lx D := fun e => by
    have := congrArg Obj.data (uq _ r2 _ mD e)
    have := (Data.seq.inj this).1
    have h : [Value.int 7 t3] = ys := by simpa using congrArg Array.toList this
    rw [← h] at hys
    walk_at "e"; cases hys with
    | cons a _ => walk_at "e"; obtain ⟨_, _, _, _, _, e, _⟩ := a; cases e
  walk_at "l"; refine k ((x, tupObj [.ref lx, .int (deepOf bl u) t1, .int (1 + (costOf bl ws n u : Nat)) t2]) :: (lx, W.listOf [Value.int 7 t3].toArray 0) :: R) h tk (.ref x) F₂ (fun p hp => ?_) ⟨⟨xI, xC, xD⟩, ⟨lI, lC, lD⟩, off⟩ (fun p hp => .tail _ (.tail _ hp)) ⟨x, lx, t1, t2, t3, rfl, .head _, .tail _ (.head _)⟩
  walk_at "e"; rcases List.mem_cons.mp hp with rfl | hp
  · walk_at "l"; exact N₂ _ mI
  · walk_at "e"; rcases List.mem_cons.mp hp with rfl | hp
    · walk_at "l"; exact N₂ _ mC
    · walk_at "e"; rcases List.mem_cons.mp hp with rfl | hp
      · walk_at "l"; exact N₂ _ mD
      · walk_at "e"; rcases List.mem_cons.mp hp with rfl | hp
        · walk_at "l"; exact N₂ _ r1
        · walk_at "e"; rcases List.mem_cons.mp hp with rfl | hp
          · walk_at "l"; exact N₂ _ r2
          · walk_at "l"; exact N₂ _ (r3 _ (sub _ hp))
end NT
end
section
open PySem PySem.W PySem.Calls PyProof.Rows
namespace NT
theorem All2.snoc {α β : Type} {R : α → β → Prop} {l : List α} {m : List β} {a : α} {b : β} (h : All2 R l m) (r : R a b) : All2 R (l ++ [a]) (m ++ [b]) := h.append (.cons r .nil)
theorem told_ok {g : Gx} {f : Fx} {s : Shared} {kd : Nat} {m : Str → Option Value} {R : Ld} {c wx sx : Addr} {tb : Value} {n : Nat} {ws : List Int} {bl : Bool} {t : Tok} {cn : Str} {a : Addr} {ccd : Value} (O : COk g kd f) (hK : g.X.K = K g.w.params) (hkd : 81 ≤ kd) (he : f.env = envX cn I1676.scope f.L a ccd (lwC c))
    (F : Fr f.h₀ f.L s.heap m) (N : News f.h₀ f.L s.heap R) (hm : m "many" = some (.int (n : Int) t)) (H : LawIn R c wx sx tb n ws bl) (htb : handedIn tb = true) (hn : n ∈ r4N) (hws : ∀ k ∈ ws, 0 ≤ k ∧ k < 5) (hwl : ws.length ≤ 4) {Q : Flow → Shared → Prop}
    (k : ∀ D ys R' h tk, Fr f.h₀ f.L h (fun z => if z = "told" then some (.ref D) else m z) → News f.h₀ f.L h ((D, LCg.lst ys) :: R') → LawIn R' c wx sx tb n ws bl → Sub R R' → All2 (ToldR R' n ws bl) [1, 2, n] ys → Q .next { s with heap := h, toks := tk }) : WP g f (exec (nth lwB 0) f.env) Q s := by
  have hke := O.hke
  walk_at "l"; unfold WP
  walk_at "l"; rw [he] at hke ⊢
  walk_at "l"; rw [td_eq]
  walk_at "l"; refine assign_tup (h₀ := f.h₀) (m := m) O.hh td_sc td_sw td_clo td_told ?_ ?_ (fun zz => td_fold)
  · walk_at "l"; show (I1676.scope.kind == .class || (I1676.scope.kind == .module && f.L != mainGlobals)) = false
    walk_at "l"; rw [show I1676.scope.kind = .function from hke]
    walk_at "l"; rfl
  walk_at "l"; rw [tdI_eq]
  walk_at "l"; refine Tuple_ (args_cons (wpAny_Constant_int (args_cons (wpAny_Constant_int (args_cons (nameX_L F hm (args_nil ?_) hke many_local) (plain_star rfl))) (plain_star rfl))) (plain_star rfl))
  walk_at "l"; refine newTuple_N F N (fun h₁ F₁ N₁ => ?_) (by show 3 ≤ sizeLine; decide)
  let its : List Value := [.int 1 s.toks, .int 2 (s.toks + 1), .int (n : Int) t]
  let ax : Addr := s.heap.objs.size
  let us : List Nat := [1, 2, n]
  have hits : ∀ (i : Nat) (v : Value), its[i]? = some v → ∃ (u : Nat) (t : Tok), us[i]? = some u ∧ v = Value.int (u : Int) t := by
    walk_at "l"; intro i v e
    walk_at "l"; match i with
    | 0 => walk_at "e"; cases e; walk_at "l"; exact ⟨1, _, rfl, rfl⟩
    | 1 => walk_at "e"; cases e; walk_at "l"; exact ⟨2, _, rfl, rfl⟩
    | 2 => walk_at "e"; cases e; walk_at "l"; exact ⟨n, _, rfl, rfl⟩
    | i + 3 => simp [its] at e
  walk_at "l"; refine ⟨ax, (ax, tupObj its) :: R, its, fun i ys news => LawIn news c wx sx tb n ws bl ∧ Sub R news ∧ (ax, tupObj its) ∈ news ∧ All2 (ToldR news n ws bl) (us.take i) ys, by show 3 ≤ 1000; decide, rfl, F₁, N₁, .head _, ⟨H.mono fun p hp => .tail _ hp, fun p hp => .tail _ hp, .head _, .nil⟩, ?_, ?_⟩
  · walk_at "l"; rintro I C D i ys news v oI oC m₂ h tk E' hv ⟨Hi, subi, hai, hys⟩ hI hC hx F' N' off
    walk_at "e"; obtain ⟨u, tu, hu, rfl⟩ := hits i v hv
    let f' : Fx := { f with E := E' }
    have O' : COk g kd f' := ⟨O.B, O.X, O.T, O.hA, O.hf, O.hke, O.hh, O.hd, O.hu, O.env, O.one⟩
    walk_at "l"; refine told_turn (g := g) (f := f') O' hK hkd F' N' off hI hC hx Hi htb hn (List.mem_of_getElem? hu) hws hwl hys fun R' h₃ tk₃ y F₃ N₃ off₃ sub₃ hy => ?_
    walk_at "l"; refine ⟨h₃, tk₃, R', rfl, F₃, N₃, off₃, ⟨_, sub₃ _ hai, rfl⟩, Hi.mono sub₃, fun p hp => sub₃ p (subi p hp), sub₃ _ hai, ?_⟩
    walk_at "l"; rw [List.take_add_one, hu]
    walk_at "l"; exact (hys.imp fun zz zz q => q.mono sub₃).snoc hy
  · walk_at "l"; rintro D h tk ys news F' N' _ ⟨Hn, subn, _, hys⟩
    walk_at "l"; exact k D ys news h tk F' N' Hn subn hys
end NT
end
section
open PySem PySem.W PySem.Calls PyProof.Rows
namespace NT
section
noncomputable section
noncomputable def boE (n : Nat) (e : PySem.Expr) : PySem.Expr := kid e n
noncomputable def boP (e : PySem.Expr) : Pos := e.pos
noncomputable def unE (e : PySem.Expr) : PySem.Expr := kid e 0
noncomputable def unP (e : PySem.Expr) : Pos := e.pos
noncomputable def ieT (n : Nat) (e : PySem.Expr) : PySem.Expr := kid e n
noncomputable def ieP (e : PySem.Expr) : Pos := e.pos
noncomputable def cmN (n : Nat) (e : PySem.Expr) : PySem.Expr := kid e (n + 1)
noncomputable def if1 : PySem.Expr := ifT (nth lwB 1)
noncomputable def if1a : PySem.Expr := boE 0 if1
noncomputable def if1b : PySem.Expr := boE 1 if1
noncomputable def if1c : PySem.Expr := cmL if1b
noncomputable def if1m : PySem.Expr := cmR if1b
noncomputable def moE : PySem.Expr := asE (nth lwB 2)
noncomputable def if2 : PySem.Expr := ifT (nth lwB 3)
noncomputable def if2a : PySem.Expr := boE 0 if2
noncomputable def if2b : PySem.Expr := boE 1 if2
noncomputable def if3 : PySem.Expr := unE (ifT (nth lwB 4))
end
theorem lwB_eq : lwB = [nth lwB 0, .If (.BoolOp .Or [if1a, if1b] (boP if1)) (ifB (nth lwB 1)) [] (ifP (nth lwB 1)), .Assign [.Name "more" (asXp (nth lwB 2))] moE (asP (nth lwB 2)), .If (.BoolOp .Or [if2a, if2b] (boP if2)) (ifB (nth lwB 3)) [] (ifP (nth lwB 3)), .If (.UnaryOp .Not if3 (unP (ifT (nth lwB 4)))) (ifB (nth lwB 4)) [] (ifP (nth lwB 4))] := by kernel_rfl
theorem if1a_eq : if1a = .Compare (.Constant .none (coK (cmL if1a)) (coP (cmL if1a))) [.In] [.Name "told" (nmP (cmR if1a))] (cmP if1a) := by kernel_rfl
theorem if1b_eq : if1b = .Compare if1c [.NotEq] [if1m] (cmP if1b) := by kernel_rfl
theorem if1c_eq : if1c = .ListComp (.Subscript (.Name "one" (nmP (suV (lcE if1c)))) (.Constant (.int 0) (coK (suI (lcE if1c))) (coP (suI (lcE if1c)))) (suP (lcE if1c))) [⟨.Name "one" (nmP (lcX if1c)), .Name "told" (nmP (lcI if1c)), [], 0⟩] (lcS if1c) (lcP if1c) := by kernel_rfl
theorem if1m_eq : if1m = .BinOp (.List [.List [.Constant (.int 7) (coK (nthE (liE (nthE (liE (biL if1m)) 0)) 0)) (coP (nthE (liE (nthE (liE (biL if1m)) 0)) 0))] (liP (nthE (liE (biL if1m)) 0))] (liP (biL if1m))) .Mult (.Constant (.int 3) (coK (biR if1m)) (coP (biR if1m))) (biP if1m) := by kernel_rfl
theorem moE_eq : moE = .IfExp (.Name "is_last" (nmP (ieT 0 moE))) (.Constant (.int 0) (coK (ieT 1 moE)) (coP (ieT 1 moE))) (.Constant (.int 1) (coK (ieT 2 moE)) (coP (ieT 2 moE))) (ieP moE) := by kernel_rfl
noncomputable def ItemE (i j : Int) (e : PySem.Expr) : Prop := e = .Subscript (.Subscript (.Name "told" (nmP (suV (suV e)))) (.Constant (.int i) (coK (suI (suV e))) (coP (suI (suV e)))) (suP (suV e))) (.Constant (.int j) (coK (suI e)) (coP (suI e))) (suP e)
theorem if2a_eq : if2a = .Compare (cmL if2a) [.NotEq] [.BinOp (biL (cmR if2a)) .Add (.Name "more" (nmP (biR (cmR if2a)))) (biP (cmR if2a))] (cmP if2a) := by kernel_rfl
theorem if2b_eq : if2b = .Compare (cmL if2b) [.NotEq] [.BinOp (biL (cmR if2b)) .Add (.BinOp (.Name "more" (nmP (biL (biR (cmR if2b))))) .Mult (.BinOp (.Name "many" (nmP (biL (biR (biR (cmR if2b)))))) .Sub (.Constant (.int 1) (coK (biR (biR (biR (cmR if2b))))) (coP (biR (biR (biR (cmR if2b)))))) (biP (biR (biR (cmR if2b))))) (biP (biR (cmR if2b)))) (biP (cmR if2b))] (cmP if2b) := by kernel_rfl
theorem if3_eq : if3 = .Compare (cmL if3) [.Lt, .Lt] [cmN 0 if3, cmN 1 if3] (cmP if3) := by kernel_rfl
theorem it_2a : ItemE 1 1 (cmL if2a) ∧ ItemE 0 1 (biL (cmR if2a)) := by unfold ItemE; constructor <;> kernel_rfl
theorem it_2b : ItemE 2 1 (cmL if2b) ∧ ItemE 0 1 (biL (cmR if2b)) := by unfold ItemE; constructor <;> kernel_rfl
theorem it_3 : ItemE 0 2 (cmL if3) ∧ ItemE 1 2 (cmN 0 if3) ∧ ItemE 2 2 (cmN 1 if3) := by unfold ItemE; refine ⟨?_, ?_, ?_⟩ <;> kernel_rfl
theorem if1_sc : scOk (lcS if1c) "one" = true := by kernel_rfl
theorem if1_clo {cn : Str} {L a c : Addr} {ccd : Value} : closureFor (lcS if1c) (envX cn I1676.scope L a ccd (lwC c)) = pure [] := by kernel_rfl
theorem more_local : I1676.scope.names.lookup ("more" : Str) = some .local := by kernel_rfl
theorem last_cell : I1676.scope.names.lookup ("is_last" : Str) = some .cell := by kernel_rfl
theorem mo_nc : notComp moE = true := by kernel_rfl
end
end NT
end
section
open PySem PySem.W PySem.Calls PyProof.Rows
namespace NT
inductive TdI (R : Ld) (D : Addr) (i : Nat) (vs : List Value) : Prop
  | mk (ys x) : ((D, LCg.lst ys) ∈ R) → (ys[i]? = some (.ref x)) → ((x, tupObj vs) ∈ R) → TdI R D i vs
theorem TdI.mono {R R' : Ld} {D : Addr} {i : Nat} {vs : List Value} (h : TdI R D i vs) (s : Sub R R') : TdI R' D i vs := by
  walk_at "e"; obtain ⟨ys, x, a, b, c⟩ := h
  walk_at "l"; exact ⟨ys, x, s _ a, b, s _ c⟩
theorem seqIdx {j n : Nat} (h : j < n) : seqIndex? (j : Int) n = some j := by
  have e1 : ¬ ((j : Int) < 0) := by lia
  have e2 : (decide (0 ≤ (j : Int)) && decide ((j : Int) < (n : Int))) = true := by rw [Bool.and_eq_true, decide_eq_true_eq, decide_eq_true_eq]; lia
  walk_at "l"; unfold seqIndex?
  walk_at "l"; simp only [if_neg e1]
  walk_at "l"; rw [if_pos e2, Int.toNat_natCast]
section
variable {g : Gx} {f : Fx} {s : Shared} {kd : Nat} {m : Str → Option Value} {R : Ld} {c : Addr} {cn : Str} {a : Addr} {ccd : Value} {cl : List (Str × Addr)}
theorem fr_loc {x : Str} {v : Value} (O : COk g kd f) (he : f.env = envX cn I1676.scope f.L a ccd cl) (hx : I1676.scope.names.lookup x = some .local) (hb : (x == ("__debug__" : Str)) = false) (F : Fr f.h₀ f.L s.heap m) (hm : m x = some v) (p : Pos) (Q : Value → Shared → Prop) (q : Q v s) : WP g f (eval (.Name x p) f.env) Q s := by
  have hk := O.hke
  walk_at "l"; unfold WP
  walk_at "l"; rw [he] at hk ⊢
  walk_at "l"; exact nameX_L F hm q hk hx hb
theorem told_item {D : Addr} {i j : Nat} {vs : List Value} {v : Value} {e : PySem.Expr} (O : COk g kd f) (he : f.env = envX cn I1676.scope f.L a ccd cl) (F : Fr f.h₀ f.L s.heap m) (N : News f.h₀ f.L s.heap R) (hE : ItemE (i : Int) (j : Int) e) (hm : m "told" = some (.ref D)) (H : TdI R D i vs) (hv : vs[j]? = some v) (hi : i < 100) (hj : j < 100) {Q : Value → Shared → Prop}
    (k : Q v { s with toks := s.toks + 1 + 1 }) : WP g f (eval e f.env) Q s := by
  walk_at "e"; obtain ⟨ys, x, h1, h2, h3⟩ := H
  walk_at "l"; rw [hE]
  walk_at "l"; refine Subscript_ (Subscript_ (fr_loc (g := g) O he td_told (by decide) F hm _ _ (wpAny_Constant_int ?_)))
  walk_at "l"; refine item_led (s := { s with toks := s.toks + 1 }) (n := ys.length) N (memL h1) (Int.natCast_nonneg _) (by lia) (by rw [Int.toNat_natCast]; exact h2) ?_
  walk_at "l"; refine wpAny_Constant_int ?_
  have hT : IsTup s.heap x vs.toArray := ⟨_, (N _ h3).1, rfl, _, rfl⟩
  have hlt : j < vs.length := (List.getElem?_eq_some_iff.mp hv).1
  walk_at "l"; refine tail_any (T := "tuple") hT.typeIs slot_tuple_getitem.lookup (getItem_tuple (j := j) hT (by lia) (by lia) (seqIdx (by rw [List.size_toArray]; exact hlt)) (by simpa using hv) k) (by with_unfolding_all rfl)
end
end NT
end
section
open PySem PySem.W PySem.Calls PyProof.Rows
namespace NT
structure Told3 (R : Ld) (D : Addr) (ds ss : List Int) (ls : List Value) : Prop where
  run : ∃ ys x1 x2 x3 l1 l2 l3 t1 t2 t3 u1 u2 u3 d1 d2 d3 s1 s2 s3, ys = [Value.ref x1, .ref x2, .ref x3] ∧ ds = [d1, d2, d3] ∧ ss = [s1, s2, s3] ∧ ls = [Value.ref l1, .ref l2, .ref l3] ∧ (D, LCg.lst ys) ∈ R ∧
    (x1, tupObj [.ref l1, .int d1 t1, .int s1 u1]) ∈ R ∧ (x2, tupObj [.ref l2, .int d2 t2, .int s2 u2]) ∈ R ∧ (x3, tupObj [.ref l3, .int d3 t3, .int s3 u3]) ∈ R ∧
    (∃ k, (l1, W.listOf [Value.int 7 k].toArray 0) ∈ R) ∧ (∃ k, (l2, W.listOf [Value.int 7 k].toArray 0) ∈ R) ∧ ∃ k, (l3, W.listOf [Value.int 7 k].toArray 0) ∈ R
theorem told3_of {R : Ld} {D : Addr} {ys : List Value} {n : Nat} {ws : List Int} {bl : Bool} (h : All2 (ToldR R n ws bl) [1, 2, n] ys) : ∃ ls, Told3 ((D, LCg.lst ys) :: R) D [deepOf bl 1, deepOf bl 2, deepOf bl n] [1 + (costOf bl ws n 1 : Nat), 1 + (costOf bl ws n 2 : Nat), 1 + (costOf bl ws n n : Nat)] ls := by
  walk_at "l"; refine h.oc fun y1 zz e1 q1 h => h.oc fun y2 zz e2 q2 h => h.oc fun y3 zz e3 q3 h => h.o0 fun e4 => ?_
  walk_at "e"; obtain ⟨x1, l1, t1, u1, k1, rfl, a1, b1⟩ := q1
  walk_at "e"; obtain ⟨x2, l2, t2, u2, k2, rfl, a2, b2⟩ := q2
  walk_at "e"; obtain ⟨x3, l3, t3, u3, k3, rfl, a3, b3⟩ := q3
  walk_at "e"; subst e4 e3 e2 e1
  walk_at "l"; exact ⟨_, ⟨_, x1, x2, x3, l1, l2, l3, t1, t2, t3, u1, u2, u3, _, _, _, _, _, _, rfl, rfl, rfl, rfl, .head _, .tail _ a1, .tail _ a2, .tail _ a3, ⟨_, .tail _ b1⟩, ⟨_, .tail _ b2⟩, ⟨_, .tail _ b3⟩⟩⟩
section
variable {g : Gx} {f : Fx} {s : Shared} {kd : Nat} {m : Str → Option Value} {R : Ld} {c D : Addr} {cn : Str} {a : Addr} {ccd : Value} {ds ss : List Int} {ls : List Value}
theorem seven {h : Heap} {R : Ld} {L : Addr} {h₀ : Heap} {l : Addr} (N : News h₀ L h R) (hl : ∃ k, (l, W.listOf [Value.int 7 k].toArray 0) ∈ R) : Reads h (.ref l) (.list [.int 7]) [l] := by
  walk_at "e"; obtain ⟨k, hk⟩ := hl
  walk_at "l"; exact reads_list_at (N _ hk).1 rfl rfl (.cons (.int 7 k) .nil)
theorem tup_reads {h : Heap} {R : Ld} {L : Addr} {h₀ : Heap} {x l : Addr} {d e : Int} {t u : Tok} (N : News h₀ L h R) (hx : (x, tupObj [.ref l, .int d t, .int e u]) ∈ R) (hl : ∃ k, (l, W.listOf [Value.int 7 k].toArray 0) ∈ R) : Reads h (.ref x) (.tuple [.list [.int 7], .int d, .int e]) [l] :=
  reads_tuple_at (as := [l]) (N _ hx).1 rfl rfl (.cons (seven N hl) (.cons (.int d t) (.cons (.int e u) .nil)))
theorem in_told (O : COk g kd f) (hkd : 20 ≤ kd) (N : News f.h₀ f.L s.heap R) (T : Told3 R D ds ss ls) {Q : Value → Shared → Prop} (k : Q (.bool false) s) : WP g f (compareOp .In .none (.ref D)) Q s := by
  walk_at "e"; obtain ⟨ys, x1, x2, x3, l1, l2, l3, t1, t2, t3, u1, u2, u3, d1, d2, d3, s1, s2, s3, rfl, rfl, rfl, rfl, hD, h1, h2, h3, c1, c2, c3⟩ := T
  have hu := O.hu
  walk_at "l"; refine PySem.SeqAt.in_list_reads (reads_list_at (N _ hD).1 rfl rfl (.cons (tup_reads N h1 c1) (.cons (tup_reads N h2 c2) (.cons (tup_reads N h3 c3) .nil)))) .none rfl rfl ?_ ?_
  · walk_at "l"; show f.A.units + 1 + min _ 0 < cLine
    walk_at "l"; rw [Nat.min_zero]
    walk_at "l"; lia
  · walk_at "l"; exact k
theorem ones_val (O : COk g kd f) (he : f.env = envX cn I1676.scope f.L a ccd (lwC c)) (F : Fr f.h₀ f.L s.heap m) (N : News f.h₀ f.L s.heap R) (hm : m "told" = some (.ref D)) (T : Told3 R D ds ss ls) {Q : Value → Shared → Prop}
    (k : ∀ d h tk, Fr f.h₀ f.L h m → News f.h₀ f.L h ((d, LCg.lst ls) :: R) → Q (.ref d) { s with heap := h, toks := tk }) : WP g f (eval if1c f.env) Q s := by
  walk_at "e"; obtain ⟨ys, x1, x2, x3, l1, l2, l3, t1, t2, t3, u1, u2, u3, d1, d2, d3, s1, s2, s3, rfl, rfl, rfl, rfl, hD, h1, h2, h3, c1, c2, c3⟩ := T
  walk_at "l"; rw [if1c_eq]
  walk_at "l"; refine LCg.ListComp_U (cl := []) (F₀ := F) (by rw [he]; exact if1_clo) (scOk_a if1_sc) (scOk_k if1_sc) (scOk_b if1_sc) (scOk_x if1_sc) (fr_loc (g := g) O he td_told (by decide) F hm _ _ ?_)
  walk_at "l"; refine LCg.CompSrc.ledger (k := 3) O.hh F N hD (by show 3 ≤ sizeLine; decide) fun gh => ?_
  walk_at "l"; refine comp_rest (J := fun i zs news => news = R ∧ zs = [Value.ref l1, .ref l2, .ref l3].take i) (n := 3) ?_ ?_ 3 0 [] _ rfl ⟨rfl, rfl⟩
  · walk_at "l"; rintro i zs news v I oI C oC d m₂ h tk E' hlt ⟨rfl, rfl⟩ hp hC hx F' N' off
    have sub : ∀ p ∈ news, p ∈ ((I, oI) :: (C, oC) :: (d, LCg.lst ([Value.ref l1, .ref l2, .ref l3].take i)) :: news : Ld) := fun p hp => .tail _ (.tail _ (.tail _ hp))
    have item : ∃ x vs l, v = .ref x ∧ (x, tupObj (l :: vs)) ∈ news ∧ [Value.ref l1, .ref l2, .ref l3][i]? = some l := by
      walk_at "l"; match i, hlt with
      | 0, _ => walk_at "e"; cases hp; walk_at "l"; exact ⟨x1, _, _, rfl, h1, rfl⟩
      | 1, _ => walk_at "e"; cases hp; walk_at "l"; exact ⟨x2, _, _, rfl, h2, rfl⟩
      | 2, _ => walk_at "e"; cases hp; walk_at "l"; exact ⟨x3, _, _, rfl, h3, rfl⟩
    walk_at "e"; obtain ⟨x, vs, l, rfl, hx1, hl⟩ := item
    walk_at "l"; refine Subscript_ (cenvL if1_sc (by decide) N' (.tail _ (.head _)) hC hx (wpAny_Constant_int ?_))
    have hT : IsTup h x (l :: vs).toArray := ⟨_, (N' _ (sub _ hx1)).1, rfl, _, rfl⟩
    walk_at "l"; refine tail_any (s := { s with heap := h, toks := tk + 1 }) (T := "tuple") hT.typeIs slot_tuple_getitem.lookup (getItem_tuple (j := 0) hT (by decide) (by decide) (seqIdx (j := 0) (by simp)) rfl ?_) (by with_unfolding_all rfl)
    walk_at "l"; exact ⟨h, tk + 1, news, rfl, F', N', off, .inr ⟨_, hD, rfl, _, rfl⟩, rfl, by rw [List.take_add_one, hl]; rfl⟩
  · walk_at "l"; rintro zs news ⟨rfl, rfl⟩ d h tk F' N' _
    walk_at "l"; exact k d h tk F' N'
end
end NT
end
section
open PySem PySem.W PySem.Calls PyProof.Rows
namespace NT
section
variable {g : Gx} {f : Fx} {s : Shared} {kd : Nat} {m : Str → Option Value} {R : Ld} {c D : Addr} {cn : Str} {a : Addr} {ccd : Value} {ds ss : List Int} {ls : List Value}
theorem sevens_val (O : COk g kd f) (F : Fr f.h₀ f.L s.heap m) (N : News f.h₀ f.L s.heap R) {Q : Value → Shared → Prop}
    (k : ∀ d l h tk t, Fr f.h₀ f.L h m → News f.h₀ f.L h ((d, W.listOf [Value.ref l, .ref l, .ref l].toArray 0) :: (l, W.listOf [Value.int 7 t].toArray 0) :: R) → Q (.ref d) { s with heap := h, toks := tk }) : WP g f (eval if1m f.env) Q s := by
  walk_at "l"; rw [if1m_eq]
  walk_at "l"; refine wpAny_BinOp (List_ (args_cons (List_ (args_cons (wpAny_Constant_int (args_nil ?_)) (plain_star rfl))) (plain_star rfl)))
  walk_at "l"; refine newList_N F N (fun h₁ F₁ N₁ => args_nil ?_) (by show 1 ≤ sizeLine; decide)
  walk_at "l"; refine newList_N F₁ N₁ (fun h₂ F₂ N₂ => ?_) (by show 1 ≤ sizeLine; decide)
  walk_at "l"; refine wpAny_Constant_int ?_
  walk_at "l"; refine mul_list F₂ N₂ (N₂ _ (.head _)).1 (by decide) (by decide) (by show 1 * 3 ≤ 2 ^ 24; decide) fun h₃ F₃ N₃ => ?_
  walk_at "l"; exact k _ _ h₃ _ _ F₃ fun p hp => N₃ p (by
    walk_at "e"; rcases List.mem_cons.mp hp with rfl | hp
    · walk_at "l"; exact .head _
    · walk_at "l"; exact .tail _ (.tail _ hp))
theorem ne_told (O : COk g kd f) (hkd : 20 ≤ kd) {d d' l : Addr} {t : Tok} (N : News f.h₀ f.L s.heap R) (hd : (d, LCg.lst ls) ∈ R) (T : Told3 R D ds ss ls) (hd' : (d', W.listOf [Value.ref l, .ref l, .ref l].toArray 0) ∈ R) (hl : (l, W.listOf [Value.int 7 t].toArray 0) ∈ R) {Q : Value → Shared → Prop} (k : Q (.bool false) s) : WP g f (compareOp .NotEq (.ref d) (.ref d')) Q s := by
  walk_at "e"; obtain ⟨ys, x1, x2, x3, l1, l2, l3, t1, t2, t3, u1, u2, u3, d1, d2, d3, s1, s2, s3, rfl, rfl, rfl, rfl, hD, h1, h2, h3, c1, c2, c3⟩ := T
  have hu := O.hu
  have r1 : Reads s.heap (.ref d) (.list [.list [.int 7], .list [.int 7], .list [.int 7]]) _ := reads_list_at (N _ hd).1 rfl rfl (.cons (seven N c1) (.cons (seven N c2) (.cons (seven N c3) .nil)))
  have r2 : Reads s.heap (.ref d') (.list [.list [.int 7], .list [.int 7], .list [.int 7]]) _ := reads_list_at (N _ hd').1 rfl rfl (.cons (seven N ⟨t, hl⟩) (.cons (seven N ⟨t, hl⟩) (.cons (seven N ⟨t, hl⟩) .nil)))
  walk_at "l"; exact ne_dataH r1 r2 rfl rfl (by lia) k
theorem Told3.mono {R' : Ld} (T : Told3 R D ds ss ls) (h : Sub R R') : Told3 R' D ds ss ls := by
  walk_at "e"; obtain ⟨ys, x1, x2, x3, l1, l2, l3, t1, t2, t3, u1, u2, u3, d1, d2, d3, s1, s2, s3, e1, e2, e3, e4, hD, h1, h2, h3, c1, c2, c3⟩ := T
  walk_at "l"; exact ⟨ys, x1, x2, x3, l1, l2, l3, t1, t2, t3, u1, u2, u3, d1, d2, d3, s1, s2, s3, e1, e2, e3, e4, h _ hD, h _ h1, h _ h2, h _ h3, c1.imp fun zz q => h _ q, c2.imp fun zz q => h _ q, c3.imp fun zz q => h _ q⟩
theorem if1_ok (O : COk g kd f) (hkd : 20 ≤ kd) (he : f.env = envX cn I1676.scope f.L a ccd (lwC c)) (F : Fr f.h₀ f.L s.heap m) (N : News f.h₀ f.L s.heap R) (hm : m "told" = some (.ref D)) (T : Told3 R D ds ss ls) {Q : Flow → Shared → Prop}
    (k : ∀ R' h tk, Fr f.h₀ f.L h m → News f.h₀ f.L h R' → Sub R R' → Q .next { s with heap := h, toks := tk }) : WP g f (exec (.If (.BoolOp .Or [if1a, if1b] (boP if1)) (ifB (nth lwB 1)) [] (ifP (nth lwB 1))) f.env) Q s := by
  walk_at "l"; refine wpAny_If (isTrue_or ?_)
  walk_at "l"; rw [if1a_eq, if1b_eq]
  walk_at "l"; refine wpAny_isTrue_Compare1 (wpAny_Constant_none (fr_loc (g := g) O he td_told (by decide) F hm _ _ (in_told (g := g) O hkd N T ?_))) rfl
  walk_at "l"; refine wpAny_truthy_bool (ite_neg (by decide) (isTrue_or ?_))
  walk_at "l"; refine wpAny_isTrue_Compare1 (ones_val (g := g) O he F N hm T fun d h tk F₁ N₁ => ?_) rfl
  walk_at "l"; refine sevens_val (g := g) (s := { s with heap := h, toks := tk }) O F₁ N₁ fun d' l h' tk' t F₂ N₂ => ?_
  walk_at "l"; refine ne_told (g := g) (s := { s with heap := h', toks := tk' }) O hkd N₂ (.tail _ (.tail _ (.head _))) (T.mono fun p hp => .tail _ (.tail _ (.tail _ hp))) (.head _) (.tail _ (.head _)) ?_
  walk_at "l"; refine wpAny_truthy_bool (ite_neg (by decide) (isTrue_or_nil (ite_neg (by decide) (wpAny_execs_nil ?_))))
  walk_at "l"; exact k _ h' tk' F₂ N₂ fun p hp => .tail _ (.tail _ (.tail _ hp))
theorem storeQ {x : Str} {v : Value} {cl : List (Str × Addr)} {Q : Unit → Shared → Prop} (O : COk g kd f) (he : f.env = envX cn I1676.scope f.L a ccd cl) (hl : I1676.scope.names.lookup x = some .local) (F : Fr f.h₀ f.L s.heap m) (N : News f.h₀ f.L s.heap R)
    (k : ∀ h', Fr f.h₀ f.L h' (fun y => if y = x then some v else m y) → News f.h₀ f.L h' R → Q () { s with heap := h', toks := s.toks + 1 }) : WP g f (storeName f.env x v) Q s := by
  have hk := O.hke
  walk_at "l"; unfold WP
  walk_at "l"; rw [he] at hk ⊢
  walk_at "l"; exact storeX_L (cl := cl) F N k hk hl
noncomputable def mor (bl : Bool) : Int := if bl then 0 else 1
theorem more_ok {bl : Bool} {o : Obj} (O : COk g kd f) (he : f.env = envX cn I1676.scope f.L a ccd (lwC c)) (F : Fr f.h₀ f.L s.heap m) (N : News f.h₀ f.L s.heap R) (hc : (c + 4, o) ∈ R) (hd : o.data = .cell (some (.bool bl))) {Q : Flow → Shared → Prop}
    (k : ∀ h tk t, Fr f.h₀ f.L h (fun y => if y = "more" then some (.int (mor bl) t) else m y) → News f.h₀ f.L h R → Q .next { s with heap := h, toks := tk }) : WP g f (exec (.Assign [.Name "more" (asXp (nth lwB 2))] moE (asP (nth lwB 2))) f.env) Q s := by
  walk_at "l"; refine wpAny_Assign_Name ?_ (swaps_no mo_nc)
  walk_at "l"; rw [moE_eq]
  walk_at "l"; refine IfExp_ (isTrue_plain (fr_cell (g := g) O he last_cell rfl (by decide) N hc hd _ _ (wpAny_truthy_bool ?_)) rfl)
  walk_at "e"; cases bl with
  | true => walk_at "l"; exact ite_pos rfl (wpAny_Constant_int (storeQ (g := g) (s := { s with toks := s.toks + 1 }) O he more_local F N fun h' F' N' => k h' _ _ F' N'))
  | false => walk_at "l"; exact ite_neg (by decide) (wpAny_Constant_int (storeQ (g := g) (s := { s with toks := s.toks + 1 }) O he more_local F N fun h' F' N' => k h' _ _ F' N'))
end
end NT
end
section
open PySem PySem.W PySem.Calls PyProof.Rows
namespace NT
theorem Told3.td {R : Ld} {D : Addr} {d1 d2 d3 s1 s2 s3 : Int} {ls : List Value} (T : Told3 R D [d1, d2, d3] [s1, s2, s3] ls) : ∃ vs1 vs2 vs3 t1 t2 t3 u1 u2 u3, (TdI R D 0 vs1 ∧ vs1[1]? = some (.int d1 t1) ∧ vs1[2]? = some (.int s1 u1)) ∧ (TdI R D 1 vs2 ∧ vs2[1]? = some (.int d2 t2) ∧ vs2[2]? = some (.int s2 u2)) ∧ (TdI R D 2 vs3 ∧ vs3[1]? = some (.int d3 t3) ∧ vs3[2]? = some (.int s3 u3)) := by
  walk_at "e"; obtain ⟨ys, x1, x2, x3, l1, l2, l3, t1, t2, t3, u1, u2, u3, _, _, _, _, _, _, rfl, e2, e3, rfl, hD, h1, h2, h3, _⟩ := T
  walk_at "e"; cases e2; cases e3
  walk_at "l"; exact ⟨_, _, _, t1, t2, t3, u1, u2, u3, ⟨⟨_, x1, hD, rfl, h1⟩, rfl, rfl⟩, ⟨⟨_, x2, hD, rfl, h2⟩, rfl, rfl⟩, ⟨_, x3, hD, rfl, h3⟩, rfl, rfl⟩
theorem deep2 (bl : Bool) : (deepOf bl 2 != deepOf bl 1 + mor bl) = false := by cases bl <;> rfl
theorem deepN (bl : Bool) (n : Nat) : (deepOf bl n != deepOf bl 1 + mor bl * ((n : Int) - 1)) = false := by
  walk_at "l"; rw [bne_eq_false_iff_eq]
  walk_at "e"; cases bl with
  | true => walk_at "l"; show (2 : Int) = 2 + 0 * _; lia
  | false => walk_at "l"; show ((n : Int) + 1) = 1 + 1 + 1 * ((n : Int) - 1); lia
section
variable {g : Gx} {f : Fx} {s : Shared} {kd : Nat} {m : Str → Option Value} {R : Ld} {c D : Addr} {cn : Str} {a : Addr} {ccd : Value} {ls : List Value} {bl : Bool} {n : Nat} {s1 s2 s3 : Int} {t tn : Tok}
theorem if2_ok (O : COk g kd f) (he : f.env = envX cn I1676.scope f.L a ccd (lwC c)) (F : Fr f.h₀ f.L s.heap m) (N : News f.h₀ f.L s.heap R) (hm : m "told" = some (.ref D)) (hmo : m "more" = some (.int (mor bl) t)) (hma : m "many" = some (.int (n : Int) tn)) (hn : n ≤ 7) (T : Told3 R D [deepOf bl 1, deepOf bl 2, deepOf bl n] [s1, s2, s3] ls) {Q : Flow → Shared → Prop}
    (k : ∀ tk, Q .next { s with toks := tk }) : WP g f (exec (.If (.BoolOp .Or [if2a, if2b] (boP if2)) (ifB (nth lwB 3)) [] (ifP (nth lwB 3))) f.env) Q s := by
  walk_at "e"; obtain ⟨vs1, vs2, vs3, t1, t2, t3, u1, u2, u3, ⟨a1, a2, a3⟩, ⟨b1, b2, b3⟩, c1, c2, c3⟩ := T.td
  walk_at "l"; refine wpAny_If (isTrue_or ?_)
  walk_at "l"; rw [if2a_eq, if2b_eq]
  walk_at "l"; refine wpAny_isTrue_Compare1 (told_item (g := g) (i := 1) (j := 1) O he (by exact F) (by exact N) it_2a.1 hm b1 b2 (by decide) (by decide) ?_) rfl
  walk_at "l"; refine wpAny_BinOp (told_item (g := g) (i := 0) (j := 1) O he (by exact F) (by exact N) it_2a.2 hm a1 a2 (by decide) (by decide) ?_)
  walk_at "l"; refine fr_loc (g := g) O he more_local (by decide) (by exact F) hmo _ _ (add_int (ne_int ?_))
  walk_at "l"; rw [deep2]
  walk_at "l"; refine wpAny_truthy_bool (ite_neg (by decide) (isTrue_or ?_))
  walk_at "l"; refine wpAny_isTrue_Compare1 (told_item (g := g) (i := 2) (j := 1) O he (by exact F) (by exact N) it_2b.1 hm c1 c2 (by decide) (by decide) ?_) rfl
  walk_at "l"; refine wpAny_BinOp (told_item (g := g) (i := 0) (j := 1) O he (by exact F) (by exact N) it_2b.2 hm a1 a2 (by decide) (by decide) (wpAny_BinOp ?_))
  walk_at "l"; refine fr_loc (g := g) O he more_local (by decide) (by exact F) hmo _ _ (wpAny_BinOp ?_)
  walk_at "l"; refine fr_loc (g := g) O he many_local (by decide) (by exact F) hma _ _ (wpAny_Constant_int (sub_int ?_))
  walk_at "l"; refine PyProof.Rows.mul_int (add_int (ne_int ?_)) (IntMulOk.of_right (intBits_le_64 (by lia) (by lia)))
  walk_at "l"; rw [deepN]
  walk_at "l"; exact wpAny_truthy_bool (ite_neg (by decide) (isTrue_or_nil (ite_neg (by decide) (wpAny_execs_nil (k _)))))
theorem if3_ok (O : COk g kd f) (he : f.env = envX cn I1676.scope f.L a ccd (lwC c)) (F : Fr f.h₀ f.L s.heap m) (N : News f.h₀ f.L s.heap R) (hm : m "told" = some (.ref D)) {d1 d2 d3 : Int} (T : Told3 R D [d1, d2, d3] [s1, s2, s3] ls) (h1 : s1 < s2) (h2 : s2 < s3) {Q : Flow → Shared → Prop}
    (k : ∀ tk, Q .next { s with toks := tk }) : WP g f (exec (.If (.UnaryOp .Not if3 (unP (ifT (nth lwB 4)))) (ifB (nth lwB 4)) [] (ifP (nth lwB 4))) f.env) Q s := by
  walk_at "e"; obtain ⟨vs1, vs2, vs3, t1, t2, t3, u1, u2, u3, ⟨a1, a2, a3⟩, ⟨b1, b2, b3⟩, c1, c2, c3⟩ := T.td
  walk_at "l"; refine wpAny_If (isTrue_not ?_)
  walk_at "l"; rw [if3_eq]
  walk_at "l"; refine isTrue_chain (told_item (g := g) (i := 0) (j := 2) O he (by exact F) (by exact N) it_3.1 hm a1 a3 (by decide) (by decide) (test_link ?_)) rfl
  walk_at "l"; refine told_item (g := g) (i := 1) (j := 2) O he (by exact F) (by exact N) it_3.2.1 hm b1 b3 (by decide) (by decide) ?_
  walk_at "l"; refine lt_int ?_
  walk_at "l"; rw [decide_eq_true h1]
  walk_at "l"; refine wpAny_truthy_bool (ite_pos rfl (test_last ?_))
  walk_at "l"; refine told_item (g := g) (i := 2) (j := 2) O he (by exact F) (by exact N) it_3.2.2 hm c1 c3 (by decide) (by decide) ?_
  walk_at "l"; refine lt_int ?_
  walk_at "l"; rw [decide_eq_true h2]
  walk_at "l"; exact wpAny_truthy_bool (ite_neg (by decide) (wpAny_execs_nil (k _)))
theorem body_ok {wx sx : Addr} {tb : Value} {ws : List Int} (O : COk g kd f) (hK : g.X.K = K g.w.params) (hkd : 81 ≤ kd) (he : f.env = envX cn I1676.scope f.L a ccd (lwC c))
    (F : Fr f.h₀ f.L s.heap m) (N : News f.h₀ f.L s.heap R) (hm : m "many" = some (.int (n : Int) t)) (H : LawIn R c wx sx tb n ws bl) (htb : handedIn tb = true) (hn : n ∈ r4N) (hws : ∀ k ∈ ws, 0 ≤ k ∧ k < 5) (hwl : ws.length ≤ 4) {Q : Flow → Shared → Prop}
    (k : ∀ m' R' h tk, Fr f.h₀ f.L h m' → News f.h₀ f.L h R' → Sub R R' → m' "many" = some (.int (n : Int) t) → Q .next { s with heap := h, toks := tk }) : WP g f (execs lwB f.env) Q s := by
  have hn7 : 3 ≤ n ∧ n ≤ 7 := by
    have : ∀ k ∈ r4N, 3 ≤ k ∧ k ≤ 7 := by decide
    exact this n hn
  rw [lwB_eq]
  refine wpAny_execs_cons (told_ok (g := g) O hK hkd he F N hm H htb hn hws hwl fun D ys R1 h1 tk1 F1 N1 H1 sub1 hys => ?_)
  obtain ⟨ls, T⟩ := told3_of hys
  refine wpAny_execs_cons (if1_ok (g := g) (s := { s with heap := h1, toks := tk1 }) O (by omega) he F1 N1 (if_pos rfl) T fun R2 h2 tk2 F2 N2 sub2 => ?_)
  obtain ⟨o, hc, hd⟩ := H1.bc
  refine wpAny_execs_cons (more_ok (g := g) (s := { s with heap := h2, toks := tk2 }) (bl := bl) O he F2 N2 (sub2 _ (.tail _ hc)) hd fun h3 tk3 t3 F3 N3 => ?_)
  have m1 : (fun y => if y = ("more" : Str) then some (Value.int (mor bl) t3) else (fun z => if z = ("told" : Str) then some (.ref D) else m z) y) "told" = some (.ref D) := (if_neg (by decide)).trans (if_pos rfl)
  have m2 : (fun y => if y = ("more" : Str) then some (Value.int (mor bl) t3) else (fun z => if z = ("told" : Str) then some (.ref D) else m z) y) "many" = some (.int (n : Int) t) := (if_neg (by decide)).trans ((if_neg (by decide)).trans hm)
  have T3 := T.mono sub2
  refine wpAny_execs_cons (if2_ok (g := g) (s := { s with heap := h3, toks := tk3 }) O he F3 N3 m1 (if_pos rfl) m2 hn7.2 T3 fun tk4 => ?_)
  have c1 := cost_lt bl ws n 1 2 (by decide)
  have c2 := cost_lt bl ws n 2 n (by lia)
  refine wpAny_execs_cons (if3_ok (g := g) (s := { s with heap := h3, toks := tk4 }) O he F3 N3 m1 T3 (by lia) (by lia) fun tk5 => ?_)
  exact wpAny_execs_nil (k _ R2 h3 tk5 F3 N3 (fun p hp => sub2 p (.tail _ (sub1 p hp))) m2)
end
end NT
end
section
open PySem PySem.W PySem.Calls PyProof.Rows
namespace NT
theorem lw5_eq : lw5 = .Tuple [.Constant (.bool true) (coK (nthE (tuE lw5) 0)) (coP (nthE (tuE lw5) 0)), .Constant (.bool false) (coK (nthE (tuE lw5) 1)) (coP (nthE (tuE lw5) 1))] 0 (tuP lw5) := by kernel_rfl
structure LawB (R : Ld) (c wx sx : Addr) (tb : Value) (n : Nat) (ws : List Int) : Prop where
  wc : ∃ o, (c + 1, o) ∈ R ∧ o.data = .cell (some (.ref wx))
  tc : ∃ o, (c + 2, o) ∈ R ∧ o.data = .cell (some tb)
  sc : ∃ o, (c + 3, o) ∈ R ∧ o.data = .cell (some (.ref sx))
  bc : ∃ o v0, (c + 4, o) ∈ R ∧ o.data = .cell v0
  ways : ∃ (l : List Value) (cw : Nat), (wx, W.listOf l.toArray cw) ∈ R ∧ All2 LiR (ws.map IsI) l
  syms : ∃ (ls : List Value) (cs : Nat), (sx, W.listOf ls.toArray cs) ∈ R ∧ All2 LiR ((List.range' 0 n).map fun i : Nat => IsI (i : Int)) ls
section
variable {g : Gx} {f : Fx} {s : Shared} {kd : Nat} {m : Str → Option Value} {R : Ld} {c : Addr} {cn : Str} {a : Addr} {ccd : Value} {bl : Bool} {n : Nat} {t : Tok}
theorem turn_ok {wx sx I : Addr} {tb : Value} {ws : List Int} {o : Obj} {p : Pos} (O : COk g kd f) (hK : g.X.K = K g.w.params) (hkd : 81 ≤ kd) (he : f.env = envX cn I1676.scope f.L a ccd (lwC c))
    (F : Fr f.h₀ f.L s.heap m) (N : News f.h₀ f.L s.heap ((I, o) :: R)) (off : ∀ p ∈ R, p.1 ≠ I) (hm : m "many" = some (.int (n : Int) t)) (H : LawB R c wx sx tb n ws) (htb : handedIn tb = true) (hn : n ∈ r4N) (hws : ∀ k ∈ ws, 0 ≤ k ∧ k < 5) (hwl : ws.length ≤ 4) {Q : Flow → Shared → Prop}
    (k : ∀ m' R' h tk, Fr f.h₀ f.L h m' → News f.h₀ f.L h ((I, o) :: R') → (∀ p ∈ R', p.1 ≠ I) → (∀ p ∈ R, p.1 ≠ c + 4 → p ∈ R') → LawB R' c wx sx tb n ws → m' "many" = some (.int (n : Int) t) → Q .next { s with heap := h, toks := tk }) :
    WP g f (assign (.Name "is_last" p) f.env (.bool bl)) (fun zz s₂ => WP g f (execs lwB f.env) Q s₂) s := by
  walk_at "e"; obtain ⟨o1, b1, c1⟩ := H.wc
  walk_at "e"; obtain ⟨o2, b2, c2⟩ := H.tc
  walk_at "e"; obtain ⟨o3, b3, c3⟩ := H.sc
  walk_at "e"; obtain ⟨o4, v0, b4, c4⟩ := H.bc
  walk_at "e"; obtain ⟨l, cw, l1, l2⟩ := H.ways
  walk_at "e"; obtain ⟨ls, cs, s1, s2⟩ := H.syms
  walk_at "l"; refine wpAny_assign_Name (cellK (g := g) O he last_cell rfl F N (.tail _ b4) c4 fun h₁ o' F₁ N₁ hd' => ?_)
  have n4 : c + 4 ≠ I := off _ b4
  have kp : ∀ p ∈ R, p.1 ≠ c + 4 → p ∈ ((c + 4, o') :: less (c + 4) (c + 4) ((I, o) :: R) : Ld) := fun p hp hne => .tail _ (to_less (.tail _ hp) hne hne)
  have kc : ∀ p ∈ R, (∀ v, p.2.data ≠ .cell v) → p ∈ ((c + 4, o') :: less (c + 4) (c + 4) ((I, o) :: R) : Ld) := fun p hp hne => .tail _ (less_cell N (.tail _ b4) c4 (.tail _ hp) hne)
  have e1 : c + 1 ≠ c + 4 := by show @Ne Nat (c + 1) (c + 4); lia
  have e2 : c + 2 ≠ c + 4 := by show @Ne Nat (c + 2) (c + 4); lia
  have e3 : c + 3 ≠ c + 4 := by show @Ne Nat (c + 3) (c + 4); lia
  have HI : LawIn ((c + 4, o') :: less (c + 4) (c + 4) ((I, o) :: R)) c wx sx tb n ws bl := ⟨⟨o1, kp _ b1 e1, c1⟩, ⟨o2, kp _ b2 e2, c2⟩, ⟨o3, kp _ b3 e3, c3⟩, ⟨o', .head _, hd'⟩, ⟨l, cw, kc _ l1 (fun v h => by cases h), l2⟩, ⟨ls, cs, kc _ s1 (fun v h => by cases h), s2⟩⟩
  walk_at "l"; refine body_ok (g := g) (s := { s with heap := h₁ }) O hK hkd he F₁ N₁ hm HI htb hn hws hwl fun m' R' h tk F₂ N₂ sub hm' => ?_
  have mI : (I, o) ∈ R' := sub _ (.tail _ (to_less (.head _) n4.symm n4.symm))
  have keep : ∀ p ∈ R, p.1 ≠ c + 4 → p ∈ less I I R' := fun p hp hne => to_less (sub _ (kp p hp hne)) (off p hp) (off p hp)
  have keepc : ∀ p ∈ R, (∀ v, p.2.data ≠ .cell v) → p ∈ less I I R' := fun p hp hne => to_less (sub _ (kc p hp hne)) (off p hp) (off p hp)
  walk_at "l"; refine k m' (less I I R') h tk F₂ (fun p hp => ?_) (fun p hp => (less_of hp).2.1) keep ⟨⟨o1, keep _ b1 e1, c1⟩, ⟨o2, keep _ b2 e2, c2⟩, ⟨o3, keep _ b3 e3, c3⟩, ⟨o', _, to_less (sub _ (.head _)) n4 n4, hd'⟩, ⟨l, cw, keepc _ l1 (fun v h => by cases h), l2⟩, ⟨ls, cs, keepc _ s1 (fun v h => by cases h), s2⟩⟩ hm'
  walk_at "e"; rcases List.mem_cons.mp hp with rfl | hp
  · walk_at "l"; exact N₂ _ mI
  · walk_at "l"; exact N₂ p (less_of hp).1
end
end NT
end
section
open PySem PySem.W PySem.Calls PyProof.Rows
namespace NT
theorem LawB.mono {R R' : Ld} {c wx sx : Addr} {tb : Value} {n : Nat} {ws : List Int} (h : LawB R c wx sx tb n ws) (s : Sub R R') : LawB R' c wx sx tb n ws :=
  ⟨h.wc.imp fun zz q => ⟨s _ q.1, q.2⟩, h.tc.imp fun zz q => ⟨s _ q.1, q.2⟩, h.sc.imp fun zz q => ⟨s _ q.1, q.2⟩, h.bc.imp fun zz q => q.imp fun zz q => ⟨s _ q.1, q.2⟩, h.ways.imp fun zz q => q.imp fun zz q => ⟨s _ q.1, q.2⟩, h.syms.imp fun zz q => q.imp fun zz q => ⟨s _ q.1, q.2⟩⟩
theorem lw5_fold {x : Value} {env : Env} : foldedSetIterable lw5 env x = pure x := by rw [lw5_eq]; rfl
theorem for_ok {g : Gx} {f : Fx} {s : Shared} {m : Str → Option Value} {R : Ld} {c wx sx : Addr} {cn : Str} {a : Addr} {ccd tb : Value} {n : Nat} {t : Tok} {ws : List Int} {p pos : Pos} (O : FOk g I1676.scope 90 f) (hK : g.X.K = K g.w.params) (he : f.env = envX cn I1676.scope f.L a ccd (lwC c))
    (F : Fr f.h₀ f.L s.heap m) (N : News f.h₀ f.L s.heap R) (hm : m "many" = some (.int (n : Int) t)) (H : LawB R c wx sx tb n ws) (htb : handedIn tb = true) (hn : n ∈ r4N) (hws : ∀ k ∈ ws, 0 ≤ k ∧ k < 5) (hwl : ws.length ≤ 4) {Q : Flow → Shared → Prop}
    (k : ∀ m' R' h tk, Fr f.h₀ f.L h m' → News f.h₀ f.L h R' → Q .next { s with heap := h, toks := tk }) : WP g f (exec (.For (.Name "is_last" p) lw5 lwB [] pos) f.env) Q s := by
  have hL := locals_L O
  have OK := O.toCOk
  rw [← hL] at F
  walk_at "l"; refine For_turns (h₀ := f.h₀) (m := m) F ?_ (fun zz => lw5_fold) O.pass
  rw [hL] at F
  walk_at "l"; rw [lw5_eq]
  walk_at "l"; refine Tuple_ (args_cons (Constant_bool (args_cons (Constant_bool (args_nil ?_)) (plain_star rfl))) (plain_star rfl))
  walk_at "l"; refine newTuple_N F N (fun h₁ F₁ N₁ => ?_) (by show 2 ≤ sizeLine; decide)
  let ax : Addr := s.heap.objs.size
  have N₁' := N₁
  have F₁' := F₁
  rw [← hL] at F₁' N₁'
  walk_at "l"; refine iter_tupTurns (vs := [.bool true, .bool false]) O.hh F₁' N₁' (.head _) rfl rfl fun I lt => ?_
  let R1 : Ld := (ax, tupObj [.bool true, .bool false]) :: R
  have n4 : ∀ {h : Heap} {R' : Ld}, News f.h₀ f.L h R' → LawB R' c wx sx tb n ws → (ax, tupObj [.bool true, .bool false]) ∈ R' → ax ≠ c + 4 := fun N H hx e => by
    walk_at "e"; obtain ⟨o4, v0, b4, c4⟩ := H.bc
    have := news_uniq N _ hx _ b4 e
    dsimp only at this
    rw [← this] at c4
    walk_at "e"; cases c4
  walk_at "l"; refine ItemsRest.val fun h tk F₂ => AllObj.cons fun o ho => AllObj.nil fun N₂ => ?_
  rw [hL] at F₂ N₂
  walk_at "l"; refine turn_ok (g := g) (s := { s with heap := h, toks := tk }) (R := R1) OK hK (by decide) he F₂ N₂ (fun p hp => Nat.ne_of_lt (lt p hp)) hm (H.mono fun p hp => .tail _ hp) htb hn hws hwl fun m' R' h' tk' F₃ N₃ off₃ keep H₃ hm' => ?_
  have hax : (ax, tupObj [.bool true, .bool false]) ∈ R' := keep _ (.head _) (n4 N₁ (H.mono fun p hp => .tail _ hp) (.head _))
  rw [← hL] at F₃ N₃
  walk_at "l"; refine ⟨h', tk', m', R', rfl, F₃, N₃, fun p hp q hq => by rw [List.mem_singleton.mp hq]; exact off₃ p hp, ⟨hax, trivial⟩, ?_⟩
  walk_at "l"; refine ItemsRest.val fun h tk F₄ => AllObj.cons fun o ho => AllObj.nil fun N₄ => ?_
  rw [hL] at F₄ N₄
  walk_at "l"; refine turn_ok (g := g) (s := { s with heap := h, toks := tk }) (R := R') OK hK (by decide) he F₄ N₄ off₃ hm' H₃ htb hn hws hwl fun m'' R'' h'' tk'' F₅ N₅ off₅ keep₅ H₅ hm'' => ?_
  have hax' : (ax, tupObj [.bool true, .bool false]) ∈ R'' := keep₅ _ hax (n4 (fun p hp => N₄ p (.tail _ hp)) H₃ hax)
  rw [← hL] at F₅ N₅
  walk_at "l"; refine ⟨h'', tk'', m'', R'', rfl, F₅, N₅, fun p hp q hq => by rw [List.mem_singleton.mp hq]; exact off₅ p hp, ⟨hax', trivial⟩, ?_⟩
  walk_at "l"; refine ItemsRest.zero fun h tk F₆ N₆ => ?_
  rw [hL] at F₆ N₆
  walk_at "l"; exact k m'' R'' h tk F₆ N₆
end NT
end
section
open PySem PySem.W PySem.Calls PyProof.Rows
namespace NT
noncomputable def Cel (R : Ld) (a : Addr) : Prop := ∃ o v0, (a, o) ∈ R ∧ o.data = .cell v0
theorem lw0_nc : notComp lw0 = true := by kernel_rfl
theorem lw1_b : plainEl (biR lw1) = true := by kernel_rfl
section
variable {g : Gx} {f : Fx} {s : Shared} {m : Str → Option Value} {R : Ld} {c : Addr} {cn : Str} {a : Addr} {ccd : Value}
theorem law_c {wx tb dt dl dd : Addr} {n : Nat} {t : Tok} {ws : List Int} (O : FOk g I1676.scope 90 f) (hK : g.X.K = K g.w.params) (he : f.env = envX cn I1676.scope f.L a ccd (lwC c)) (F : Fr f.h₀ f.L s.heap m) (N : News f.h₀ f.L s.heap R) (hm : m "many" = some (.int (n : Int) t)) (hn : n ∈ r4N) (hws : ∀ k ∈ ws, 0 ≤ k ∧ k < 5) (hwl : ws.length ≤ 4)
    (wc : ∃ o, (c + 1, o) ∈ R ∧ o.data = .cell (some (.ref wx))) (tc : ∃ o, (c + 2, o) ∈ R ∧ o.data = .cell (some (.ref tb))) (sc : Cel R (c + 3)) (bc : Cel R (c + 4)) (hw : ∃ (l : List Value) (cw : Nat), (wx, W.listOf l.toArray cw) ∈ R ∧ All2 LiR (ws.map IsI) l) (H : TabIn g.w R tb dt dl dd 0) (hdl : @Ne Nat dl dd) (hwd : @Ne Nat wx dl ∧ @Ne Nat wx dd) :
    WP g f (execs [.Assign [.Name "symbols" (asXp (nth I1676.body 4))] lw4 (asP (nth I1676.body 4)), .For (.Name "is_last" (nmP (foX (nth I1676.body 5)))) lw5 lwB [] (foP (nth I1676.body 5)), .Return (some (rE (nth I1676.body 6))) (rP (nth I1676.body 6))] f.env)
      (fun fl s' => fl = .ret (.bool true) ∧ ∃ h tk m' R', s' = { s with heap := h, toks := tk } ∧ Fr f.h₀ f.L h m' ∧ News f.h₀ f.L h R') s := by
  have OK := O.toCOk
  have hn7 : n ≤ 7 := by
    have : ∀ k ∈ r4N, k ≤ 7 := by decide
    walk_at "l"; exact this n hn
  walk_at "e"; obtain ⟨o1, b1, c1⟩ := wc
  walk_at "e"; obtain ⟨o2, b2, c2⟩ := tc
  walk_at "e"; obtain ⟨o3, v3, b3, c3⟩ := sc
  walk_at "e"; obtain ⟨o4, v4, b4, c4⟩ := bc
  walk_at "e"; obtain ⟨l, cw, l1, l2⟩ := hw
  have hH := H
  walk_at "e"; obtain ⟨_, rows, _, od, _, _, _, _, q4, _, _, q7, q8, _⟩ := hH
  have nd : ∀ p ∈ R, (∃ v, p.2.data = .cell v) → p.1 ≠ dl ∧ p.1 ≠ dd := fun p hp ⟨v, hv⟩ => by
    walk_at "l"; refine ⟨fun e => ?_, fun e => ?_⟩
    · have := news_uniq N p hp _ q4 e
      rw [this] at hv; walk_at "e"; cases hv
    · have := news_uniq N p hp _ q7 e
      walk_at "e"; obtain ⟨es, ep, _, hd, _⟩ := q8
      rw [this, hd] at hv; walk_at "e"; cases hv
  walk_at "l"; refine wpAny_execs_cons (wpAny_Assign_Name (symbols_val (g := g) OK hK (by decide) he hn7 F N hm b2 c2 H hdl fun d ys h₁ tk₁ R' F₁ N₁ hys keep hd => ?_) (by rw [he]; exact lw4_sw))
  have k1 := keep _ b1 (nd _ b1 ⟨_, c1⟩).1 (nd _ b1 ⟨_, c1⟩).2
  have k2 := keep _ b2 (nd _ b2 ⟨_, c2⟩).1 (nd _ b2 ⟨_, c2⟩).2
  have k3 := keep _ b3 (nd _ b3 ⟨_, c3⟩).1 (nd _ b3 ⟨_, c3⟩).2
  have k4 := keep _ b4 (nd _ b4 ⟨_, c4⟩).1 (nd _ b4 ⟨_, c4⟩).2
  have kw := keep _ l1 hwd.1 hwd.2
  walk_at "l"; refine cellK (g := g) (s := { s with heap := h₁, toks := tk₁ }) OK he symbols_cell rfl F₁ N₁ (.tail _ k3) c3 fun h₂ o' F₂ N₂ hd' => ?_
  have e1 : c + 1 ≠ c + 3 := by show @Ne Nat (c + 1) (c + 3); lia
  have e2 : c + 2 ≠ c + 3 := by show @Ne Nat (c + 2) (c + 3); lia
  have e4 : c + 4 ≠ c + 3 := by show @Ne Nat (c + 4) (c + 3); lia
  have kc : ∀ p ∈ ((d, LCg.lst ys) :: R' : Ld), (∀ v, p.2.data ≠ .cell v) → p ∈ ((c + 3, o') :: less (c + 3) (c + 3) ((d, LCg.lst ys) :: R') : Ld) := fun p hp hne => .tail _ (less_cell N₁ (.tail _ k3) c3 hp hne)
  have LB : LawB ((c + 3, o') :: less (c + 3) (c + 3) ((d, LCg.lst ys) :: R')) c wx d (.ref tb) n ws := ⟨⟨o1, .tail _ (to_less (.tail _ k1) e1 e1), c1⟩, ⟨o2, .tail _ (to_less (.tail _ k2) e2 e2), c2⟩, ⟨o', .head _, hd'⟩, ⟨o4, v4, .tail _ (to_less (.tail _ k4) e4 e4), c4⟩, ⟨l, cw, kc _ (.tail _ kw) (fun v h => by cases h), l2⟩, ⟨ys, ys.length, kc _ (.head _) (fun v h => by cases h), hys⟩⟩
  walk_at "l"; refine wpAny_execs_cons (for_ok (g := g) (s := { s with heap := h₂, toks := tk₁ }) O hK he F₂ N₂ hm LB rfl hn hws hwl fun m' R'' h tk F₃ N₃ => ?_)
  walk_at "l"; rw [lw6_eq]
  walk_at "l"; exact wpAny_execs_cons (wpAny_Return_some (Constant_bool ⟨rfl, h, tk, m', R'', rfl, F₃, N₃⟩))
end
end NT
end
section
open PySem PySem.W PySem.Calls PyProof.Rows
namespace NT
section
variable {g : Gx} {f : Fx} {s : Shared} {m : Str → Option Value} {R : Ld} {c : Addr} {cn : Str} {a : Addr} {ccd : Value}
theorem Cel.on {R' : Ld} {b : Addr} (h : Cel R b) (s : ∀ o v, (b, o) ∈ R → o.data = .cell v → (b, o) ∈ R') : Cel R' b := by
  walk_at "e"; obtain ⟨o, v, h1, h2⟩ := h
  walk_at "l"; exact ⟨o, v, s o v h1 h2, h2⟩
theorem deck_ne {h₀ h : Heap} {L dk : Addr} {j : Int} (N : News h₀ L h R) (D : DeckIn R c dk j) {b : Addr} {o : Obj} {v : Option Value} (h1 : (b, o) ∈ R) (h2 : o.data = .cell v) : b ≠ dk := fun e => by
  walk_at "e"; obtain ⟨_, _, _, _, _, _, _, _, _, d3, _⟩ := D
  have := news_uniq N _ h1 _ d3 e
  dsimp only at this
  rw [this] at h2
  walk_at "e"; cases h2
theorem law_b {wx : Addr} {n : Nat} {t : Tok} {ws : List Int} (O : FOk g I1676.scope 90 f) (hK : g.X.K = K g.w.params) (he : f.env = envX cn I1676.scope f.L a ccd (lwC c)) (F : Fr f.h₀ f.L s.heap m) (N : News f.h₀ f.L s.heap R) (hm : m "many" = some (.int (n : Int) t)) (hn : n ∈ r4N) (hws : ∀ k ∈ ws, 0 ≤ k ∧ k < 5) (hwl : ws.length ≤ 4)
    (wc : ∃ o, (c + 1, o) ∈ R ∧ o.data = .cell (some (.ref wx))) (tc : Cel R (c + 2)) (sc : Cel R (c + 3)) (bc : Cel R (c + 4)) (hw : ∃ (l : List Value) (cw : Nat), (wx, W.listOf l.toArray cw) ∈ R ∧ All2 LiR (ws.map IsI) l) :
    WP g f (execs [.Assign [.Name "table" (asXp (nth I1676.body 3))] lw3 (asP (nth I1676.body 3)), .Assign [.Name "symbols" (asXp (nth I1676.body 4))] lw4 (asP (nth I1676.body 4)), .For (.Name "is_last" (nmP (foX (nth I1676.body 5)))) lw5 lwB [] (foP (nth I1676.body 5)), .Return (some (rE (nth I1676.body 6))) (rP (nth I1676.body 6))] f.env)
      (fun fl s' => fl = .ret (.bool true) ∧ ∃ h tk m' R', s' = { s with heap := h, toks := tk } ∧ Fr f.h₀ f.L h m' ∧ News f.h₀ f.L h R') s := by
  have OK := O.toCOk
  walk_at "e"; obtain ⟨o1, b1, c1⟩ := wc
  walk_at "e"; obtain ⟨l, cw, l1, l2⟩ := hw
  walk_at "l"; refine wpAny_execs_cons (wpAny_Assign_Name (table_val (g := g) O hK F N (List.ne_nil_of_mem b1) hm rfl fun tb dt dl dd m' h₁ tk₁ R' F₁ N₁ H hdl sub new hm' => ?_) (swaps_no lw3_nc))
  have tc' : Cel R' (c + 2) := tc.on fun zz zz h zz => sub _ h
  walk_at "e"; obtain ⟨o2, v2, b2, c2⟩ := tc'
  walk_at "l"; refine cellK (g := g) (s := { s with heap := h₁, toks := tk₁ }) OK he table_cell rfl F₁ N₁ b2 c2 fun h₂ o' F₂ N₂ hd' => ?_
  have e1 : c + 1 ≠ c + 2 := by show @Ne Nat (c + 1) (c + 2); lia
  have e3 : c + 3 ≠ c + 2 := by show @Ne Nat (c + 3) (c + 2); lia
  have e4 : c + 4 ≠ c + 2 := by show @Ne Nat (c + 4) (c + 2); lia
  have kc : ∀ p ∈ R', (∀ v, p.2.data ≠ .cell v) → p ∈ ((c + 2, o') :: less (c + 2) (c + 2) R' : Ld) := fun p hp hne => .tail _ (less_cell N₁ b2 c2 hp hne)
  have HH : TabIn g.w ((c + 2, o') :: less (c + 2) (c + 2) R') tb dt dl dd 0 := by
    walk_at "e"; obtain ⟨o, rows, nn, od, kvs, a1, a2, a3, a4, a5, a6, a7, a8, a9, a10, a11⟩ := H
    walk_at "l"; refine ⟨o, rows, nn, od, kvs, kc _ a1 (fun v h => by cases h), kc _ a2 (fun v h => ?_), a3, kc _ a4 (fun v h => by cases h), a5, a6, kc _ a7 (fun v h => ?_), a8, a9, a10, a11⟩
    · walk_at "e"; obtain ⟨des, rfl, _⟩ := a3
      walk_at "e"; cases h
    · walk_at "e"; obtain ⟨es, ep, _, hd, _⟩ := a8
      dsimp only at h
      rw [hd] at h; walk_at "e"; cases h
  have nw := new _ l1
  walk_at "l"; exact law_c (g := g) (s := { s with heap := h₂, toks := tk₁ }) O hK he F₂ N₂ hm' hn hws hwl ⟨o1, .tail _ (to_less (sub _ b1) e1 e1), c1⟩ ⟨o', .head _, hd'⟩ (sc.on fun zz zz h zz => .tail _ (to_less (sub _ h) e3 e3)) (bc.on fun zz zz h zz => .tail _ (to_less (sub _ h) e4 e4)) ⟨l, cw, kc _ (sub _ l1) (fun v h => by cases h), l2⟩ HH hdl ⟨Nat.ne_of_lt nw.1, Nat.ne_of_lt nw.2⟩
theorem law_body {sc : Addr} {vals : List Value} {xs : List Int} (O : FOk g I1676.scope 90 f) (hK : g.X.K = K g.w.params) (he : f.env = envX cn I1676.scope f.L a ccd (lwC c)) (F : Fr f.h₀ f.L s.heap m) (N : News f.h₀ f.L s.heap R) (hc : ∀ i < 5, Cel R (c + i)) (hm : m "script" = some (.ref sc)) (hsc : f.h₀.IsList sc vals.toArray) (hi : IntsAre vals xs) (hl : vals.length ≤ 63) :
    WP g f (execs I1676.body f.env) (fun fl s' => fl = .ret (.bool true) ∧ ∃ h tk m' R', s' = { s with heap := h, toks := tk } ∧ Fr f.h₀ f.L h m' ∧ News f.h₀ f.L h R') s := by
  have OK := O.toCOk
  walk_at "l"; rw [b1676]
  walk_at "l"; refine wpAny_execs_cons (wpAny_Assign_Name (deck_val (g := g) OK hK he F N hm hsc hi hl fun dk ce cells xs' t h₁ tk₁ R' F₁ N₁ hce hxs hcl sub hdk => ?_) (swaps_no lw0_nc))
  walk_at "e"; obtain ⟨o0, v0, b0, c0⟩ := hc 0 (by decide)
  walk_at "l"; refine cellK (g := g) (s := { s with heap := h₁, toks := tk₁ }) OK he deck_cell rfl F₁ N₁ (c := c) (.tail _ (sub _ b0)) c0 fun h₂ o' F₂ N₂ hd' => ?_
  let R1 : Ld := (c, o') :: less c c ((dk, W.listOf [Value.ref ce, .int 0 t].toArray 0) :: R')
  have kc : ∀ p ∈ ((dk, W.listOf [Value.ref ce, .int 0 t].toArray 0) :: R' : Ld), (∀ v, p.2.data ≠ .cell v) → p ∈ R1 := fun p hp hne => .tail _ (less_cell N₁ (.tail _ (sub _ b0)) c0 hp hne)
  have D0 : DeckIn R1 c dk 0 := ⟨o', ce, cells, xs', t, 0, cells.length, .head _, hd', kc _ (.head _) (fun v h => by cases h), kc _ (.tail _ hce) (fun v h => by cases h), hxs, hcl⟩
  have ne : ∀ i, 1 ≤ i → c + i ≠ c := fun i h => by
    have h' : @LE.le Nat _ 1 i := h
    walk_at "l"; show @Ne Nat (c + i) c
    walk_at "l"; lia
  have C1 : ∀ i, 1 ≤ i → i < 5 → Cel R1 (c + i) := fun i h1 h2 => (hc i h2).on fun zz zz h zz => .tail _ (to_less (.tail _ (sub _ h)) (ne i h1) (ne i h1))
  walk_at "l"; rw [lw1_eq]
  walk_at "e"; obtain ⟨od, _, _, _, _, _, _, d1, d2, _⟩ := id D0
  walk_at "l"; refine wpAny_execs_cons (wpAny_Assign_Name (wpAny_BinOp (wpAny_Constant_int (draw_eval (g := g) (s := { s with heap := h₂, toks := tk₁ + 1 }) (X := []) (R := R1) dr1 OK hK (by decide) F₂ N₂ (fun zz h => nomatch h) D0 (by decide) (by decide) (fr_draw OK hK he F₂) (fr_cell OK he deck_cell rfl (by decide) N₂ d1 d2) fun v tv R2 h₃ tk₃ w0 w4 F₃ N₃ D1 keep1 zz => add_int ?_))) (by rw [← lw1_eq]; exact swaps_no lw1_nc))
  have N₃' : News f.h₀ f.L h₃ R2 := N₃
  walk_at "l"; refine storeQ (g := g) OK he many_local F₃ N₃' fun h₄ F₄ N₄ => ?_
  let n : Nat := (3 + v).toNat
  have hn : (3 + v) = (n : Int) := (Int.toNat_of_nonneg (by lia)).symm
  have hn4 : n ∈ r4N := by
    have : n = 3 ∨ n = 4 ∨ n = 5 ∨ n = 6 ∨ n = 7 := by lia
    walk_at "l"; rcases this with e | e | e | e | e <;> rw [e] <;> decide
  have C2 : ∀ i, 1 ≤ i → i < 5 → Cel R2 (c + i) := fun i h1 h2 => (C1 i h1 h2).on fun o v h hd => keep1 _ h (deck_ne N₂ D0 h hd)
  walk_at "l"; refine wpAny_execs_cons (wpAny_Assign_Name (ways_val (g := g) OK hK (by decide) he F₄ N₄ D1 (by decide) (by decide) fun d ys ws h₅ tk₅ R3 j' F₅ N₅ hwl hws hys D3 keep3 hd3 => ?_) (by rw [he]; exact lw2_sw))
  have C3 : ∀ i, 1 ≤ i → i < 5 → Cel R3 (c + i) := fun i h1 h2 => (C2 i h1 h2).on fun o v h hd => keep3 _ h (deck_ne N₄ D1 h hd)
  walk_at "e"; obtain ⟨o1, v1, b1, c1⟩ := C3 1 (by decide) (by decide)
  walk_at "l"; refine cellK (g := g) (s := { s with heap := h₅, toks := tk₅ }) OK he ways_cell rfl F₅ N₅ (c := c + 1) (.tail _ b1) c1 fun h₆ o6 F₆ N₆ hd6 => ?_
  have ne1 : ∀ i, 2 ≤ i → c + i ≠ c + 1 := fun i h => by
    have h' : @LE.le Nat _ 2 i := h
    walk_at "l"; show @Ne Nat (c + i) (c + 1)
    walk_at "l"; lia
  have C4 : ∀ i, 2 ≤ i → i < 5 → Cel ((c + 1, o6) :: less (c + 1) (c + 1) ((d, LCg.lst ys) :: R3)) (c + i) := fun i h1 h2 => (C3 i (by have h' : @LE.le Nat _ 2 i := h1; show @LE.le Nat _ 1 i; lia) h2).on fun zz zz h zz => .tail _ (to_less (.tail _ h) (ne1 i h1) (ne1 i h1))
  have hw : (d, W.listOf ys.toArray ys.length) ∈ ((c + 1, o6) :: less (c + 1) (c + 1) ((d, LCg.lst ys) :: R3) : Ld) := .tail _ (less_cell N₅ (.tail _ b1) c1 (.head _) (fun v h => by cases h))
  walk_at "l"; refine wpAny_mono (law_b (g := g) (s := { s with heap := h₆, toks := tk₅ }) O hK he F₆ N₆ ((if_pos rfl).trans (by rw [hn])) hn4 hws hwl ⟨o6, .head _, hd6⟩ (C4 2 (by decide) (by decide)) (C4 3 (by decide) (by decide)) (C4 4 (by decide) (by decide)) ⟨ys, ys.length, hw, hys⟩) (fun fl s' q => ?_) fun zz zz q => q
  walk_at "e"; obtain ⟨rfl, h, tk, m', R', rfl, F', N'⟩ := q
  walk_at "l"; exact ⟨rfl, h, tk, m', R', rfl, F', N'⟩
end
end NT
end
section
open PySem PySem.W PySem.Calls PyProof.Rows
namespace NT
structure Hd (σ : Shared) (L : Frag) (n toks : Nat) (os : OsState) : Prop where
  size : σ.heap.objs.size = n
  get : ∀ q ∈ L, σ.heap.get? q.1 = some q.2
  gens : σ.gens = #[]
  drawn : σ.drawn = drawn0
  toks : σ.toks = toks
  os : σ.os = os
theorem kof_get : ∀ {L : Frag} {a : Nat} {o : Obj}, L.all (fun q => Nat.blt q.1 1000000) = true → (kof L).get a = some o → (a, o) ∈ L
  | [], a, o, _, h => (kget_nil h).elim
  | (b, v) :: r, a, o, hl, h => by
    rw [List.all_cons, Bool.and_eq_true] at hl
    unfold kof at h
    walk_at "e"; by_cases e : a = b
    · walk_at "l"; rw [e] at h ⊢
      walk_at "l"; rw [kget_same h]; exact .head _
    · walk_at "l"; exact .tail _ (kof_get hl.2 (kget_other (small_lt hl.1) e h))
theorem Hd.rep {σ : Shared} {L : Frag} {n toks : Nat} {os : OsState} (h : Hd σ L n toks os) (hl : L.all (fun q => Nat.blt q.1 1000000) = true) : RepK (skOf L n toks os) σ :=
  ⟨h.size, fun a o e => h.get _ (kof_get hl e), h.gens, h.drawn, h.toks, h.os⟩
theorem gets_of {s : SK} {σ : Shared} {as : Frag} (R : RepK s σ) (h : as.map (fun q => s.kt.get q.1) = as.map fun q => some q.2) : ∀ q ∈ as, σ.heap.get? q.1 = some q.2 := fun q hq => R.get _ _ (List.map_inj_left.mp h q hq)
theorem piece_step {b : List Stmt} {w : World} {os : OsState} {L as : Frag} {n toks n' toks' : Nat} {pos pos' : Pos} {l : List Stmt} {N : Nat} {code : Code} {σ : Shared}
    (h : piece p264 b w os L n toks pos l N as = some (.next, code, pos', n', #[], drawn0, toks', os, as.map fun q => some q.2)) (hl : L.all (fun q => Nat.blt q.1 1000000) = true) (H : Hd σ L n toks os) :
    ∃ σ', segRun treeTable p264 w 11 (some (.ref 6)) 1 N σ (piecesOf l env0 (.body b env0) pos [topFrame ⟨0, 0, 0, 0⟩]) = some (.next, σ', code, pos') ∧ Hd σ' as n' toks' os ∧ n ≤ n' ∧ ∀ a o, upOk n a = false → σ.heap.get? a = some o → σ'.heap.get? a = some o := by
  walk_at "e"; obtain ⟨⟨f, s, c, q⟩, h1, h2⟩ := Option.map_eq_some_iff.mp h
  unfold viewK at h2
  simp only [Prod.mk.injEq] at h2
  walk_at "e"; obtain ⟨rfl, rfl, rfl, e1, e2, e3, e4, e5, e6⟩ := h2
  walk_at "e"; obtain ⟨σ', e, R, F⟩ := segRunK_of _ h1 (H.rep hl)
  walk_at "l"; exact ⟨σ', e, ⟨R.size.trans e1, gets_of R e6, R.gens.trans e2, R.drawn.trans e3, R.toks.trans e4, R.os.trans e5⟩, e1 ▸ F.grow, F.keep⟩
noncomputable def bootL (P : Params) : Frag := [(0, boot_o_0 P), (1, boot_o_1 P), (2, boot_o_2 P), (3, boot_o_3 P), (4, boot_o_4 P), (5, boot_o_5 P), (6, boot_o_6 P), (7, boot_o_7 P), (8, boot_o_8 P), (9, boot_o_9 P), (10, boot_o_10 P)]
theorem boot_hd (w : World) (os : OsState) : Hd ⟨boot_heap w.params, #[], boot_drawn, boot_toks, os⟩ (bootL w.params) 11 boot_toks os := by
  walk_at "l"; refine ⟨rfl, fun q hq => ?_, rfl, rfl, rfl, rfl⟩
  have h : ∀ P : Params, (bootL P).map (fun q => (boot_heap P).get? q.1) = (bootL P).map fun q => some q.2 := fun P => by kernel_rfl
  walk_at "l"; exact List.map_inj_left.mp (h w.params) q hq
theorem open264 : ∀ w : World, (fencedOpening treeTable p264 w 30000).map (fun s => (s.heap, s.gens, s.drawn, s.toks)) = some (boot_heap w.params, Array.mk [], boot_drawn, boot_toks) :=
  boot_open (by kernel_rfl) rfl (fun s => rfl)
end NT
end
section
open PySem PySem.W PySem.Calls PyProof.Rows
namespace NT
noncomputable def mainE (P : Params) : List DictEntry := match (o_3 P).data with | .dict es _ => es.toList.tail | _ => []
noncomputable def main3 (P : Params) (v : Value) (k : Nat) : Obj := ⟨.type "dict", none, .dict ((⟨kh P "__name__", .str "__name__" 165, v⟩ :: (mainE P).take k).toArray) (k + 1), #[]⟩
noncomputable def o13 (P : Params) : Obj := ⟨(.type "code"), none, (.fields #[(.str "<module>" 182), (.str "<module>" 183), (.str "/claim/cut.py" 184), (.int 1 0), (.int 0 0), (.int 0 0), (.int 0 0), (.int 0 0), (.ref 11), (.bool false), (.int 181 0), (.ref 12), .none, .none, .none, .none, (.int 185 0), (.int 1 0), (.str "/claim/cut.py" 186)]), #[]⟩
noncomputable def l12 : List Value := [(.int 1 0), (.int 0 0), (.ref 20), (.int 5 0), (.int 0 0), (.ref 27), (.int 12 0), (.int 0 0), (.ref 57), (.int 17 0), (.int 0 0), (.ref 78), (.int 47 0), (.int 0 0), (.ref 141), (.int 52 0), (.int 0 0), (.ref 162), (.int 56 0), (.int 0 0), (.ref 183), (.int 60 0), (.int 0 0), (.ref 204), (.int 64 0), (.int 0 0), (.ref 225), (.int 69 0), (.int 0 0), (.ref 245), (.int 74 0), (.int 0 0), (.ref 252), (.int 77 0), (.int 0 0), (.ref 259), (.int 82 0), (.int 0 0), (.ref 279), (.int 87 0), (.int 0 0), (.ref 298), (.int 91 0), (.int 0 0), (.ref 317), (.int 96 0), (.int 0 0), (.ref 336), (.int 102 0), (.int 0 0), (.ref 355), (.int 107 0), (.int 0 0), (.ref 374), (.int 114 0), (.int 0 0), (.ref 393), (.int 119 0), (.int 0 0), (.ref 412), (.int 123 0), (.int 0 0), (.ref 432), (.int 134 0), (.int 0 0), (.ref 457), (.int 139 0), (.int 0 0), (.ref 476), (.int 143 0), (.int 0 0), (.ref 483), (.int 145 0), (.int 0 0), (.ref 490), (.int 147 0), (.int 0 0), (.ref 497), (.int 151 0), (.int 0 0), (.ref 504), (.int 163 0), (.int 0 0), (.ref 511), (.int 182 0), (.int 0 0), (.ref 518), (.int 190 0), (.int 0 0), (.ref 546), (.int 195 0), (.int 0 0), (.ref 565), (.int 200 0), (.int 0 0), (.ref 584), (.int 205 0), (.int 0 0), (.ref 603), (.int 217 0), (.int 0 0), (.ref 636), (.int 230 0), (.int 0 0), (.ref 669), (.int 250 0), (.int 0 0), (.ref 716), (.int 262 0), (.int 0 0), (.ref 749), (.int 273 0), (.int 0 0), (.ref 782), (.int 296 0), (.int 0 0), (.ref 815), (.int 317 0), (.int 0 0), (.ref 864), (.int 325 0), (.int 0 0), (.ref 892), (.int 332 0), (.int 0 0), (.ref 899), (.int 341 0), (.int 0 0), (.ref 920), (.int 351 0), (.int 0 0), (.ref 946), (.int 356 0), (.int 0 0), (.ref 965), (.int 366 0), (.int 0 0), (.ref 972), (.int 376 0), (.int 0 0), (.ref 1007), (.int 583 0), (.int 0 0), (.ref 1175), (.int 588 0), (.int 0 0), (.ref 1196), (.int 591 0), (.int 0 0), (.ref 1203), (.int 596 0), (.int 0 0), (.ref 1224), (.int 598 0), (.int 0 0), (.ref 1231), (.int 600 0), (.int 0 0), (.ref 1238), (.int 602 0), (.int 0 0), (.ref 1245), (.int 604 0), (.int 0 0), (.ref 1252), (.int 607 0), (.int 0 0), (.ref 1259), (.int 609 0), (.int 0 0), (.ref 1266), (.int 612 0), (.int 0 0), (.ref 1273), (.int 617 0), (.int 0 0), (.ref 1280), (.int 784 0), (.int 0 0), (.ref 1651), (.int 789 0), (.int 0 0), (.ref 1658), (.int 805 0), (.int 0 0), (.ref 1665), (.int 814 0), (.int 0 0), (.ref 1670), (.int 823 0), (.int 0 0), (.ref 1675)]
noncomputable def f12 (k : Nat) : Obj := ⟨.none, none, .fields ((l12.take (3 * k)).toArray), #[]⟩
noncomputable def M_0 (P : Params) : Frag := [(0, boot_o_0 P), (2, ⟨.none, none, (.dict #[] 0), #[]⟩), (3, main3 P (.str "__main__" 164) 8), (4, boot_o_4 P), (12, f12 0), (13, o13 P)]
noncomputable def M_1 (P : Params) : Frag := [(0, boot_o_0 P), (2, ⟨.none, none, (.dict #[] 0), #[]⟩), (3, main3 P (.str "scheme.data" 194) 18), (4, boot_o_4 P), (12, f12 7), (13, o13 P)]
noncomputable def G_0 (P : Params) : Frag := [(34, (o_34 P)), (35, q_35), (37, (o_37 P)), (38, (o_38 P)), (43, (o_43 P)), (44, (o_44 P)), (46, (o_46 P)), (47, (o_47 P)), (49, (o_49 P)), (50, (o_50 P)), (64, (o_64 P)), (65, q_65), (67, (o_67 P)), (68, (o_68 P)), (85, (o_85 P)), (86, q_86), (92, (o_92 P)), (93, q_93), (130, (o_130 P)), (131, (o_131 P))]
noncomputable def X_0 (P : Params) : Frag := []
noncomputable def chk_0 (p : Program) (b : List Stmt) (w : World) (os : OsState) := piece p b w os (X_0 w.params ++ M_0 w.params) 15 187 ⟨0, 0, 0, 0⟩ [s_0, s_1, s_2, s_3, s_4, s_5, s_6, s_7, s_8, s_9, s_10] 1888 (M_1 w.params ++ G_0 w.params)
noncomputable def M_2 (P : Params) : Frag := [(0, boot_o_0 P), (2, ⟨.none, none, (.dict #[⟨(kh P "type.__subclasses__.Exception.0"), (.str "type.__subclasses__.Exception.0" 542), (.int 270 0)⟩, ⟨(kh P "type.__subclasses__.Exception.n"), (.str "type.__subclasses__.Exception.n" 543), (.int 1 0)⟩] 2), #[]⟩), (3, main3 P (.str "scheme.errors" 513) 28), (4, boot_o_4 P), (12, f12 17), (13, o13 P), (214, o_214 P), (215, ⟨(.type "type"), none, (.cls ⟨"Procedure", [(.type "object")], [(.ref 215), (.type "object")], 214, "Procedure", true, [], [(.ref 236)], false, none, false⟩), #[none, none, (some (.str "Procedure" 441)), (some (.str "Procedure" 449)), (some (.builtin "object.__new__")), (some (.bool true))]⟩), (269, ⟨(.type "dict"), none, (.dict #[⟨(kh P "__module__"), (.str "__module__" 522), (.str "scheme.errors" 513)⟩, ⟨(kh P "__firstlineno__"), (.str "__firstlineno__" 526), (.int 77 525)⟩, ⟨(kh P "__init__"), (.str "__init__" 535), (.ref 267)⟩, ⟨(kh P "__static_attributes__"), (.str "__static_attributes__" 538), (.ref 268)⟩, ⟨(kh P "__weakref__"), (.str "__weakref__" 540), (.ref 271)⟩, ⟨(kh P "__doc__"), (.str "__doc__" 541), .none⟩] 3), #[]⟩), (270, ⟨(.type "type"), none, (.cls ⟨"SchemeError", [(.type "Exception")], [(.ref 270), (.type "Exception"), (.type "BaseException"), (.type "object")], 269, "SchemeError", true, [], [(.ref 290), (.ref 309), (.ref 328), (.ref 347), (.ref 366)], false, none, false⟩), #[(some (.ref 254)), none, (some (.str "SchemeError" 515)), (some (.str "SchemeError" 523)), (some (.builtin "Exception.__new__")), (some (.bool true))]⟩)]
noncomputable def G_1 (P : Params) : Frag := [(211, (o_211 P)), (212, q_212), (235, (o_235 P)), (236, (o_236 P)), (252, (o_252 P)), (253, q_253)]
noncomputable def X_1 (P : Params) : Frag := []
noncomputable def chk_1 (p : Program) (b : List Stmt) (w : World) (os : OsState) := piece p b w os (X_1 w.params ++ M_1 w.params) 199 441 ⟨56, 0, 59, 28⟩ [s_11, s_12, s_13, s_14, s_15, s_16, s_17, s_18, s_19, s_20, s_21] 2008 (M_2 w.params ++ G_1 w.params)
noncomputable def M_3 (P : Params) : Frag := [(0, boot_o_0 P), (2, ⟨.none, none, (.dict #[⟨(kh P "type.__subclasses__.Exception.0"), (.str "type.__subclasses__.Exception.0" 542), (.int 270 0)⟩, ⟨(kh P "type.__subclasses__.Exception.n"), (.str "type.__subclasses__.Exception.n" 543), (.int 3 0)⟩, ⟨(kh P "type.__subclasses__.Exception.1"), (.str "type.__subclasses__.Exception.1" 750), (.int 423 0)⟩, ⟨(kh P "type.__subclasses__.Exception.2"), (.str "type.__subclasses__.Exception.2" 781), (.int 443 0)⟩] 4), #[]⟩), (3, main3 P (.str "scheme.core" 890) 57), (4, boot_o_4 P), (12, f12 29), (13, o13 P), (214, o_214 P), (215, ⟨(.type "type"), none, (.cls ⟨"Procedure", [(.type "object")], [(.ref 215), (.type "object")], 214, "Procedure", true, [], [(.ref 236), (.ref 468)], false, none, false⟩), #[none, none, (some (.str "Procedure" 441)), (some (.str "Procedure" 449)), (some (.builtin "object.__new__")), (some (.bool true))]⟩), (269, ⟨(.type "dict"), none, (.dict #[⟨(kh P "__module__"), (.str "__module__" 522), (.str "scheme.errors" 513)⟩, ⟨(kh P "__firstlineno__"), (.str "__firstlineno__" 526), (.int 77 525)⟩, ⟨(kh P "__init__"), (.str "__init__" 535), (.ref 267)⟩, ⟨(kh P "__static_attributes__"), (.str "__static_attributes__" 538), (.ref 268)⟩, ⟨(kh P "__weakref__"), (.str "__weakref__" 540), (.ref 271)⟩, ⟨(kh P "__doc__"), (.str "__doc__" 541), .none⟩] 3), #[]⟩), (270, ⟨(.type "type"), none, (.cls ⟨"SchemeError", [(.type "Exception")], [(.ref 270), (.type "Exception"), (.type "BaseException"), (.type "object")], 269, "SchemeError", true, [], [(.ref 290), (.ref 309), (.ref 328), (.ref 347), (.ref 366), (.ref 385), (.ref 404)], false, none, false⟩), #[(some (.ref 254)), none, (some (.str "SchemeError" 515)), (some (.str "SchemeError" 523)), (some (.builtin "Exception.__new__")), (some (.bool true))]⟩), (535, o_535 P), (536, ⟨(.type "type"), none, (.cls ⟨"Node", [(.type "object")], [(.ref 536), (.type "object")], 535, "Node", true, [], [], false, none, false⟩), #[none, none, (some (.str "Node" 916)), (some (.str "Node" 924)), (some (.builtin "object.__new__")), (some (.bool true))]⟩)]
noncomputable def G_2 (P : Params) : Frag := [(447, (o_447 P)), (448, (o_448 P)), (449, (o_449 P)), (450, (o_450 P)), (451, (o_451 P)), (464, (o_464 P)), (465, q_465), (467, (o_467 P)), (468, (o_468 P)), (476, (o_476 P)), (477, q_477), (483, (o_483 P)), (484, q_484), (490, (o_490 P)), (491, q_491), (497, (o_497 P)), (498, q_498), (525, (o_525 P)), (526, q_526)]
noncomputable def X_2 (P : Params) : Frag := []
noncomputable def chk_2 (p : Program) (b : List Stmt) (w : World) (os : OsState) := piece p b w os (X_2 w.params ++ M_2 w.params) 369 671 ⟨102, 0, 106, 24⟩ [s_22, s_23, s_24, s_25, s_26, s_27, s_28, s_29, s_30, s_31, s_32, s_33, s_34, s_35, s_36, s_37, s_38, s_39, s_40, s_41, s_42, s_43, s_44, s_45, s_46, s_47, s_48, s_49, s_50, s_51, s_52] 1885 (M_3 w.params ++ G_2 w.params)
noncomputable def M_4 (P : Params) : Frag := [(0, boot_o_0 P), (2, ⟨.none, none, (.dict #[⟨(kh P "type.__subclasses__.Exception.0"), (.str "type.__subclasses__.Exception.0" 542), (.int 270 0)⟩, ⟨(kh P "type.__subclasses__.Exception.n"), (.str "type.__subclasses__.Exception.n" 543), (.int 3 0)⟩, ⟨(kh P "type.__subclasses__.Exception.1"), (.str "type.__subclasses__.Exception.1" 750), (.int 423 0)⟩, ⟨(kh P "type.__subclasses__.Exception.2"), (.str "type.__subclasses__.Exception.2" 781), (.int 443 0)⟩] 4), #[]⟩), (3, main3 P (.str "scheme.core" 890) 63), (4, boot_o_4 P), (12, f12 35), (13, o13 P), (214, o_214 P), (215, ⟨(.type "type"), none, (.cls ⟨"Procedure", [(.type "object")], [(.ref 215), (.type "object")], 214, "Procedure", true, [], [(.ref 236), (.ref 468)], false, none, false⟩), #[none, none, (some (.str "Procedure" 441)), (some (.str "Procedure" 449)), (some (.builtin "object.__new__")), (some (.bool true))]⟩), (269, ⟨(.type "dict"), none, (.dict #[⟨(kh P "__module__"), (.str "__module__" 522), (.str "scheme.errors" 513)⟩, ⟨(kh P "__firstlineno__"), (.str "__firstlineno__" 526), (.int 77 525)⟩, ⟨(kh P "__init__"), (.str "__init__" 535), (.ref 267)⟩, ⟨(kh P "__static_attributes__"), (.str "__static_attributes__" 538), (.ref 268)⟩, ⟨(kh P "__weakref__"), (.str "__weakref__" 540), (.ref 271)⟩, ⟨(kh P "__doc__"), (.str "__doc__" 541), .none⟩] 3), #[]⟩), (270, ⟨(.type "type"), none, (.cls ⟨"SchemeError", [(.type "Exception")], [(.ref 270), (.type "Exception"), (.type "BaseException"), (.type "object")], 269, "SchemeError", true, [], [(.ref 290), (.ref 309), (.ref 328), (.ref 347), (.ref 366), (.ref 385), (.ref 404)], false, none, false⟩), #[(some (.ref 254)), none, (some (.str "SchemeError" 515)), (some (.str "SchemeError" 523)), (some (.builtin "Exception.__new__")), (some (.bool true))]⟩), (535, o_535 P), (536, ⟨(.type "type"), none, (.cls ⟨"Node", [(.type "object")], [(.ref 536), (.type "object")], 535, "Node", true, [], [(.ref 557), (.ref 576), (.ref 595), (.ref 628), (.ref 661), (.ref 708)], false, none, false⟩), #[none, none, (some (.str "Node" 916)), (some (.str "Node" 924)), (some (.builtin "object.__new__")), (some (.bool true))]⟩)]
noncomputable def G_3 (P : Params) : Frag := [(553, (o_553 P)), (554, q_554), (556, (o_556 P)), (557, (o_557 P)), (572, (o_572 P)), (573, q_573), (575, (o_575 P)), (576, (o_576 P)), (591, (o_591 P)), (592, q_592), (594, (o_594 P)), (595, (o_595 P)), (610, (o_610 P)), (611, q_611), (617, (o_617 P)), (618, q_618), (627, (o_627 P)), (628, (o_628 P)), (643, (o_643 P)), (644, q_644), (650, (o_650 P)), (651, q_651), (660, (o_660 P)), (661, (o_661 P)), (676, (o_676 P)), (677, q_677), (683, (o_683 P)), (684, q_684), (707, (o_707 P)), (708, (o_708 P))]
noncomputable def X_3 (P : Params) : Frag := []
noncomputable def chk_3 (p : Program) (b : List Stmt) (w : World) (os : OsState) := piece p b w os (X_3 w.params ++ M_3 w.params) 541 954 ⟨182, 0, 189, 16⟩ [s_53, s_54, s_55, s_56, s_57, s_58] 1819 (M_4 w.params ++ G_3 w.params)
noncomputable def M_5 (P : Params) : Frag := [(0, boot_o_0 P), (2, ⟨.none, none, (.dict #[⟨(kh P "type.__subclasses__.Exception.0"), (.str "type.__subclasses__.Exception.0" 542), (.int 270 0)⟩, ⟨(kh P "type.__subclasses__.Exception.n"), (.str "type.__subclasses__.Exception.n" 543), (.int 3 0)⟩, ⟨(kh P "type.__subclasses__.Exception.1"), (.str "type.__subclasses__.Exception.1" 750), (.int 423 0)⟩, ⟨(kh P "type.__subclasses__.Exception.2"), (.str "type.__subclasses__.Exception.2" 781), (.int 443 0)⟩] 4), #[]⟩), (3, main3 P (.str "scheme.interpret" 1311) 79), (4, boot_o_4 P), (12, f12 42), (13, o13 P), (214, o_214 P), (215, ⟨(.type "type"), none, (.cls ⟨"Procedure", [(.type "object")], [(.ref 215), (.type "object")], 214, "Procedure", true, [], [(.ref 236), (.ref 468)], false, none, false⟩), #[none, none, (some (.str "Procedure" 441)), (some (.str "Procedure" 449)), (some (.builtin "object.__new__")), (some (.bool true))]⟩), (269, ⟨(.type "dict"), none, (.dict #[⟨(kh P "__module__"), (.str "__module__" 522), (.str "scheme.errors" 513)⟩, ⟨(kh P "__firstlineno__"), (.str "__firstlineno__" 526), (.int 77 525)⟩, ⟨(kh P "__init__"), (.str "__init__" 535), (.ref 267)⟩, ⟨(kh P "__static_attributes__"), (.str "__static_attributes__" 538), (.ref 268)⟩, ⟨(kh P "__weakref__"), (.str "__weakref__" 540), (.ref 271)⟩, ⟨(kh P "__doc__"), (.str "__doc__" 541), .none⟩] 3), #[]⟩), (270, ⟨(.type "type"), none, (.cls ⟨"SchemeError", [(.type "Exception")], [(.ref 270), (.type "Exception"), (.type "BaseException"), (.type "object")], 269, "SchemeError", true, [], [(.ref 290), (.ref 309), (.ref 328), (.ref 347), (.ref 366), (.ref 385), (.ref 404)], false, none, false⟩), #[(some (.ref 254)), none, (some (.str "SchemeError" 515)), (some (.str "SchemeError" 523)), (some (.builtin "Exception.__new__")), (some (.bool true))]⟩), (535, o_535 P), (536, ⟨(.type "type"), none, (.cls ⟨"Node", [(.type "object")], [(.ref 536), (.type "object")], 535, "Node", true, [], [(.ref 557), (.ref 576), (.ref 595), (.ref 628), (.ref 661), (.ref 708), (.ref 741), (.ref 774), (.ref 807)], false, none, false⟩), #[none, none, (some (.str "Node" 916)), (some (.str "Node" 924)), (some (.builtin "object.__new__")), (some (.bool true))]⟩)]
noncomputable def G_4 (P : Params) : Frag := [(723, (o_723 P)), (724, q_724), (730, (o_730 P)), (731, q_731), (740, (o_740 P)), (741, (o_741 P)), (756, (o_756 P)), (757, q_757), (763, (o_763 P)), (764, q_764), (773, (o_773 P)), (774, (o_774 P)), (789, (o_789 P)), (790, q_790), (796, (o_796 P)), (797, q_797), (806, (o_806 P)), (807, (o_807 P)), (822, (o_822 P)), (823, q_823), (836, (o_836 P)), (837, q_837), (843, (o_843 P)), (844, q_844), (850, (o_850 P)), (851, q_851), (853, (o_853 P)), (854, (o_854 P)), (871, (o_871 P)), (872, q_872), (878, (o_878 P)), (879, q_879), (881, (o_881 P)), (882, (o_882 P)), (892, (o_892 P)), (893, q_893), (906, (o_906 P)), (907, q_907), (909, (o_909 P)), (910, (o_910 P))]
noncomputable def X_4 (P : Params) : Frag := []
noncomputable def chk_4 (p : Program) (b : List Stmt) (w : World) (os : OsState) := piece p b w os (X_4 w.params ++ M_4 w.params) 711 1182 ⟨230, 0, 249, 87⟩ [s_59, s_60, s_61, s_62, s_63, s_64, s_65, s_66, s_67, s_68, s_69, s_70, s_71, s_72, s_73, s_74, s_75] 1948 (M_5 w.params ++ G_4 w.params)
noncomputable def M_6 (P : Params) : Frag := [(0, boot_o_0 P), (2, ⟨.none, none, (.dict #[⟨(kh P "type.__subclasses__.Exception.0"), (.str "type.__subclasses__.Exception.0" 542), (.int 270 0)⟩, ⟨(kh P "type.__subclasses__.Exception.n"), (.str "type.__subclasses__.Exception.n" 543), (.int 3 0)⟩, ⟨(kh P "type.__subclasses__.Exception.1"), (.str "type.__subclasses__.Exception.1" 750), (.int 423 0)⟩, ⟨(kh P "type.__subclasses__.Exception.2"), (.str "type.__subclasses__.Exception.2" 781), (.int 443 0)⟩] 4), #[]⟩), (3, main3 P (.str "scheme.binary" 1845) 84), (4, boot_o_4 P), (12, f12 47), (13, o13 P), (214, o_214 P), (215, ⟨(.type "type"), none, (.cls ⟨"Procedure", [(.type "object")], [(.ref 215), (.type "object")], 214, "Procedure", true, [], [(.ref 236), (.ref 468), (.ref 938), (.ref 957)], false, none, false⟩), #[none, none, (some (.str "Procedure" 441)), (some (.str "Procedure" 449)), (some (.builtin "object.__new__")), (some (.bool true))]⟩), (269, ⟨(.type "dict"), none, (.dict #[⟨(kh P "__module__"), (.str "__module__" 522), (.str "scheme.errors" 513)⟩, ⟨(kh P "__firstlineno__"), (.str "__firstlineno__" 526), (.int 77 525)⟩, ⟨(kh P "__init__"), (.str "__init__" 535), (.ref 267)⟩, ⟨(kh P "__static_attributes__"), (.str "__static_attributes__" 538), (.ref 268)⟩, ⟨(kh P "__weakref__"), (.str "__weakref__" 540), (.ref 271)⟩, ⟨(kh P "__doc__"), (.str "__doc__" 541), .none⟩] 3), #[]⟩), (270, ⟨(.type "type"), none, (.cls ⟨"SchemeError", [(.type "Exception")], [(.ref 270), (.type "Exception"), (.type "BaseException"), (.type "object")], 269, "SchemeError", true, [], [(.ref 290), (.ref 309), (.ref 328), (.ref 347), (.ref 366), (.ref 385), (.ref 404)], false, none, false⟩), #[(some (.ref 254)), none, (some (.str "SchemeError" 515)), (some (.str "SchemeError" 523)), (some (.builtin "Exception.__new__")), (some (.bool true))]⟩), (535, o_535 P), (536, ⟨(.type "type"), none, (.cls ⟨"Node", [(.type "object")], [(.ref 536), (.type "object")], 535, "Node", true, [], [(.ref 557), (.ref 576), (.ref 595), (.ref 628), (.ref 661), (.ref 708), (.ref 741), (.ref 774), (.ref 807)], false, none, false⟩), #[none, none, (some (.str "Node" 916)), (some (.str "Node" 924)), (some (.builtin "object.__new__")), (some (.bool true))]⟩)]
noncomputable def G_5 (P : Params) : Frag := [(927, (o_927 P)), (928, q_928), (934, (o_934 P)), (935, q_935), (937, (o_937 P)), (938, (o_938 P)), (953, (o_953 P)), (954, q_954), (956, (o_956 P)), (957, (o_957 P)), (965, (o_965 P)), (966, q_966), (979, (o_979 P)), (980, q_980), (986, (o_986 P)), (987, q_987), (996, (o_996 P)), (997, (o_997 P)), (1014, (o_1014 P)), (1015, q_1015), (1021, (o_1021 P)), (1022, q_1022), (1028, (o_1028 P)), (1029, q_1029), (1035, (o_1035 P)), (1036, q_1036), (1042, (o_1042 P)), (1043, q_1043), (1049, (o_1049 P)), (1050, q_1050), (1056, (o_1056 P)), (1057, q_1057), (1063, (o_1063 P)), (1064, q_1064), (1070, (o_1070 P)), (1071, q_1071), (1077, (o_1077 P)), (1078, q_1078), (1084, (o_1084 P)), (1085, q_1085), (1091, (o_1091 P)), (1092, q_1092), (1098, (o_1098 P)), (1099, q_1099), (1112, (o_1112 P)), (1113, q_1113), (1119, (o_1119 P)), (1120, q_1120), (1126, (o_1126 P)), (1127, q_1127), (1133, (o_1133 P)), (1134, q_1134), (1147, (o_1147 P)), (1148, q_1148), (1154, (o_1154 P)), (1155, q_1155), (1161, (o_1161 P)), (1162, q_1162), (1164, (o_1164 P)), (1165, (o_1165 P))]
noncomputable def X_5 (P : Params) : Frag := []
noncomputable def chk_5 (p : Program) (b : List Stmt) (w : World) (os : OsState) := piece p b w os (X_5 w.params ++ M_5 w.params) 915 1481 ⟨332, 0, 340, 60⟩ [s_76, s_77, s_78, s_79, s_80, s_81] 1804 (M_6 w.params ++ G_5 w.params)
noncomputable def M_7 (P : Params) : Frag := [(0, boot_o_0 P), (2, ⟨.none, none, (.dict #[⟨(kh P "type.__subclasses__.Exception.0"), (.str "type.__subclasses__.Exception.0" 542), (.int 270 0)⟩, ⟨(kh P "type.__subclasses__.Exception.n"), (.str "type.__subclasses__.Exception.n" 543), (.int 3 0)⟩, ⟨(kh P "type.__subclasses__.Exception.1"), (.str "type.__subclasses__.Exception.1" 750), (.int 423 0)⟩, ⟨(kh P "type.__subclasses__.Exception.2"), (.str "type.__subclasses__.Exception.2" 781), (.int 443 0)⟩] 4), #[]⟩), (3, main3 P (.str "scheme.objects" 1980) 96), (4, boot_o_4 P), (12, f12 58), (13, o13 P), (214, o_214 P), (215, ⟨(.type "type"), none, (.cls ⟨"Procedure", [(.type "object")], [(.ref 215), (.type "object")], 214, "Procedure", true, [], [(.ref 236), (.ref 468), (.ref 938), (.ref 957)], false, none, false⟩), #[none, none, (some (.str "Procedure" 441)), (some (.str "Procedure" 449)), (some (.builtin "object.__new__")), (some (.bool true))]⟩), (269, ⟨(.type "dict"), none, (.dict #[⟨(kh P "__module__"), (.str "__module__" 522), (.str "scheme.errors" 513)⟩, ⟨(kh P "__firstlineno__"), (.str "__firstlineno__" 526), (.int 77 525)⟩, ⟨(kh P "__init__"), (.str "__init__" 535), (.ref 267)⟩, ⟨(kh P "__static_attributes__"), (.str "__static_attributes__" 538), (.ref 268)⟩, ⟨(kh P "__weakref__"), (.str "__weakref__" 540), (.ref 271)⟩, ⟨(kh P "__doc__"), (.str "__doc__" 541), .none⟩] 3), #[]⟩), (270, ⟨(.type "type"), none, (.cls ⟨"SchemeError", [(.type "Exception")], [(.ref 270), (.type "Exception"), (.type "BaseException"), (.type "object")], 269, "SchemeError", true, [], [(.ref 290), (.ref 309), (.ref 328), (.ref 347), (.ref 366), (.ref 385), (.ref 404)], false, none, false⟩), #[(some (.ref 254)), none, (some (.str "SchemeError" 515)), (some (.str "SchemeError" 523)), (some (.builtin "Exception.__new__")), (some (.bool true))]⟩), (535, o_535 P), (536, ⟨(.type "type"), none, (.cls ⟨"Node", [(.type "object")], [(.ref 536), (.type "object")], 535, "Node", true, [], [(.ref 557), (.ref 576), (.ref 595), (.ref 628), (.ref 661), (.ref 708), (.ref 741), (.ref 774), (.ref 807)], false, none, false⟩), #[none, none, (some (.str "Node" 916)), (some (.str "Node" 924)), (some (.builtin "object.__new__")), (some (.bool true))]⟩)]
noncomputable def G_6 (P : Params) : Frag := []
noncomputable def X_6 (P : Params) : Frag := []
noncomputable def chk_6 (p : Program) (b : List Stmt) (w : World) (os : OsState) := piece p b w os (X_6 w.params ++ M_6 w.params) 1170 1847 ⟨582, 0, 582, 8⟩ [s_82, s_83, s_84, s_85, s_86, s_87, s_88, s_89, s_90, s_91, s_92, s_93, s_94, s_95, s_96] 765 (M_7 w.params ++ G_6 w.params)
noncomputable def M_8 (P : Params) : Frag := [(0, boot_o_0 P), (2, ⟨.none, none, (.dict #[⟨(kh P "type.__subclasses__.Exception.0"), (.str "type.__subclasses__.Exception.0" 542), (.int 270 0)⟩, ⟨(kh P "type.__subclasses__.Exception.n"), (.str "type.__subclasses__.Exception.n" 543), (.int 3 0)⟩, ⟨(kh P "type.__subclasses__.Exception.1"), (.str "type.__subclasses__.Exception.1" 750), (.int 423 0)⟩, ⟨(kh P "type.__subclasses__.Exception.2"), (.str "type.__subclasses__.Exception.2" 781), (.int 443 0)⟩] 4), #[]⟩), (3, main3 P (.str "law_nt0264_01" 2420) 102), (4, boot_o_4 P), (12, f12 64), (13, o13 P), (214, o_214 P), (215, ⟨(.type "type"), none, (.cls ⟨"Procedure", [(.type "object")], [(.ref 215), (.type "object")], 214, "Procedure", true, [], [(.ref 236), (.ref 468), (.ref 938), (.ref 957)], false, none, false⟩), #[none, none, (some (.str "Procedure" 441)), (some (.str "Procedure" 449)), (some (.builtin "object.__new__")), (some (.bool true))]⟩), (269, ⟨(.type "dict"), none, (.dict #[⟨(kh P "__module__"), (.str "__module__" 522), (.str "scheme.errors" 513)⟩, ⟨(kh P "__firstlineno__"), (.str "__firstlineno__" 526), (.int 77 525)⟩, ⟨(kh P "__init__"), (.str "__init__" 535), (.ref 267)⟩, ⟨(kh P "__static_attributes__"), (.str "__static_attributes__" 538), (.ref 268)⟩, ⟨(kh P "__weakref__"), (.str "__weakref__" 540), (.ref 271)⟩, ⟨(kh P "__doc__"), (.str "__doc__" 541), .none⟩] 3), #[]⟩), (270, ⟨(.type "type"), none, (.cls ⟨"SchemeError", [(.type "Exception")], [(.ref 270), (.type "Exception"), (.type "BaseException"), (.type "object")], 269, "SchemeError", true, [], [(.ref 290), (.ref 309), (.ref 328), (.ref 347), (.ref 366), (.ref 385), (.ref 404)], false, none, false⟩), #[(some (.ref 254)), none, (some (.str "SchemeError" 515)), (some (.str "SchemeError" 523)), (some (.builtin "Exception.__new__")), (some (.bool true))]⟩), (535, o_535 P), (536, ⟨(.type "type"), none, (.cls ⟨"Node", [(.type "object")], [(.ref 536), (.type "object")], 535, "Node", true, [], [(.ref 557), (.ref 576), (.ref 595), (.ref 628), (.ref 661), (.ref 708), (.ref 741), (.ref 774), (.ref 807)], false, none, false⟩), #[none, none, (some (.str "Node" 916)), (some (.str "Node" 924)), (some (.builtin "object.__new__")), (some (.bool true))]⟩)]
noncomputable def G_7 (P : Params) : Frag := [(1287, (o_1287 P)), (1288, q_1288), (1640, (o_1640 P)), (1641, (o_1641 P)), (1651, (o_1651 P)), (1652, q_1652), (1658, (o_1658 P)), (1659, q_1659), (1665, (o_1665 P)), (1666, q_1666), (1670, (o_1670 P)), (1671, q_1671), (1675, (o_1675 P)), (1676, q_1676)]
noncomputable def X_7 (P : Params) : Frag := []
noncomputable def chk_7 (p : Program) (b : List Stmt) (w : World) (os : OsState) := piece p b w os (X_7 w.params ++ M_7 w.params) 1275 1982 ⟨616, 0, 616, 8⟩ [s_97, s_98, s_99, s_100, s_101, s_102, s_103] 1999 (M_8 w.params ++ G_7 w.params)
end NT
end
section
open PySem PySem.W PySem.Calls PyProof.Rows
namespace NT
theorem ok_0 : ∀ p b w, chk_0 p b w = fun os => some (.next, .body b env0, ⟨56, 0, 59, 28⟩, 199, #[], drawn0, 441, os, (M_1 w.params ++ G_0 w.params).map fun q => some q.2) := by
  intro p b w; kernel_rfl
end NT
end
section
open PySem PySem.W PySem.Calls PyProof.Rows
namespace NT
theorem ok_1 : ∀ p b w, chk_1 p b w = fun os => some (.next, .body b env0, ⟨102, 0, 106, 24⟩, 369, #[], drawn0, 671, os, (M_2 w.params ++ G_1 w.params).map fun q => some q.2) := by
  intro p b w; kernel_rfl
end NT
end
section
open PySem PySem.W PySem.Calls PyProof.Rows
namespace NT
theorem ok_2 : ∀ p b w, chk_2 p b w = fun os => some (.next, .body b env0, ⟨182, 0, 189, 16⟩, 541, #[], drawn0, 954, os, (M_3 w.params ++ G_2 w.params).map fun q => some q.2) := by
  intro p b w; kernel_rfl
end NT
end
section
open PySem PySem.W PySem.Calls PyProof.Rows
namespace NT
theorem ok_3 : ∀ p b w, chk_3 p b w = fun os => some (.next, .body b env0, ⟨230, 0, 249, 87⟩, 711, #[], drawn0, 1182, os, (M_4 w.params ++ G_3 w.params).map fun q => some q.2) := by
  intro p b w; kernel_rfl
end NT
end
section
open PySem PySem.W PySem.Calls PyProof.Rows
namespace NT
theorem ok_4 : ∀ p b w, chk_4 p b w = fun os => some (.next, .body b env0, ⟨332, 0, 340, 60⟩, 915, #[], drawn0, 1481, os, (M_5 w.params ++ G_4 w.params).map fun q => some q.2) := by
  intro p b w; kernel_rfl
end NT
end
section
open PySem PySem.W PySem.Calls PyProof.Rows
namespace NT
theorem ok_5 : ∀ p b w, chk_5 p b w = fun os => some (.next, .body b env0, ⟨582, 0, 582, 8⟩, 1170, #[], drawn0, 1847, os, (M_6 w.params ++ G_5 w.params).map fun q => some q.2) := by
  intro p b w; kernel_rfl
end NT
end
section
open PySem PySem.W PySem.Calls PyProof.Rows
namespace NT
theorem ok_6 : ∀ p b w, chk_6 p b w = fun os => some (.next, .body b env0, ⟨616, 0, 616, 8⟩, 1275, #[], drawn0, 1982, os, (M_7 w.params ++ G_6 w.params).map fun q => some q.2) := by
  intro p b w; kernel_rfl
end NT
end
section
open PySem PySem.W PySem.Calls PyProof.Rows
namespace NT
theorem ok_7 : ∀ p b w, chk_7 p b w = fun os => some (.next, .body b env0, ⟨823, 0, 838, 15⟩, 1677, #[], drawn0, 2467, os, (M_8 w.params ++ G_7 w.params).map fun q => some q.2) := by
  intro p b w; kernel_rfl
end NT
end
section
open PySem PySem.W PySem.Calls PyProof.Rows
namespace NT
noncomputable def bd : List Stmt := p264.main.body
noncomputable def t0 : Thread := ⟨denote treeTable (.body bd env0), .body bd env0, ⟨0, 0, 0, 0⟩, [topFrame ⟨0, 0, 0, 0⟩]⟩
noncomputable def pre (w : World) (os : OsState) := (topGoK treeTable p264 w 11 11 (some (.ref 6)) 12 (skOf (bootL w.params) 11 boot_toks os) (topStub p264)).map fun r => ((r.1.n, r.1.gens, r.1.drawn, r.1.toks, r.1.os, (M_0 w.params).map fun q => r.1.kt.get q.1), r.2)
theorem pre_ok : ∀ w, pre w = fun os => some ((15, #[], drawn0, 187, os, (M_0 w.params).map fun q => some q.2), t0) := by
  walk_at "l"; intro w; kernel_rfl
noncomputable def blk (w : World) (os : OsState) := (segRunK treeTable p264 w 15 11 (some (.ref 6)) 1 20 (skOf (M_0 w.params) 15 187 os) (blockOf bd env0 (.body bd env0) ⟨0, 0, 0, 0⟩ [topFrame ⟨0, 0, 0, 0⟩])).map (viewK (M_0 w.params))
theorem blk_ok : ∀ w, blk w = fun os => some (.next, .body bd env0, ⟨0, 0, 0, 0⟩, 15, #[], drawn0, 187, os, (M_0 w.params).map fun q => some q.2) := by
  walk_at "l"; intro w; kernel_rfl
end NT
end
section
open PySem PySem.W PySem.Calls PyProof.Rows
namespace NT
noncomputable def fin (w : World) (os : OsState) := (topGoK treeTable p264 w 1677 11 (some (.ref 6)) 1 (skOf (M_8 w.params) 1677 2467 os) ⟨doneF .next, .body bd env0, ⟨823, 0, 838, 15⟩, [topFrame ⟨0, 0, 0, 0⟩]⟩).map fun r => ((r.1.n, r.1.gens, r.1.drawn, r.1.toks, r.1.os, (M_8 w.params).map (fun q => r.1.kt.get q.1)), through r.2)
theorem fin_ok : ∀ w, fin w = fun os => some ((1677, #[], drawn0, 2467, os, (M_8 w.params).map fun q => some q.2), true) := by
  walk_at "l"; intro w; kernel_rfl
theorem up_mono {n n' a : Nat} (h : n ≤ n') (e : upOk n a = false) : upOk n' a = false := by
  walk_at "l"; unfold upOk at e ⊢
  walk_at "l"; rw [Bool.or_eq_false_iff] at e ⊢
  walk_at "l"; refine ⟨?_, e.2⟩
  walk_at "l"; cases q : Nat.ble n' a with
  | false => walk_at "l"; rfl
  | true =>
    have := Nat.ble_eq_true_of_le (Nat.le_trans h (Nat.le_of_ble_eq_true q))
    rw [e.1] at this; walk_at "e"; cases this
noncomputable def Ends (w : World) (os : OsState) (rest : List Stmt) (L As : Frag) (n toks : Nat) (pos : Pos) : Prop := ∀ σ, Hd σ L n toks os → ∃ M r, topRun treeTable p264 w 11 (some (.ref 6)) M σ (restOf rest env0 (.body bd env0) pos [topFrame ⟨0, 0, 0, 0⟩]) = some r ∧
  (∀ a o, upOk n a = false → σ.heap.get? a = some o → r.heap.get? a = some o) ∧ (∀ q ∈ As, r.heap.get? q.1 = some q.2) ∧ Hd r (M_8 w.params) 1677 2467 os
theorem Ends.step {w : World} {os : OsState} {l rest : List Stmt} {L M G As : Frag} {n toks n' toks' : Nat} {pos pos' : Pos} {N : Nat} (h : piece p264 bd w os L n toks pos l N (M ++ G) = some (.next, .body bd env0, pos', n', #[], drawn0, toks', os, (M ++ G).map fun q => some q.2)) (hl : L.all (fun q => Nat.blt q.1 1000000) = true) (hG : G.all (fun q => !upOk n' q.1) = true)
    (e : Ends w os rest M As n' toks' pos') : Ends w os (l ++ rest) L (G ++ As) n toks pos := by
  walk_at "l"; intro σ H
  walk_at "e"; obtain ⟨σ', h1, H', le, keep⟩ := piece_step h hl H
  walk_at "e"; obtain ⟨Mr, r, h2, keep2, as, Hr⟩ := e σ' ⟨H'.size, fun q hq => H'.get q (List.mem_append_left _ hq), H'.gens, H'.drawn, H'.toks, H'.os⟩
  walk_at "l"; refine ⟨N + Mr, r, piece_app h1 h2, fun a o hu hg => keep2 a o (up_mono le hu) (keep a o hu hg), fun q hq => ?_, Hr⟩
  walk_at "e"; rcases List.mem_append.mp hq with hq | hq
  · have := List.all_eq_true.mp hG q hq
    rw [Bool.not_eq_true'] at this
    walk_at "l"; exact keep2 _ _ this (H'.get q (List.mem_append_right _ hq))
  · walk_at "l"; exact as q hq
theorem Ends.nil (w : World) (os : OsState) : Ends w os [] (M_8 w.params) [] 1677 2467 ⟨823, 0, 838, 15⟩ := by
  walk_at "l"; intro σ H
  have h := congrFun (fin_ok w) os
  walk_at "e"; obtain ⟨⟨s, t⟩, h1, h2⟩ := Option.map_eq_some_iff.mp h
  simp only [Prod.mk.injEq] at h2
  walk_at "e"; obtain ⟨⟨e1, e2, e3, e4, e5, e6⟩, e7⟩ := h2
  walk_at "e"; obtain ⟨σ', e, R, F⟩ := topGoK_of _ h1 (H.rep (by kernel_rfl))
  walk_at "l"; refine ⟨1 + 1, σ', piece_nil (go_top e ?_), F.keep, fun zz h => (nomatch h), ⟨R.size.trans e1, gets_of R e6, R.gens.trans e2, R.drawn.trans e3, R.toks.trans e4, R.os.trans e5⟩⟩
  walk_at "l"; unfold topRun
  walk_at "l"; rw [e7]
noncomputable def GA (P : Params) : Frag := G_0 P ++ (G_1 P ++ (G_2 P ++ (G_3 P ++ (G_4 P ++ (G_5 P ++ (G_6 P ++ (G_7 P ++ [])))))))
noncomputable def l_0 : List Stmt := [s_0, s_1, s_2, s_3, s_4, s_5, s_6, s_7, s_8, s_9, s_10]
noncomputable def l_1 : List Stmt := [s_11, s_12, s_13, s_14, s_15, s_16, s_17, s_18, s_19, s_20, s_21]
noncomputable def l_2 : List Stmt := [s_22, s_23, s_24, s_25, s_26, s_27, s_28, s_29, s_30, s_31, s_32, s_33, s_34, s_35, s_36, s_37, s_38, s_39, s_40, s_41, s_42, s_43, s_44, s_45, s_46, s_47, s_48, s_49, s_50, s_51, s_52]
noncomputable def l_3 : List Stmt := [s_53, s_54, s_55, s_56, s_57, s_58]
noncomputable def l_4 : List Stmt := [s_59, s_60, s_61, s_62, s_63, s_64, s_65, s_66, s_67, s_68, s_69, s_70, s_71, s_72, s_73, s_74, s_75]
noncomputable def l_5 : List Stmt := [s_76, s_77, s_78, s_79, s_80, s_81]
noncomputable def l_6 : List Stmt := [s_82, s_83, s_84, s_85, s_86, s_87, s_88, s_89, s_90, s_91, s_92, s_93, s_94, s_95, s_96]
noncomputable def l_7 : List Stmt := [s_97, s_98, s_99, s_100, s_101, s_102, s_103]
theorem bd_eq : bd = l_0 ++ (l_1 ++ (l_2 ++ (l_3 ++ (l_4 ++ (l_5 ++ (l_6 ++ (l_7 ++ []))))))) := body_eq
theorem ends_all (w : World) (os : OsState) : Ends w os bd (M_0 w.params) (GA w.params) 15 187 ⟨0, 0, 0, 0⟩ := by
  walk_at "l"; rw [bd_eq]
  have e8 := Ends.nil w os
  have e7 := Ends.step (l := l_7) (L := X_7 w.params ++ M_7 w.params) (G := G_7 w.params) (N := 1999) (congrFun (ok_7 p264 bd w) os) (by kernel_rfl) (by kernel_rfl) e8
  have e6 := Ends.step (l := l_6) (L := X_6 w.params ++ M_6 w.params) (G := G_6 w.params) (N := 765) (congrFun (ok_6 p264 bd w) os) (by kernel_rfl) (by kernel_rfl) e7
  have e5 := Ends.step (l := l_5) (L := X_5 w.params ++ M_5 w.params) (G := G_5 w.params) (N := 1804) (congrFun (ok_5 p264 bd w) os) (by kernel_rfl) (by kernel_rfl) e6
  have e4 := Ends.step (l := l_4) (L := X_4 w.params ++ M_4 w.params) (G := G_4 w.params) (N := 1948) (congrFun (ok_4 p264 bd w) os) (by kernel_rfl) (by kernel_rfl) e5
  have e3 := Ends.step (l := l_3) (L := X_3 w.params ++ M_3 w.params) (G := G_3 w.params) (N := 1819) (congrFun (ok_3 p264 bd w) os) (by kernel_rfl) (by kernel_rfl) e4
  have e2 := Ends.step (l := l_2) (L := X_2 w.params ++ M_2 w.params) (G := G_2 w.params) (N := 1885) (congrFun (ok_2 p264 bd w) os) (by kernel_rfl) (by kernel_rfl) e3
  have e1 := Ends.step (l := l_1) (L := X_1 w.params ++ M_1 w.params) (G := G_1 w.params) (N := 2008) (congrFun (ok_1 p264 bd w) os) (by kernel_rfl) (by kernel_rfl) e2
  have e0 := Ends.step (l := l_0) (L := X_0 w.params ++ M_0 w.params) (G := G_0 w.params) (N := 1888) (congrFun (ok_0 p264 bd w) os) (by kernel_rfl) (by kernel_rfl) e1
  walk_at "l"; exact e0
end NT
end
section
open PySem PySem.W PySem.Calls PyProof.Rows
namespace NT
theorem top_run (w : World) (os : OsState) : ∃ M r, topRun treeTable p264 w 11 (some (.ref 6)) M ⟨boot_heap w.params, #[], boot_drawn, boot_toks, os⟩ (topStub p264) = some r ∧ (∀ a o, upOk 11 a = false → (boot_heap w.params).get? a = some o → r.heap.get? a = some o) ∧ (∀ q ∈ GA w.params, r.heap.get? q.1 = some q.2) ∧ Hd r (M_8 w.params) 1677 2467 os := by
  have h := congrFun (pre_ok w) os
  walk_at "e"; obtain ⟨⟨s, t⟩, h1, h2⟩ := Option.map_eq_some_iff.mp h
  simp only [Prod.mk.injEq] at h2
  walk_at "e"; obtain ⟨⟨e1, e2, e3, e4, e5, e6⟩, rfl⟩ := h2
  walk_at "e"; obtain ⟨σ₁, g1, R1, F1⟩ := topGoK_of _ h1 ((boot_hd w os).rep (by kernel_rfl))
  have H1 : Hd σ₁ (M_0 w.params) 15 187 os := ⟨R1.size.trans e1, gets_of R1 e6, R1.gens.trans e2, R1.drawn.trans e3, R1.toks.trans e4, R1.os.trans e5⟩
  have hb := congrFun (blk_ok w) os
  walk_at "e"; obtain ⟨⟨f, s2, c, q⟩, b1, b2⟩ := Option.map_eq_some_iff.mp hb
  unfold viewK at b2
  simp only [Prod.mk.injEq] at b2
  walk_at "e"; obtain ⟨rfl, rfl, rfl, z1, z2, z3, z4, z5, z6⟩ := b2
  walk_at "e"; obtain ⟨σ₂, g2, R2, F2⟩ := segRunK_of _ b1 (H1.rep (by kernel_rfl))
  have H2 : Hd σ₂ (M_0 w.params) 15 187 os := ⟨R2.size.trans z1, gets_of R2 z6, R2.gens.trans z2, R2.drawn.trans z3, R2.toks.trans z4, R2.os.trans z5⟩
  walk_at "e"; obtain ⟨M, r, g3, keep, as, Hr⟩ := ends_all w os σ₂ H2
  walk_at "l"; refine ⟨12 + (20 + M), r, go_top g1 (piece_block g2 g3), fun a o hu hg => ?_, as, Hr⟩
  walk_at "l"; exact keep a o (up_mono (by decide) hu) (F2.keep a o (up_mono (by decide) hu) (F1.keep a o hu hg))
noncomputable def mo (P : Params) (a : Nat) : Obj := ((M_8 P).lookup a).getD ⟨.none, none, .plain, #[]⟩
noncomputable def small (P : Params) : Heap := ⟨#[boot_o_0 P, boot_o_1 P, mo P 2, mo P 3, boot_o_4 P], (boot_heap P).life⟩
noncomputable def smallL (P : Params) : Frag := [(0, boot_o_0 P), (1, boot_o_1 P), (2, mo P 2), (3, mo P 3), (4, boot_o_4 P)]
noncomputable def q0 : Program := view p264 []
noncomputable def lo0 : List Str := p264.boundNames
theorem small_in (P : Params) : ∀ b o, (small P).get? b = some o → (b, o) ∈ smallL P := by
  walk_at "l"; intro b o h
  have lt := Heap.lt_size h
  have h5 : (small P).objs.size = 5 := rfl
  rw [h5] at lt
  walk_at "l"; match b, lt with
  | 0, _ => walk_at "e"; cases h; walk_at "l"; exact .head _
  | 1, _ => walk_at "e"; cases h; walk_at "l"; exact .tail _ (.head _)
  | 2, _ => walk_at "e"; cases h; walk_at "l"; exact .tail _ (.tail _ (.head _))
  | 3, _ => walk_at "e"; cases h; walk_at "l"; exact .tail _ (.tail _ (.tail _ (.head _)))
  | 4, _ => walk_at "e"; cases h; walk_at "l"; exact .tail _ (.tail _ (.tail _ (.tail _ (.head _))))
end NT
end
section
open PySem PySem.W PySem.Calls PyProof.Rows
namespace NT
theorem sm_seen : ∀ (P : Params) (os : OsState), seen ((recsOf q0).map (·.name)) (ownsOf q0) [] ⟨small P, #[], boot_drawn, 0, os⟩ = expectedOf q0 := by intro P os; kernel_rfl
theorem sm_blt : ∀ P : Params, (small P).bltView = bltViewBooted := by intro P; kernel_rfl
theorem sm_keys : ∀ P : Params, (small P).keysOk lo0 ((recsOf q0).map (·.name)) ((litsOf q0).map (·.1)) ((clssOf q0 lo0).map (·.name)) = true := by intro P; kernel_rfl
theorem sm_tabs : ∀ (P : Params) (os : OsState), tabsOk q0 ⟨small P, #[], boot_drawn, 0, os⟩ = true := by intro P os; kernel_rfl
theorem sm_top : ∀ P : Params, (staticsOk (importedModules p264.main.body) (boot_heap P) (small P), namesBound p264 (small P), laidKept (boot_heap P) (small P), (small P).accountedOkI (importedModules p264.main.body), (small P).isNs mainGlobals, (small P).isNs builtinsNs) = (true, true, true, true, true, true) := by intro P; kernel_rfl
theorem sm_ann : ∀ P : Params, ((boot_heap P).isNs mainGlobals, (boot_heap P).objs.size, (boot_heap P).nsMap mainGlobals "__annotations__") = (true, 11, some (.ref 6)) := by intro P; kernel_rfl
theorem sm_law : ∀ P : Params, (small P).nsMap mainGlobals "law" = some (.ref 1676) := by intro P; kernel_rfl
end NT
end
section
open PySem PySem.W PySem.Calls PyProof.Rows
namespace NT
theorem lk_mem {a : Nat} {o : Obj} : ∀ {l : Frag}, l.lookup a = some o → (a, o) ∈ l
  | [], h => by cases h
  | (b, v) :: l, h => by
    rw [List.lookup_cons] at h
    walk_at "e"; split at h
    · rename_i q
      walk_at "e"; cases h
      walk_at "l"; rw [eq_of_beq q]; exact .head _
    · walk_at "l"; exact .tail _ (lk_mem h)
structure Ready0 (w : World) (h : Heap) : Prop where
  K : (K w.params).In h
  T : Top q0 lo0 (ExcName.means (small w.params)) ((small w.params).nsMap mainGlobals) ((small w.params).nsMap builtinsNs) h
  sub : ∀ b o, (small w.params).get? b = some o → h.get? b = some o
theorem K_eq : ∀ P : Params, K P = GA P ++ [(2, mo P 2), (3, mo P 3), (214, mo P 214), (215, mo P 215), (535, mo P 535), (536, mo P 536)] := by intro P; kernel_rfl
theorem mo_mem : ∀ P : Params, [2, 3, 214, 215, 535, 536].all (fun a => ((M_8 P).lookup a).isSome) = true := by intro P; kernel_rfl
theorem mo_in {P : Params} {a : Nat} (h : a ∈ [2, 3, 214, 215, 535, 536]) : (a, mo P a) ∈ M_8 P := by
  have := List.all_eq_true.mp (mo_mem P) a h
  walk_at "l"; unfold mo
  walk_at "e"; obtain ⟨o, e⟩ := Option.isSome_iff_exists.mp this
  walk_at "l"; rw [e]
  walk_at "l"; exact lk_mem (l := M_8 P) e
theorem top_hd {P : Params} {a : Nat} (h : a ∈ [0, 4]) : (M_8 P).lookup a = (smallL P).lookup a := by
  have : ∀ P : Params, [0, 4].all (fun a => ((M_8 P).lookup a).isSome) = true := by intro P; kernel_rfl
  have e : ∀ P : Params, ([0, 4].map fun a => (M_8 P).lookup a) = [0, 4].map fun a => (smallL P).lookup a := by intro P; kernel_rfl
  walk_at "l"; exact List.map_inj_left.mp (e P) a h
theorem ready_of {w : World} {r : Shared} {os : OsState} (hk : ∀ a o, upOk 11 a = false → (boot_heap w.params).get? a = some o → r.heap.get? a = some o) (hg : ∀ q ∈ GA w.params, r.heap.get? q.1 = some q.2) (H : Hd r (M_8 w.params) 1677 2467 os) : Ready0 w r.heap := by
  have sub : ∀ b o, (small w.params).get? b = some o → r.heap.get? b = some o := fun b o h => by
    have := small_in w.params b o h
    walk_at "e"; rcases List.mem_cons.mp this with e | this
    · walk_at "e"; cases e
      walk_at "l"; exact H.get (0, _) (lk_mem ((top_hd (a := 0) (by decide)).trans rfl))
    walk_at "e"; rcases List.mem_cons.mp this with e | this
    · walk_at "e"; cases e
      walk_at "l"; exact hk 1 _ rfl ((List.map_inj_left.mp ((fun P => by kernel_rfl : ∀ P : Params, (bootL P).map (fun q => (boot_heap P).get? q.1) = (bootL P).map fun q => some q.2) w.params) (1, boot_o_1 w.params) (.tail _ (.head _))))
    walk_at "e"; rcases List.mem_cons.mp this with e | this
    · walk_at "e"; cases e; walk_at "l"; exact H.get _ (mo_in (by decide))
    walk_at "e"; rcases List.mem_cons.mp this with e | this
    · walk_at "e"; cases e; walk_at "l"; exact H.get _ (mo_in (by decide))
    walk_at "e"; rcases List.mem_cons.mp this with e | this
    · walk_at "e"; cases e
      walk_at "l"; exact H.get (4, _) (lk_mem ((top_hd (a := 4) (by decide)).trans rfl))
    · walk_at "l"; nomatch this
  walk_at "l"; refine ⟨fun a o h => ?_, ?_, sub⟩
  · have hm := lk_mem h
    rw [K_eq] at hm
    walk_at "e"; rcases List.mem_append.mp hm with hm | hm
    · walk_at "l"; exact hg _ hm
    · walk_at "l"; refine H.get (a, o) ?_
      walk_at "e"; rcases List.mem_cons.mp hm with e | hm
      · walk_at "e"; cases e; walk_at "l"; exact mo_in (by decide)
      walk_at "e"; rcases List.mem_cons.mp hm with e | hm
      · walk_at "e"; cases e; walk_at "l"; exact mo_in (by decide)
      walk_at "e"; rcases List.mem_cons.mp hm with e | hm
      · walk_at "e"; cases e; walk_at "l"; exact mo_in (by decide)
      walk_at "e"; rcases List.mem_cons.mp hm with e | hm
      · walk_at "e"; cases e; walk_at "l"; exact mo_in (by decide)
      walk_at "e"; rcases List.mem_cons.mp hm with e | hm
      · walk_at "e"; cases e; walk_at "l"; exact mo_in (by decide)
      walk_at "e"; rcases List.mem_cons.mp hm with e | hm
      · walk_at "e"; cases e; walk_at "l"; exact mo_in (by decide)
      · walk_at "l"; nomatch hm
  · walk_at "l"; exact (top_of_seenO (s := ⟨small w.params, #[], boot_drawn, 0, os⟩) (sm_seen _ _) (sm_blt _) (sm_keys _) (congrArg (fun x => x.2.2.2.2.2) (sm_top w.params)) (sm_tabs _ _) rfl).keeps sub
end NT
end
section
open PySem PySem.W PySem.Calls PyProof.Rows
namespace NT
theorem st_same {h h' : Heap} (e : h'.get? cStatics = h.get? cStatics) (k : Str) : staticOf h' k = staticOf h k := by unfold staticOf; rw [e]
theorem gl_same {h h' : Heap} (e : h'.get? mainNs = h.get? mainNs) (k : Str) : globalOf h' k = globalOf h k := by unfold globalOf; rw [e]
theorem bi_same {h h' : Heap} (e : h'.get? builtinsNs = h.get? builtinsNs) (k : Str) : PySem.builtinOf h' k = PySem.builtinOf h k := by unfold PySem.builtinOf; rw [e]
theorem sm_get (P : Params) : (small P).get? mainNs = some (mo P 3) ∧ (small P).get? cStatics = some (mo P 2) ∧ (small P).get? builtinsNs = some (boot_o_0 P) := ⟨by kernel_rfl, by kernel_rfl, by kernel_rfl⟩
theorem behind264 (w : World) : (∃ s, AfterRun (opening p264) w s) ∧ ∀ s', AfterRun (opening p264) w s' → ∃ s₀, fenceModules? p264 s' = some s₀ ∧ s₀.gens = #[] ∧ ∃ s₁, TopRan p264 w s₀ s₁ ∧ s₁.asleep ∧ s₁.gens = #[] ∧ Ready0 w s₁.heap := by
  walk_at "e"; obtain ⟨s₀, h1, h2⟩ := Option.map_eq_some_iff.mp (open264 w)
  simp only [Prod.mk.injEq] at h2
  walk_at "e"; obtain ⟨heap, gens, drawn, toks, os⟩ := s₀
  walk_at "e"; obtain ⟨rfl, rfl, rfl, rfl⟩ := h2
  rw [← table_eq_tree] at h1
  walk_at "e"; obtain ⟨s, h4, h5⟩ := Option.bind_eq_some_iff.mp h1
  have A := AfterImport.of_importEnds h4
  walk_at "l"; refine ⟨⟨s, A⟩, fun s' hs' => ?_⟩
  walk_at "e"; obtain rfl : s' = s := AfterImport.unique hs' A
  have z : (⟨boot_heap w.params, Array.mk [], boot_drawn, boot_toks, os⟩ : Shared).asleep := Shared.asleep_of_life (fence_lifeW h5) A.life
  walk_at "e"; obtain ⟨M, r, hr, hk, hg, H⟩ := top_run w os
  rw [← table_eq_tree] at hr
  walk_at "e"; obtain ⟨a, l, e, fr⟩ := topRun_spec _ _ _ _ z hr
  have RD := ready_of hk hg H
  have st := sm_top w.params
  have s1 := congrArg Prod.fst st
  have s2 := congrArg (fun x => x.2.1) st
  have s3 := congrArg (fun x => x.2.2.1) st
  have s4 := congrArg (fun x => x.2.2.2.1) st
  have s5 := congrArg (fun x => x.2.2.2.2.1) st
  have s6 := congrArg (fun x => x.2.2.2.2.2) st
  dsimp only at s1 s2 s3 s4 s5 s6
  have an := sm_ann w.params
  have an1 := congrArg Prod.fst an
  have an2 := congrArg (fun x => x.2.1) an
  have an3 := congrArg (fun x => x.2.2) an
  dsimp only at an1 an2 an3
  walk_at "e"; obtain ⟨g1, g2, g3⟩ := sm_get w.params
  have eS : ∀ k, staticOf r.heap k = staticOf (small w.params) k := st_same ((RD.sub _ _ g2).trans g2.symm)
  have eG : ∀ k, globalOf r.heap k = globalOf (small w.params) k := gl_same ((RD.sub _ _ g1).trans g1.symm)
  have eB : ∀ k, PySem.builtinOf r.heap k = PySem.builtinOf (small w.params) k := bi_same ((RD.sub _ _ g3).trans g3.symm)
  walk_at "l"; refine ⟨_, h5, rfl, r, ⟨a, l, Shared.rest_eq e, fun b o hb hn => fr b o ?_ (fun q => hn (.inl q)) (fun q => hn (.inr (.inl q))) (fun q => hn (.inr (.inr ((Pin.globalOf_eq an1 _).trans (an3.trans q))))) hb, ?_, ?_, ?_, ?_, ?_, ?_, ?_, ?_⟩, Shared.asleep_of_life l z, H.gens, RD⟩
  · have := Heap.lt_size hb
    rw [show (boot_heap w.params).objs.size = 11 from an2] at this
    walk_at "l"; exact this
  · have := Heap.accountedI_of_ok s4
    walk_at "l"; unfold staticsAccountedI at this ⊢
    walk_at "l"; simpa only [eS] using this
  · walk_at "l"; intro key
    have := statics_of_ok s1 key
    walk_at "l"; rw [eS]; exact this
  · walk_at "e"; obtain ⟨o, es, n, x1, x2, x3⟩ := Pin.keysAreStrs_of s5
    walk_at "l"; exact ⟨o, es, n, RD.sub _ _ x1, x2, x3⟩
  · walk_at "l"; intro x hx
    walk_at "l"; rw [eB]
    walk_at "l"; exact (Pin.builtinOf_eq s6 x).trans (Heap.of_bltView s6 (sm_blt _) x hx)
  · walk_at "e"; obtain ⟨bm, ob, b1, _, b3, b4, b5, _⟩ := RD.T.bmain
    walk_at "l"; exact ⟨bm, ob, (eG _).trans ((Pin.globalOf_eq s5 _).trans b1), b3, b4, b5⟩
  · walk_at "l"; rw [H.gens]; exact fun g hg => by simp at hg
  · walk_at "l"; intro x v hv
    rw [eG] at hv
    walk_at "l"; exact names_of_bound s2 x v hv
  · walk_at "l"; intro x hx
    walk_at "l"; rw [eG]
    walk_at "l"; exact laid_of_kept s3 x hx
end NT
end
section
open PySem PySem.W PySem.Calls PyProof.Rows
namespace NT
theorem lw_obj (P : Params) : (K P).lookup 1676 = some ⟨.type "function", none, .func (docDef "law" I1676.p I1676.body I1676.scope (.str "law_nt0264_01" 2420) (.ref 1675) .none), #[]⟩ := by kernel_rfl
theorem lw_code (P : Params) : codeIn (K P) (.ref 1675) "law" = true := by kernel_rfl
theorem lw_bind (v : Value) : bindArgs (docDef "law" I1676.p I1676.body I1676.scope (.str "law_nt0264_01" 2420) (.ref 1675) .none) ⟨[v], []⟩ = pure [(("script" : Str), v)] := by kernel_rfl
theorem lw_nodup : ((cellsFrom 0 I1676.scope.names []).map (·.1)).Nodup := by rw [lw_cells]; decide
theorem lw_flags : (I1676.scope.isCoroutine, I1676.scope.isGenerator, I1676.scope.kind == .function) = (false, false, true) := by kernel_rfl
theorem cells_are {cm : Str → Option Value} {cs : List (Str × Addr)} {cells : Ld} (H : CellsAre cm cs cells) : ∀ x a, (x, a) ∈ cs → ∃ o, (a, o) ∈ cells ∧ o.data = .cell (cm x) := by
  induction H with
  | nil => exact fun zz zz h => nomatch h
  | cons hd r ih =>
    intro x a h
    rcases List.mem_cons.mp h with e | h
    · cases e; exact ⟨_, .head _, hd⟩
    · obtain ⟨o, h1, h2⟩ := ih x a h
      exact ⟨o, .tail _ h1, h2⟩
theorem law_call {w : World} {s : Shared} {p : Program} {loose : List Str} {mean : ExcName → Option Value} {mg mb : Str → Option Value} {sc : Addr} {vals : List Value} {xs : List Int} (X : (K w.params).In s.heap) (T : Top p loose mean mg mb s.heap) (on : ∃ o, s.heap.get? 1 = some o)
    (hl : s.heap.IsList sc vals.toArray) (hi : IntsAre vals xs) (hlen : vals.length ≤ 63) {Q E : Value → Shared → Prop} (k : ∀ h tk, (∀ b o, s.heap.get? b = some o → h.get? b = some o) → Q (.bool true) { s with heap := h, toks := tk }) : wpAny (model PW w) callerA (call (.ref 1676) [.ref sc]) Q E s := by
  have fl := lw_flags
  have f1 := congrArg Prod.fst fl
  have f2 := congrArg (fun x => x.2.1) fl
  have f3 := eq_of_beq (congrArg (fun x => x.2.2) fl)
  dsimp only at f1 f2
  walk_at "l"; refine wpAny_call ?_
  walk_at "l"; refine call_cellsN (by decide) (X _ _ (lw_obj w.params)) rfl T.nolimit (codeRec_of X (lw_code _)) (lw_bind _) (fun x hx => ?_) lw_nodup (fun h₁ tk cells F N Y => ?_) f1 f2 f3
  · walk_at "l"; rw [List.mem_singleton.mp hx]; exact .inl script_local
  let L : Addr := s.heap.objs.size
  let env : Env := envOfC "law" I1676.scope L 1676 (.ref 1675)
  have he : env = envX "law" I1676.scope L 1676 (.ref 1675) (lwC (L + 1)) := by
    walk_at "l"; show envX "law" I1676.scope L 1676 (.ref 1675) (cellsFrom (L + 1) I1676.scope.names []) = _
    walk_at "l"; rw [lw_cells]
  let f : Fx := ⟨p, loose, mean, mg, mb, callerA.deeper env, callerA, s.heap, s.heap, [], env, L, fun e s' => wpAny (model PW w) (callerA.deeper env) (leaving env e) (fun zz s'' => E e s'') (fun e' s'' => E e' s'') s'⟩
  have O : FOk (gB w) I1676.scope 90 f := by
    walk_at "l"; refine ⟨⟨below_caller _, X, T, rfl, rfl, f3, rfl, ?_, ?_, ⟨"law", I1676.scope, 1676, .ref 1675, _, rfl⟩, on⟩, ⟨"law", 1676, .ref 1675, _, rfl, fun x sv e => (nomatch e)⟩, PassesOwn.leaving⟩
    · walk_at "l"; show 1 + claimMargin + 1 + 90 < recursionLimit; decide
    · walk_at "l"; show 4 + 3 + 8 * 90 < cLine; decide
  have hm : bindL env.kindOf [(("script" : Str), Value.ref sc)] (fun zz => none) "script" = some (.ref sc) := by
    walk_at "l"; unfold bindL bindL
    walk_at "l"; rw [if_pos (show env.kindOf ("script" : Str) = some .local from script_local)]
    walk_at "l"; rfl
  have hc : ∀ i < 5, Cel cells (L + 1 + i) := by
    rw [lw_cells] at Y
    walk_at "l"; intro i hlt
    have hlt' : @LT.lt Nat _ i 5 := hlt
    have e : ∀ x, (x, L + 1 + i) ∈ lwC (L + 1) → Cel cells (L + 1 + i) := fun x hx => by
      walk_at "e"; obtain ⟨o, h1, h2⟩ := cells_are Y x _ hx
      walk_at "l"; exact ⟨o, _, h1, h2⟩
    have hi : @Eq Nat i 0 ∨ @Eq Nat i 1 ∨ @Eq Nat i 2 ∨ @Eq Nat i 3 ∨ @Eq Nat i 4 := by lia
    walk_at "e"; rcases hi with hi | hi | hi | hi | hi
    · walk_at "l"; refine e "deck" ?_
      walk_at "l"; rw [show i = 0 from hi]
      walk_at "l"; exact .tail _ (.tail _ (.tail _ (.tail _ (.head _))))
    · walk_at "l"; refine e "ways" ?_
      walk_at "l"; rw [show i = 1 from hi]
      walk_at "l"; exact .tail _ (.tail _ (.tail _ (.head _)))
    · walk_at "l"; refine e "table" ?_
      walk_at "l"; rw [show i = 2 from hi]
      walk_at "l"; exact .tail _ (.tail _ (.head _))
    · walk_at "l"; refine e "symbols" ?_
      walk_at "l"; rw [show i = 3 from hi]
      walk_at "l"; exact .tail _ (.head _)
    · walk_at "l"; refine e "is_last" ?_
      walk_at "l"; rw [show i = 4 from hi]
      walk_at "l"; exact .head _
  walk_at "l"; refine wpAny_mono (law_body (g := gB w) (f := f) (s := { s with heap := h₁, toks := tk }) (c := L + 1) O rfl he F N hc hm hl hi hlen) (fun fl s' q => ?_) fun zz zz q => q
  walk_at "e"; obtain ⟨rfl, h, tk', m', R', rfl, F', N'⟩ := q
  walk_at "l"; exact k h tk' F'.keep
end NT
end
section
open PySem PySem.W PySem.Calls PyProof.Rows
namespace NT
set_option tactic.hygienic true in
theorem list_args {P : Params} {cl : Str → Option Addr} {h : Heap} {vals : List Value} {args : List WData} {as : List Addr} (hpre : PySem.Challenge.rw_nt0264_01.row.toRowW.claim.pre args = true) (hlay : WData.layableAll args = true)
    (hrd : ReadsAllW [] cl h vals args as) (hwl : WellAll P h vals args) (hlo : ∀ a ∈ as, (a == sysModules) = false) : ∃ sc its xs, vals = [.ref sc] ∧ h.IsList sc its.toArray ∧ IntsAre its xs ∧ its.length ≤ 63 := by
  wrow_args hpre hlay hrd hwl hlo
  rename_i w _ _ _ _ _ _ _ a vs _ hL _ _ _ hI _ hc _
  walk_at "l"; refine ⟨a, vs, w, rfl, hL, hI, ?_⟩
  have := hI.length
  walk_at "l"; lia
theorem sm_glob : ∀ P : Params, (globalOf (small P) "law", p264.theDef "law", opensWell p264) = (some (.ref 1676), some (I1676.p, I1676.body, I1676.scope), true) := by intro P; kernel_rfl
theorem lw_dflt : (I1676.p.defaults.isEmpty, kwWritten? I1676.p.kwonlyargs I1676.p.kw_defaults) = (true, some []) := by kernel_rfl
theorem law_pin {w : World} {h : Heap} (R : Ready0 w h) (g : globalOf h "law" = some (.ref 1676)) : isTheDefsW p264 h "law" := by
  have e := sm_glob w.params
  have e2 := congrArg (fun x => x.2.1) e
  dsimp only at e2
  have d := lw_dflt
  have d1 : I1676.p.defaults = [] := List.isEmpty_iff.mp (congrArg Prod.fst d :)
  have d2 : kwWritten? _ _ = some [] := congrArg Prod.snd d
  walk_at "l"; exact ⟨1676, _, _, _, _, _, g, R.K _ _ (lw_obj w.params), rfl, e2, rfl, rfl, rfl, rfl, rfl, rfl, rfl, rfl, .inl ⟨d1, rfl⟩, [], d2, .inl ⟨rfl, rfl⟩⟩
end NT
end
section
open PySem PySem.W PySem.Calls PyProof.Rows
namespace NT
theorem sm_fits (P : Params) : ((small P).get? 1).isSome = true ∧ ((small P).get? sysModules).isSome = true := ⟨by kernel_rfl, by kernel_rfl⟩
theorem post264 (args : List WData) : PySem.Challenge.rw_nt0264_01.row.toRowW.claim.post args (.bool true) args = true := by kernel_rfl
theorem raises264 (args : List WData) (cls : ExcName) : PySem.Challenge.rw_nt0264_01.row.toRowW.claim.raises args cls = false := rfl
theorem ident264 (a b : List Whence) : PySem.Challenge.rw_nt0264_01.row.toRowW.claim.ident a b = true := ident_freeW rfl rfl rfl a b
theorem opens264 : opensWell p264 = true := by kernel_rfl
theorem row264 (hw : PySem.Challenge.rw_nt0264_01.row.toRowW.promised) : PySem.Challenge.rw_nt0264_01.row.toRowW.claim.HoldsOpenBy (callStub "law") ["law"] PySem.Challenge.rw_nt0264_01.row.keeps false := by
  have bare : p264.bare := ⟨rfl, rfl, rfl, rfl, rfl, by kernel_rfl⟩
  walk_at "l"; refine ⟨⟨bare, opens264, rfl⟩, hw.witness, fun w => ⟨(behind264 w).1, fun s' hs' => ?_⟩⟩
  walk_at "e"; obtain ⟨s₀, hf, hg0, s, hT, hz, hgens, RD⟩ := (behind264 w).2 s' hs'
  have an3 := congrArg (fun x => x.1) (sm_glob w.params)
  dsimp only at an3
  walk_at "e"; obtain ⟨g1, g2, g3⟩ := sm_get w.params
  have eG : globalOf s.heap "law" = some (.ref 1676) := (gl_same ((RD.sub _ _ g1).trans g1.symm) _).trans an3
  walk_at "e"; obtain ⟨f1, f2⟩ := sm_fits w.params
  walk_at "e"; obtain ⟨o1, f1⟩ := Option.isSome_iff_exists.mp f1
  walk_at "e"; obtain ⟨o2, f2⟩ := Option.isSome_iff_exists.mp f2
  have low : sysModules < s.heap.objs.size := Heap.lt_size (RD.sub _ _ f2)
  walk_at "l"; refine ⟨s₀, hf, hg0, s, hT, fun n hn => ?_, fun x hx => (nomatch hx), fun x hx => (nomatch hx), ?_⟩
  · walk_at "l"; rw [List.mem_singleton.mp hn]; exact law_pin RD eG
  walk_at "l"; refine ClaimW.callFrom_of_specN (c := PySem.Challenge.rw_nt0264_01.row.toRowW.claim) (tree := fun vs => (callStub "law" vs).cur) hz (by rw [hgens]; kernel_rfl) fun args hpre hlay ord hord => ?_
  walk_at "e"; obtain ⟨⟨vs, s₁⟩, hlaid⟩ := Option.isSome_iff_exists.mp (layAllW_isSome (R := []) (cl := classAt s.heap) (P := w.params) (ord := ord) (fun c hc => Bool.noConfusion (show false = true from hc)) args PySem.Challenge.rw_nt0264_01.row.args s (pre_splitW hpre).1)
  have keeps := layAllW_keeps _ _ _ hlaid
  have hal := layAllW_rest _ _ _ hlaid
  walk_at "e"; obtain ⟨as, hrd, hin, hold⟩ := reads_layAllW hord _ _ _ hlaid hlay s₁.heap (fun zz zz e => e)
  walk_at "e"; obtain ⟨sc, its, xs, rfl, hl, hi, hlen⟩ := list_args hpre hlay hrd (well_layAllW hord args s _ hlaid _ fun zz zz e => e)
    (fun a ha => beq_eq_false_iff_ne.mpr fun e => by have := (hin.2.2 a ha).1; subst e; exact absurd low (Nat.not_lt.mpr this))
  have T1 := RD.T.keeps keeps
  walk_at "l"; refine ⟨_, s₁, hlaid, ?_⟩
  walk_at "l"; show wpAny (model PW w) callerA (do match ← nsGet mainNs "law" with
      | some f => do ret (← call f [.ref sc])
      | none => unsupported "claim.caller:no-such-global") _ _ _
  walk_at "l"; refine wpAny_bind (wpAny_nsGet T1.g ?_)
  walk_at "l"; rw [sm_law]
  walk_at "l"; refine wpAny_bind (law_call (s := { s₁ with gens := #[] }) (RD.K.keeps keeps) T1 ⟨_, keeps _ _ (RD.sub _ _ f1)⟩ hl hi hlen fun h tk hk => wpAny_pure ?_)
  have G : GoodW PySem.Challenge.rw_nt0264_01.row.toRowW.claim (classAt s.heap) (ExcName.means s.heap) args { s₁ with gens := #[] } (.ok (.ret (.bool true))) { s₁ with heap := h, toks := tk, gens := #[] } :=
    ⟨.inl ⟨_, _, [], rfl, raises264 _, .bool true, post264 args, fun zz => ⟨.nil, fun zz q => nomatch q⟩⟩, hk, rfl, rfl⟩
  have z := G.endsN (c := PySem.Challenge.rw_nt0264_01.row.toRowW.claim) rfl rfl ident264 hrd hold hal.2.2.1
  walk_at "l"; exact ⟨_, rfl, z.1, z.2.1, z.2.2, fun q => nomatch q⟩
end NT
end
section
open PySem PySem.W PySem.Calls PyProof.Rows
namespace NT
theorem wit264 : PySem.Challenge.rw_nt0264_01.row.toRowW.promised := ⟨[.list []], by decide +kernel, by decide +kernel⟩
theorem said264 : PySem.Challenge.rw_nt0264_01.wellSaid = true := by
  walk_at "l"; unfold OpenLaw.wellSaid OpenRow.wellSaid OpenRow.partSaid looksOpen
  walk_at "l"; simp only [Bool.and_eq_true]
  walk_at "l"; repeat' (with_reducible refine And.intro ?_ ?_)
  walk_at "l"; all_goals decide +kernel
theorem claim264 : PySem.Challenge.rw_nt0264_01.Holds := holds_law said264 fun said => ⟨said, wit264, row264 wit264⟩
end NT
end
section
theorem PySem.Challenge.cw_nt0264_01_holds : PySem.Challenge.rw_nt0264_01.Holds :=
  NT.claim264
end
