/- A part of the proof of SlipKnown: no condition of its own. -/
import Derived.Conc.CrowdRun
import Derived.Conc.CrowdComm
import Derived.Conc.QuitsD
import Derived.Conc.RecvAny
import Derived.Conc.WrWorld
noncomputable section
namespace Go.Gw
open Go Go.Conc Go.ConcN
def bk : Loc → Option Nat
 | .cell a => some a.block
 | .obj r => some r
 | _ => none
theorem bk_mem {l : Loc} (h : l.isMemory = true) : ∃ b, bk l = some b := by
 cases l <;> simp [Loc.isMemory] at h <;> exact ⟨_, rfl⟩
theorem counts_old {t u : Trace} {k : Nat} (h : k < t.size) : (t ++ u).counts k ↔ t.counts k := by
 unfold Trace.counts
 rw [act?_old h, heard_old h]
def OkT (Mi : Nat → Prop) (Ri : Addr → Prop) (S T : Nat → Nat → Prop) (i : Nat) (x : Touch) : Prop :=
 (∃ b, bk x.loc = some b ∧ Mi b) ∨ (∃ a, x.loc = .cell a ∧ Ri a ∧ x.write = false) ∨ (∃ b, bk x.loc = some b ∧ T i b ∧ x.kind ≠ .plain ∧ (x.kind = .said → S i b))
structure TI (n sz : Nat) (M : Nat → Nat → Prop) (R : Nat → Addr → Prop) (S T : Nat → Nat → Prop) (acc : Nat → Nat) (t : Trace) : Prop where
 mine : ∀ i b, M i b → ∀ k x, touchAt t k = some x → bk x.loc = some b → Knows t i k
 ro : ∀ i a, R i a → ∀ k x, touchAt t k = some x → x.loc = .cell a → x.write = true → Knows t i k
 sh : ∀ i b p, T i b → S p b → ∀ k x, touchAt t k = some x → bk x.loc = some b → Knows t i k ∨ (x.kind ≠ .plain ∧ (x.kind = .said → t.g? k = some p))
 nr : ∀ said, ¬ Race said t
 gs : ∀ (k : Nat) (op : MemOp), t[k]? = some op → op.g < n
 lt : ∀ k x b, touchAt t k = some x → bk x.loc = some b → b < sz
 tot : ∀ k g, t.g? k = some g → t.counts k → Knows t (acc g) k
structure Lie (sz : Nat) (M : Nat → Nat → Prop) (R : Nat → Addr → Prop) (S T : Nat → Nat → Prop) : Prop where
 mm : ∀ i j b, M i b → M j b → i = j
 ml : ∀ i b, M i b → b < sz
 ms : ∀ i p b, M i b → ¬ S p b
 rl : ∀ i a, R i a → a.block < sz
 rm : ∀ i j a, R i a → ¬ M j a.block
 rs : ∀ i p a, R i a → ¬ S p a.block
 ss : ∀ p q b, S p b → S q b → p = q
 sl : ∀ p b, S p b → b < sz
 ts : ∀ i b, T i b → ∃ p, S p b
section
variable {n sz : Nat} {M : Nat → Nat → Prop} {R : Nat → Addr → Prop} {S T : Nat → Nat → Prop} {acc : Nat → Nat} {t u : Trace}
theorem TI.freeze {M' : Nat → Nat → Prop} {R' : Nat → Addr → Prop} {S' T' : Nat → Nat → Prop} (h : TI n sz M R S T acc t)
  (hM : ∀ i b, M' i b → M i b) (hR : ∀ i a, R' i a → R i a ∨ M i a.block) (hS : ∀ i b p, T' i b → S' p b → (T i b ∧ S p b) ∨ M i b) : TI n sz M' R' S' T' acc t :=
 ⟨fun i b hb => h.mine i b (hM i b hb), fun i a ha k x hx hl hw => (hR i a ha).elim (fun r => h.ro i a r k x hx hl hw) (fun m => h.mine i _ m k x hx (by rw [hl]; rfl)),
  fun i b p hb hp k x hx hxb => (hS i b p hb hp).elim (fun e => h.sh i b p e.1 e.2 k x hx hxb) (fun m => .inl (h.mine i b m k x hx hxb)), h.nr, h.gs, h.lt, h.tot⟩
theorem TI.step (h : TI n sz M R S T acc t) (L : Lie sz M R S T) {i sz' : Nat} (hi : i < n) (hsz : sz ≤ sz') (hacc : acc i = i ∨ ∀ op ∈ u, op.act.touch? = none)
  (hu : ∀ op ∈ u, op.g = i ∧ ∀ x, op.act.touch? = some x → OkT (fun b => M i b ∨ (sz ≤ b ∧ b < sz')) (R i) S T i x) :
  TI n sz' (fun j b => M j b ∨ (j = i ∧ sz ≤ b ∧ b < sz')) R S T acc (t ++ u) := by
 have hg : ∀ op ∈ u, op.g = i := fun op ho => (hu op ho).1
 have split : ∀ {k : Nat} {x : Touch}, touchAt (t ++ u) k = some x → (k < t.size ∧ touchAt t k = some x) ∨ (∃ op, (t ++ u)[k]? = some op ∧ op ∈ u ∧ op.act.touch? = some x) := by
  intro k x hx
  obtain ⟨op, ho, hox⟩ := touch_of hx
  rcases getElem?_append_cases ho with ⟨hk, ho'⟩ | ⟨_, hou⟩
  ·exact .inl ⟨hk, by rw [touchAt_of ho']; exact hox⟩
  ·exact .inr ⟨op, ho, hou, hox⟩
 refine ⟨?_, ?_, ?_, ?_, ?_, ?_, ?_⟩
 ·intro j b hb k x hx hxb
  rcases split hx with ⟨_, hx'⟩ | ⟨op, ho, hou, hox⟩
  ·rcases hb with hb | ⟨rfl, hb, _⟩
   ·exact (h.mine j b hb k x hx' hxb).app u
   ·have := h.lt k x b hx' hxb; omega
  ·by_cases hj : j = i
   ·subst hj; rw [← hg op hou]; exact knows_own ho
   ·exfalso
    have hb : M j b := hb.elim id fun e => absurd e.1 hj
    rcases (hu op hou).2 x hox with ⟨b', hb', hM | hn⟩ | ⟨a, ha, hR, _⟩ | ⟨b', hb', hT, _⟩
    ·rw [hxb] at hb'; cases hb'; exact hj (L.mm _ _ _ hb hM)
    ·rw [hxb] at hb'; cases hb'; have := L.ml _ _ hb; omega
    ·rw [ha] at hxb; simp only [bk, Option.some.injEq] at hxb; subst hxb; exact L.rm _ _ _ hR hb
    ·rw [hxb] at hb'; cases hb'; obtain ⟨p, hp⟩ := L.ts _ _ hT; exact L.ms _ _ _ hb hp
 ·intro j a ha k x hx hxl hxw
  rcases split hx with ⟨_, hx'⟩ | ⟨op, ho, hou, hox⟩
  ·exact (h.ro j a ha k x hx' hxl hxw).app u
  ·exfalso
   rcases (hu op hou).2 x hox with ⟨b', hb', hM | hn⟩ | ⟨a', ha', _, hw⟩ | ⟨b', hb', hT, _⟩
   ·rw [hxl] at hb'; simp only [bk, Option.some.injEq] at hb'; subst hb'; exact L.rm _ _ _ ha hM
   ·rw [hxl] at hb'; simp only [bk, Option.some.injEq] at hb'; subst hb'; have := L.rl _ _ ha; omega
   ·rw [hxw] at hw; cases hw
   ·rw [hxl] at hb'; simp only [bk, Option.some.injEq] at hb'; subst hb'; obtain ⟨p, hp⟩ := L.ts _ _ hT; exact L.rs _ _ _ ha hp
 ·intro j b p hb hp k x hx hxb
  rcases split hx with ⟨hk, hx'⟩ | ⟨op, ho, hou, hox⟩
  ·rcases h.sh j b p hb hp k x hx' hxb with h1 | ⟨h1, h2⟩
   ·exact .inl (h1.app u)
   ·exact .inr ⟨h1, fun e => by rw [g?_old hk]; exact h2 e⟩
  ·rcases (hu op hou).2 x hox with ⟨b', hb', hM | hn⟩ | ⟨a', ha', hR, _⟩ | ⟨b', hb', hT, hk, hS⟩
   ·rw [hxb] at hb'; cases hb'; exact absurd hp (L.ms _ _ _ hM)
   ·rw [hxb] at hb'; cases hb'; have := L.sl _ _ hp; omega
   ·rw [ha'] at hxb; simp only [bk, Option.some.injEq] at hxb; subst hxb; exact absurd hp (L.rs _ _ _ hR)
   ·rw [hxb] at hb'; cases hb'
    refine .inr ⟨hk, fun e => ?_⟩
    rw [L.ss _ _ _ hp (hS e), Trace.g?, ho, Option.map_some, hg op hou]
 ·intro said
  refine noRace_append (h.nr said) hg (fun k a ha op hou x hox hc => ?_)
  obtain ⟨hloc, hmem, hw, hkind⟩ := hc
  obtain ⟨b, hb⟩ := bk_mem hmem
  rcases (hu op hou).2 x hox with ⟨b', hb', hM | hn⟩ | ⟨a', ha', hR, hxw⟩ | ⟨b', hb', hT, hk, hS⟩
  ·rw [← hloc, hb] at hb'; cases hb'
   exact h.mine i b hM k a ha hb
  ·rw [← hloc, hb] at hb'; cases hb'
   have := h.lt k a b ha hb; omega
  ·have haw : a.write = true := hw.resolve_right (by rw [hxw]; simp)
   exact h.ro i a' hR k a ha (hloc.trans ha') haw
  ·rw [← hloc, hb] at hb'; cases hb'
   obtain ⟨p, hp⟩ := L.ts _ _ hT
   rcases h.sh i b p hT hp k a ha hb with h1 | ⟨h1, h2⟩
   ·exact h1
   ·rcases hkind with e | e | ⟨_, e1, e2⟩
    ·exact absurd e h1
    ·exact absurd e hk
    ·have hki := h2 e1
     have := L.ss _ _ _ hp (hS e2)
     subst this
     obtain ⟨op', ho', _⟩ := touch_of ha
     rw [Trace.g?, ho', Option.map_some, Option.some.injEq] at hki
     rw [← hki]; exact knows_own ho'
 ·intro k op ho
  rcases getElem?_append_cases ho with ⟨_, ho'⟩ | ⟨_, hou⟩
  ·exact h.gs k op ho'
  ·rw [hg op hou]; exact hi
 ·intro k x b hx hxb
  rcases split hx with ⟨_, hx'⟩ | ⟨op, ho, hou, hox⟩
  ·exact Nat.lt_of_lt_of_le (h.lt k x b hx' hxb) hsz
  ·rcases (hu op hou).2 x hox with ⟨b', hb', hM | hn⟩ | ⟨a', ha', hR, _⟩ | ⟨b', hb', hT, hk, hS⟩
   ·rw [hxb] at hb'; cases hb'; exact Nat.lt_of_lt_of_le (L.ml _ _ hM) hsz
   ·rw [hxb] at hb'; cases hb'; exact hn.2
   ·rw [ha'] at hxb; simp only [bk, Option.some.injEq] at hxb; subst hxb; exact Nat.lt_of_lt_of_le (L.rl _ _ hR) hsz
   ·rw [hxb] at hb'; cases hb'; obtain ⟨p, hp⟩ := L.ts _ _ hT; exact Nat.lt_of_lt_of_le (L.sl _ _ hp) hsz
 ·intro k g hkg hc
  rcases Nat.lt_or_ge k t.size with hk | hk
  ·rw [g?_old hk] at hkg
   exact (h.tot k g hkg ((counts_old hk).1 hc)).app u
  ·obtain ⟨op, ho, hog⟩ := Option.map_eq_some_iff.1 hkg
   rcases getElem?_append_cases ho with ⟨hk', _⟩ | ⟨_, hou⟩
   ·omega
   ·rcases hacc with hacc | hacc
    ·have e : g = i := by rw [← hog]; exact hg op hou
     subst e
     rw [hacc]
     have := knows_own ho
     rwa [hg op hou] at this
    ·exfalso
     obtain ⟨x, hx, _⟩ := hc
     obtain ⟨op', ho', hox⟩ := touch_of hx
     rw [ho] at ho'; cases ho'
     rw [hacc op hou] at hox; cases hox
theorem TI.same (h : TI n sz M R S T acc t) (L : Lie sz M R S T) {i : Nat} (hi : i < n) (hacc : acc i = i ∨ ∀ op ∈ u, op.act.touch? = none)
  (hu : ∀ op ∈ u, op.g = i ∧ ∀ x, op.act.touch? = some x → OkT (M i) (R i) S T i x) : TI n sz M R S T acc (t ++ u) :=
 (h.step L hi (Nat.le_refl sz) hacc fun op ho => ⟨(hu op ho).1, fun x hx => ((hu op ho).2 x hx).imp (fun ⟨b, e1, e2⟩ => ⟨b, e1, .inl e2⟩) id⟩).freeze (fun _ _ hb => .inl hb) (fun _ _ => .inl) (fun _ _ _ a b => .inl ⟨a, b⟩)
theorem TI.quiet (h : TI n sz M R S T acc t) {i : Nat} (hi : i < n) (hu : ∀ op ∈ u, op.g = i ∧ op.act.touch? = none) : TI n sz M R S T acc (t ++ u) := by
 have old : ∀ {k : Nat} {x : Touch}, touchAt (t ++ u) k = some x → touchAt t k = some x := by
  intro k x hx
  obtain ⟨op, ho, hox⟩ := touch_of hx
  rcases getElem?_append_cases ho with ⟨hk, ho'⟩ | ⟨_, hou⟩
  ·rw [touchAt_of ho']; exact hox
  ·rw [(hu op hou).2] at hox; cases hox
 have lt : ∀ {k : Nat} {x : Touch}, touchAt t k = some x → k < t.size := fun hx => by
  obtain ⟨op, ho, _⟩ := touch_of hx
  exact lt_size_of_getElem? ho
 refine ⟨fun i b hb k x hx hxb => (h.mine i b hb k x (old hx) hxb).app u, fun i a ha k x hx hl hw => (h.ro i a ha k x (old hx) hl hw).app u, fun i b p hb hp k x hx hxb => ?_, fun said => ?_, fun k op ho => ?_, fun k x b hx hxb => h.lt k x b (old hx) hxb, fun k g hkg hc => ?_⟩
 ·rcases h.sh i b p hb hp k x (old hx) hxb with h1 | ⟨h1, h2⟩
  ·exact .inl (h1.app u)
  ·exact .inr ⟨h1, fun e => by rw [g?_old (lt (old hx))]; exact h2 e⟩
 ·exact noRace_append (h.nr said) (fun op ho => (hu op ho).1) (fun k a _ op hou x hox _ => by rw [(hu op hou).2] at hox; cases hox)
 ·rcases getElem?_append_cases ho with ⟨_, ho'⟩ | ⟨_, hou⟩
  ·exact h.gs k op ho'
  ·rw [(hu op hou).1]; exact hi
 ·have hc' := hc
  obtain ⟨x, hx, _⟩ := hc'
  have hk := lt (old hx)
  rw [g?_old hk] at hkg
  exact (h.tot k g hkg ((counts_old hk).1 hc)).app u
theorem fork_knows' {t : Trace} {p c : Nat} {x y : MemOp} (hx : x.g = p ∧ x.act = .go c) (hy : y.g = c ∧ y.act = .start) (h0 : Deaf t p = 0) (hk : Deaf t c = 0) {i : Nat} (h : Knows t p i) : Knows (t ++ #[x, y]) c i := by
 have hxp : (t ++ #[x, y])[t.size]? = some x := by rw [Array.getElem?_append_right (Nat.le_refl _)]; simp
 have hyp : (t ++ #[x, y])[t.size + 1]? = some y := by rw [Array.getElem?_append_right (by omega)]; simp
 have h1 : HappensBefore (t ++ #[x, y]) i t.size := h.hb_new (Nat.le_refl _) hxp hx.1
 have e0 : (t ++ #[x, y]).heard t.size := ⟨p, by simp [Trace.g?, hx.1], by rw [deaf_old (Nat.le_refl _)]; exact h0⟩
 have e1 : (t ++ #[x, y]).heard (t.size + 1) := ⟨c, by simp [Trace.g?, hy.1], by rw [deaf_succ hxp, deaf_old (Nat.le_refl _)]; simp only [deafStep, hx.2]; exact hk⟩
 exact ⟨t.size + 1, y, hyp, hy.1, .inr (h1.trans (.single (.inr ⟨.spawn (child := c) (by rw [act?_of hxp, hx.2]) (by rw [act?_of hyp, hy.2]) (by simp [Trace.g?, hy.1]), e0, e1⟩)))⟩
theorem TI.spawn (h : TI n sz M R S T acc t) {p : Nat} (hp : p < n) {x y : MemOp} (hx : x.g = p ∧ x.act = .go n) (hy : y.g = n ∧ y.act = .start) (h0 : Deaf t p = 0)
  {R' : Nat → Addr → Prop} {T' : Nat → Nat → Prop} (hM : ∀ b, ¬ M n b) (hR : ∀ i a, R' i a → R i a ∨ (i = n ∧ R p a)) (hT : ∀ i b, T' i b → T i b ∨ (i = n ∧ T p b)) :
  TI (n + 1) sz M R' S T' acc (t ++ #[x, y]) := by
 have hk : Deaf t n = 0 := Deaf_absent fun i op hi e => by have := h.gs i op hi; omega
 have hnt : ∀ op ∈ #[x, y], ∀ b, op.act.touch? = some b → False := by
  intro op hop b hb
  simp only [List.mem_toArray, List.mem_cons, List.not_mem_nil, or_false] at hop
  rcases hop with rfl | rfl
  ·rw [hx.2] at hb; cases hb
  ·rw [hy.2] at hb; cases hb
 have old : ∀ {i : Nat} {a : Touch}, touchAt (t ++ #[x, y]) i = some a → i < t.size ∧ touchAt t i = some a := by
  intro i a ha
  obtain ⟨z, hz, hza⟩ := touch_of ha
  rcases getElem?_append_cases hz with ⟨hk, hz'⟩ | ⟨_, hzu⟩
  ·exact ⟨hk, by rw [touchAt_of hz']; exact hza⟩
  ·exact (hnt z hzu a hza).elim
 have kn : ∀ {k : Nat}, Knows t p k → Knows (t ++ #[x, y]) n k := fun hkn => fork_knows' hx hy h0 hk hkn
 refine ⟨fun i b hb k z hz hzb => (h.mine i b hb k z (old hz).2 hzb).app _, fun i a ha k z hz hl hw => ?_, fun i b q hb hq k z hz hzb => ?_, fun said => ?_, fun i op hi => ?_, fun k z b hz hzb => h.lt k z b (old hz).2 hzb, fun k g hkg hc => ?_⟩
 ·rcases hR i a ha with hr | ⟨rfl, hr⟩
  ·exact (h.ro i a hr k z (old hz).2 hl hw).app _
  ·exact kn (h.ro p a hr k z (old hz).2 hl hw)
 ·have side : ∀ {z' : Touch}, (z'.kind ≠ .plain ∧ (z'.kind = .said → t.g? k = some q)) → (z'.kind ≠ .plain ∧ (z'.kind = .said → (t ++ #[x, y]).g? k = some q)) := fun ⟨h1, h2⟩ => ⟨h1, fun e => by rw [g?_old (old hz).1]; exact h2 e⟩
  rcases hT i b hb with hr | ⟨rfl, hr⟩
  ·exact (h.sh i b q hr hq k z (old hz).2 hzb).imp (·.app _) side
  ·exact (h.sh p b q hr hq k z (old hz).2 hzb).imp kn side
 ·have e : t ++ #[x, y] = (t ++ #[x]) ++ #[y] := by apply Array.ext'; simp
  rw [e]
  refine noRace_append (g := n) (noRace_append (g := p) (h.nr said) (fun op hop => by simp at hop; rw [hop]; exact hx.1) (fun i a _ op hop b hb _ => (hnt op (by simp at hop ⊢; exact .inl hop) b hb).elim))
   (fun op hop => by simp at hop; rw [hop]; exact hy.1) (fun i a _ op hop b hb _ => (hnt op (by simp at hop ⊢; exact .inr hop) b hb).elim)
 ·rcases getElem?_append_cases hi with ⟨_, hi'⟩ | ⟨_, hiu⟩
  ·exact Nat.lt_succ_of_lt (h.gs i op hi')
  ·simp only [List.mem_toArray, List.mem_cons, List.not_mem_nil, or_false] at hiu
   rcases hiu with rfl | rfl
   ·rw [hx.1]; omega
   ·rw [hy.1]; omega
 ·have hc' := hc
  obtain ⟨z, hz, _⟩ := hc'
  have hk := (old hz).1
  rw [g?_old hk] at hkg
  exact (h.tot k g hkg ((counts_old hk).1 hc)).app _
structure FT (acc : Nat → Nat) (t : Trace) (j ch s q : Nat) (Rm : Addr → Prop) : Prop where
 act : t.act? q = some (.send ch s)
 g : t.g? q = some j
 heard : t.heard q
 all : ∀ k g, t.g? k = some g → acc g = j → t.counts k → Before t k q
 ro : ∀ a, Rm a → ∀ k x, touchAt t k = some x → x.loc = .cell a → x.write = true → Before t k q
theorem FT.app {j ch s q : Nat} {Rm : Addr → Prop} (h : FT acc t j ch s q Rm) (hc : ∀ k g, t.size ≤ k → (t ++ u).g? k = some g → acc g = j → ¬ (t ++ u).counts k)
  (hr : ∀ op ∈ u, ∀ x, op.act.touch? = some x → ∀ a, Rm a → x.loc = .cell a → x.write = false) : FT acc (t ++ u) j ch s q Rm := by
 have hq : q < t.size := lt_of_act? h.act
 refine ⟨by rw [act?_old hq]; exact h.act, by rw [g?_old hq]; exact h.g, (heard_old hq).2 h.heard, fun k g hg ha hk => ?_, fun a ha k x hx hl hw => ?_⟩
 ·rcases Nat.lt_or_ge k t.size with hlt | hge
  ·rw [g?_old hlt] at hg
   exact (h.all k g hg ha ((counts_old hlt).1 hk)).app u
  ·exact absurd hk (hc k g hge hg ha)
 ·obtain ⟨op, ho, hox⟩ := touch_of hx
  rcases getElem?_append_cases ho with ⟨_, ho'⟩ | ⟨_, hou⟩
  ·exact (h.ro a ha k x (by rw [touchAt_of ho']; exact hox) hl hw).app u
  ·rw [hr op hou x hox a ha hl] at hw; cases hw
theorem FT.new (h : TI n sz M R S T acc t) {j ch s : Nat} {x : MemOp} (hx : x.g = j ∧ x.act = .send ch s) (h0 : Deaf t j = 0) {Rm : Addr → Prop} (hR : ∀ a, Rm a → R j a ∨ M j a.block) : FT acc (t ++ #[x]) j ch s t.size Rm := by
 have hxp : (t ++ #[x])[t.size]? = some x := by simp
 have kn : ∀ {k : Nat}, Knows t j k → Before (t ++ #[x]) k t.size := fun hk => .inr (hk.hb_new (Nat.le_refl _) hxp hx.1)
 have old : ∀ {k : Nat} {z : Touch}, touchAt (t ++ #[x]) k = some z → k < t.size ∧ touchAt t k = some z := by
  intro k z hz
  obtain ⟨op, ho, hoz⟩ := touch_of hz
  rcases getElem?_append_cases ho with ⟨hk, ho'⟩ | ⟨_, hou⟩
  ·exact ⟨hk, by rw [touchAt_of ho']; exact hoz⟩
  ·simp at hou; subst hou; rw [hx.2] at hoz; cases hoz
 refine ⟨by rw [act?_of hxp, hx.2], by simp [Trace.g?, hx.1], ⟨j, by simp [Trace.g?, hx.1], by rw [deaf_old (Nat.le_refl _)]; exact h0⟩, fun k g hg ha hc => ?_, fun a ha k z hz hl hw => ?_⟩
 ·have hc' := hc
  obtain ⟨z, hz, _⟩ := hc'
  have hk := (old hz).1
  rw [g?_old hk] at hg
  have := h.tot k g hg ((counts_old hk).1 hc)
  rw [ha] at this
  exact kn this
 ·exact kn ((hR a ha).elim (fun r => h.ro j a r k z (old hz).2 hl hw) (fun m => h.mine j _ m k z (old hz).2 (by rw [hl]; rfl)))
theorem TI.absorb (h : TI n sz M R S T acc t) {j p ch s q : Nat} {Rm : Addr → Prop} (f : FT acc t j ch s q Rm) {z : MemOp} (hp : p < n) (hz : z.g = p ∧ z.act = .recvDone ch s) (h0 : Deaf t p = 0)
  {acc' : Nat → Nat} (ha : ∀ g, acc' g = if acc g = j then p else acc g) {R' : Nat → Addr → Prop} (hR : ∀ i a, R' i a → R i a ∨ (i = p ∧ Rm a)) : TI n sz M R' S T acc' (t ++ #[z]) := by
 have h' := h.quiet (u := #[z]) hp (by intro op hop; simp at hop; subst hop; exact ⟨hz.1, by rw [hz.2]; rfl⟩)
 have hzp : (t ++ #[z])[t.size]? = some z := by simp
 have hq : q < t.size := lt_of_act? f.act
 have edge : HappensBefore (t ++ #[z]) q t.size := .single (.inr ⟨.handOver (c := ch) (k := s) (by rw [act?_old hq]; exact f.act) (by rw [act?_of hzp, hz.2]), (heard_old hq).2 f.heard, ⟨p, by simp [Trace.g?, hz.1], by rw [deaf_old (Nat.le_refl _)]; exact h0⟩⟩)
 have kn : ∀ {k : Nat}, Before t k q → Knows (t ++ #[z]) p k := fun hk => ⟨t.size, z, hzp, hz.1, .inr ((hk.app _).hb edge)⟩
 have old : ∀ {k : Nat} {x : Touch}, touchAt (t ++ #[z]) k = some x → k < t.size ∧ touchAt t k = some x := by
  intro k x hx
  obtain ⟨op, ho, hox⟩ := touch_of hx
  rcases getElem?_append_cases ho with ⟨hk, ho'⟩ | ⟨_, hou⟩
  ·exact ⟨hk, by rw [touchAt_of ho']; exact hox⟩
  ·simp at hou; subst hou; rw [hz.2] at hox; cases hox
 refine ⟨h'.mine, fun i a hi k x hx hl hw => ?_, h'.sh, h'.nr, h'.gs, h'.lt, fun k g hg hc => ?_⟩
 ·rcases hR i a hi with hr | ⟨rfl, hr⟩
  ·exact h'.ro i a hr k x hx hl hw
  ·exact kn (f.ro a hr k x (old hx).2 hl hw)
 ·rw [ha g]
  by_cases e : acc g = j
  ·rw [if_pos e]
   have hc' := hc
   obtain ⟨x, hx, _⟩ := hc'
   have hk := (old hx).1
   rw [g?_old hk] at hg
   exact kn (f.all k g hg e ((counts_old hk).1 hc))
  ·rw [if_neg e]; exact h'.tot k g hg hc
theorem FT.reck {acc' : Nat → Nat} {j ch s q : Nat} {Rm : Addr → Prop} (h : FT acc t j ch s q Rm) (ha : ∀ g, acc' g = j → acc g = j) : FT acc' t j ch s q Rm :=
 ⟨h.act, h.g, h.heard, fun k g hg e => h.all k g hg (ha g e), h.ro⟩
end
end Go.Gw
namespace Go.Gw
open Go Go.Conc Go.ConcN
open Go.ConcR (KK wgBlock WgAt stA smA)
structure Spec where
 ok : Value → (Addr → Prop) → World → Prop
 keep : ∀ v (R : Addr → Prop) w w', (∀ a, R a → w'.cell? a = w.cell? a ∧ w'.shape? a.block = w.shape? a.block) → ok v R w → ok v R w'
inductive KPh where
 | cnt | k1 | k2 | k3
 deriving DecidableEq
inductive PPh where
 | idle (mx : Nat) | pend (mx : Nat) | w2 (vs : Nat) | reg | w4 | fin
 deriving DecidableEq
structure Grp where
 ch : Nat
 cap : Nat
 kids : List Spec
 wg : Option (Nat × PPh)
 closed : Bool
structure Ctx where
 M : Nat → Prop
 R : Addr → Prop
 d : Nat
 send : Option (Nat × Spec)
 dec : Option (Nat × KPh)
 grp : Option Grp
structure Rely (c : Ctx) (w w₁ : World) : Prop where
 tape : w₁.tape = w.tape
 os : w₁.os = w.os
 output : w₁.output = w.output
 size : w.heap.size ≤ w₁.heap.size
 shape : ∀ b, b < w.heap.size → w₁.shape? b = w.shape? b
 mine : ∀ b, c.M b → w₁.heap[b]? = w.heap[b]?
 ro : ∀ a, c.R a → w₁.heap[a.block]? = w.heap[a.block]?
theorem Rely.roc {c : Ctx} {w w₁ : World} (h : Rely c w w₁) (a : Addr) (ha : c.R a) : w₁.cell? a = w.cell? a := by simp only [World.cell?, h.ro a ha]
theorem Rely.refl (c : Ctx) (w : World) : Rely c w w := ⟨rfl, rfl, rfl, Nat.le_refl _, fun _ _ => rfl, fun _ _ => rfl, fun _ _ => rfl⟩
theorem Rely.trans {c : Ctx} {w w₁ w₂ : World} (h : Rely c w w₁) (h' : Rely c w₁ w₂) : Rely c w w₂ :=
 ⟨h'.tape.trans h.tape, h'.os.trans h.os, h'.output.trans h.output, Nat.le_trans h.size h'.size, fun b hb => (h'.shape b (Nat.lt_of_lt_of_le hb h.size)).trans (h.shape b hb),
  fun b hb => (h'.mine b hb).trans (h.mine b hb), fun a ha => (h'.ro a ha).trans (h.ro a ha)⟩
theorem Rely.at (c : Ctx) (w : World) (d : Nat) : Rely c w (w.at d) := ⟨rfl, rfl, rfl, Nat.le_refl _, fun _ _ => rfl, fun _ _ => rfl, fun _ _ => rfl⟩
theorem Rely.sub {c c' : Ctx} {w w₁ : World} (h : Rely c w w₁) (hM : ∀ b, c'.M b → c.M b) (hR : ∀ a, c'.R a → c.R a) : Rely c' w w₁ :=
 ⟨h.tape, h.os, h.output, h.size, h.shape, fun b hb => h.mine b (hM b hb), fun a ha => h.ro a (hR a ha)⟩
structure Guar (c : Ctx) (M' : Nat → Prop) (R' : Addr → Prop) (w₁ w' : World) : Prop where
 tape : w'.tape = w₁.tape
 os : w'.os = w₁.os
 output : w'.output = w₁.output
 size : w₁.heap.size ≤ w'.heap.size
 shape : ∀ b, b < w₁.heap.size → w'.shape? b = w₁.shape? b
 keep : ∀ b, b < w₁.heap.size → ¬ c.M b → w'.heap[b]? = w₁.heap[b]?
 mine : ∀ b, M' b → b < w'.heap.size ∧ (c.M b ∨ w₁.heap.size ≤ b)
 more : ∀ a, c.R a → R' a
 ro : ∀ a, R' a → c.R a ∨ (a.block < w'.heap.size ∧ (c.M a.block ∨ w₁.heap.size ≤ a.block) ∧ ¬ M' a.block)
def Foot (c : Ctx) (w₁ w' : World) (es : Array Event) : Prop :=
 ∀ e ∈ es, ∀ x, (MemAct.ofEvent e).touch? = some x → (∃ b, bk x.loc = some b ∧ (c.M b ∨ (w₁.heap.size ≤ b ∧ b < w'.heap.size))) ∨ (∃ a, x.loc = .cell a ∧ c.R a ∧ x.write = false)
def Book (b : Nat) (es : Array Event) : Prop :=
 ∀ e ∈ es, ∀ x, (MemAct.ofEvent e).touch? = some x → bk x.loc = some b ∧ x.kind ≠ .plain
def BookK (b d : Nat) (es : Array Event) : Prop :=
 ∀ j e, es[j]? = some e → (MemAct.ofEvent e).touch? = none ∨ (∃ x, (MemAct.ofEvent e).touch? = some x ∧ bk x.loc = some b ∧ x.kind = .atomic ∧ 0 < deafBehind d (es.extract 0 j))
def Apart (c : Ctx) (b : Nat) : Prop := ¬ c.M b ∧ ∀ x, c.R x → x.block ≠ b
def Grp.drop (G : Grp) (k : Nat) : Grp := { G with kids := G.kids.eraseIdx k }
def Grp.ph (G : Grp) (a : Nat) (p : PPh) : Grp := { G with wg := some (a, p) }
structure Nx where
 g : Goroutine
 w : World
 es : Array Event
 M : Nat → Prop := fun _ => False
 R : Addr → Prop := fun _ => False
 child : Goroutine := default
 sp : Spec := ⟨fun _ _ _ => True, fun _ _ _ _ _ _ => trivial⟩
 v : Value := .nilFunc
 z : Value := .nilFunc
 okb : Bool := false
inductive W (P : Program) (ty : TypeId) (Post : Value → World → Prop) : Bool → Nat → Ctx → Goroutine → World → Prop
 | priv {main : Bool} {n : Nat} {c : Ctx} {g : Goroutine} {w : World} (N : World → Nx) (hs : g.status = .running) (hb : main = true ∨ c.send ≠ none ∨ (c.dec ≠ none ∧ ∀ w₁, Rely c w w₁ → ∀ e ∈ (N w₁).es, (MemAct.ofEvent e).touch? = none))
   (h : ∀ w₁, Rely c w w₁ → stepG P main g w₁ = .go (N w₁).g (N w₁).w (N w₁).es ∧ (N w₁).g.status = .running ∧ Guar c (N w₁).M (N w₁).R w₁ (N w₁).w ∧ Foot c w₁ (N w₁).w (N w₁).es)
   (k : ∀ w₁, Rely c w w₁ → W P ty Post main n { c with M := (N w₁).M, R := (N w₁).R, d := deafBehind c.d (N w₁).es } (N w₁).g (N w₁).w) : W P ty Post main (n + 1) c g w
 | spawn {main : Bool} {n n₁ n₂ : Nat} {c : Ctx} {g : Goroutine} {w : World} (N : World → Nx) {G : Grp} {wg' : Option (Nat × PPh)} (hs : g.status = .running) (hn : n₁ + n₂ ≤ n) (hd : c.d = 0) (hG : c.grp = some G) (hcl : G.closed = false) (hcap : G.cap = 0 ∨ G.kids.length < G.cap)
   (hwg : G.wg = none ∧ wg' = none ∨ ∃ a mx, G.wg = some (a, .pend mx) ∧ wg' = some (a, .idle mx))
   (h : ∀ w₁, Rely c w w₁ → stepG P main g w₁ = .spawn (N w₁).g (N w₁).child w₁ (N w₁).es ∧ (N w₁).g.status = .running ∧ (N w₁).child.status = .running ∧ Guar c (N w₁).M (N w₁).R w₁ w₁ ∧ Foot c w₁ w₁ (N w₁).es ∧ deafBehind 0 (N w₁).es = 0)
   (k₁ : ∀ w₁, Rely c w w₁ → W P ty Post main n₁ { c with M := (N w₁).M, R := (N w₁).R, grp := some { G with kids := G.kids ++ [(N w₁).sp], wg := wg' } } (N w₁).g w₁)
   (k₂ : ∀ w₁, Rely c w w₁ → W P ty Post false n₂ { M := fun _ => False, R := (N w₁).R, d := 0, send := some (G.ch, (N w₁).sp), dec := G.wg.map fun x => (x.1, .cnt), grp := none } (N w₁).child w₁) : W P ty Post main (n + 1) c g w
 | send {n : Nat} {c : Ctx} {g : Goroutine} {w : World} (N : World → Nx) {ch : Nat} {sp : Spec} (hs : g.status = .running) (hd : c.d = 0) (hsend : c.send = some (ch, sp)) (hG : c.grp = none)
   (h : ∀ w₁, Rely c w w₁ → stepG P false g w₁ = .comm (N w₁).g #[scase ch (N w₁).v (N w₁).z] true .send w₁ (N w₁).es ∧ Foot c w₁ w₁ (N w₁).es ∧ deafBehind 0 (N w₁).es = 0 ∧ sp.ok (N w₁).v (N w₁).R w₁ ∧
    (∀ a, (N w₁).R a → a.block < w₁.heap.size ∧ (c.R a ∨ c.M a.block)))
   (k : ∀ w₁, Rely c w w₁ → W P ty Post false n { c with M := fun _ => False, R := fun a => c.R a ∨ (N w₁).R a, send := none } (Conc.served (N w₁).g undef) w₁) : W P ty Post false (n + 1) c g w
 | recv {main : Bool} {n : Nat} {c : Ctx} {g : Goroutine} {w : World} (N : World → Nx) {G : Grp} (hs : g.status = .running) (hd : c.d = 0) (hG : c.grp = some G) (hk : G.kids ≠ []) (hcap : G.cap = 0 ∧ G.closed = false ∨ 0 < G.cap ∧ G.closed = true)
   (h : ∀ w₁, Rely c w w₁ → stepG P main g w₁ = .comm (N w₁).g #[rcase G.ch (N w₁).z] true (.recv (N w₁).okb) w₁ (N w₁).es ∧ Foot c w₁ w₁ (N w₁).es ∧ deafBehind 0 (N w₁).es = 0)
   (k : ∀ w₁, Rely c w w₁ → ∀ (k : Nat) (sp : Spec), G.kids[k]? = some sp → ∀ (v : Value) (Rm : Addr → Prop) (w₂ : World), Rely c w₁ w₂ → sp.ok v Rm w₂ → (∀ a, Rm a → a.block < w₂.heap.size ∧ ¬ c.M a.block) →
    W P ty Post main n { c with R := fun a => c.R a ∨ Rm a, grp := some (G.drop k) } (Conc.served (N w₁).g (Conc.recvd (N w₁).okb v true)) w₂) : W P ty Post main (n + 1) c g w
 | close {main : Bool} {n : Nat} {c : Ctx} {g : Goroutine} {w : World} (N : World → Nx) {G : Grp} {a : Nat} (hs : g.status = .running) (hd : c.d = 0) (hG : c.grp = some G) (hcap : 0 < G.cap) (hwg : G.wg = some (a, .fin)) (hcl : G.closed = false)
   (h : ∀ w₁, Rely c w w₁ → ∀ buf s r, w₁.heap[G.ch]? = some (.chan G.cap buf false s r false) → stepG P main g w₁ = .go (N w₁).g (w₁.setChan G.ch G.cap buf true s r false) (N w₁).es ∧ (N w₁).g.status = .running ∧ Book G.ch (N w₁).es ∧ deafBehind 0 (N w₁).es = 0)
   (k : ∀ w₁, Rely c w w₁ → Apart c G.ch → ∀ buf s r, w₁.heap[G.ch]? = some (.chan G.cap buf false s r false) → W P ty Post main n { c with grp := some { G with closed := true } } (N w₁).g (w₁.setChan G.ch G.cap buf true s r false)) : W P ty Post main (n + 1) c g w
 | over {main : Bool} {n : Nat} {c : Ctx} {g : Goroutine} {w : World} (N : World → Nx) {G : Grp} (hs : g.status = .running) (hd : c.d = 0) (hG : c.grp = some G) (hk : G.kids = []) (hcl : G.closed = true)
   (h : ∀ w₁, Rely c w w₁ → stepG P main g w₁ = .comm (N w₁).g #[rcase G.ch (N w₁).z] true (.recv (N w₁).okb) w₁ (N w₁).es ∧ Foot c w₁ w₁ (N w₁).es ∧ deafBehind 0 (N w₁).es = 0)
   (k : ∀ w₁, Rely c w w₁ → W P ty Post main n c (Conc.served (N w₁).g (Conc.recvd (N w₁).okb (N w₁).z false)) w₁) : W P ty Post main (n + 1) c g w
 | wadd {main : Bool} {n : Nat} {c : Ctx} {g : Goroutine} {w : World} (N : World → Nx) {G : Grp} {a mx : Nat} (hs : g.status = .running) (hG : c.grp = some G) (hwg : G.wg = some (a, .idle mx)) (hd : 0 < c.d) (hmx : mx < 2)
   (h : ∀ w₁, Rely c w w₁ → ∀ v : Nat, v ≤ mx → WgAt ty a w₁ (v * KK) 0 → stepG P main g w₁ = .go (N w₁).g (w₁.setCell (stA a) (.int .u64 ((v + 1) * KK))) (N w₁).es ∧ (N w₁).g.status = .running ∧ Book a (N w₁).es ∧ deafBehind c.d (N w₁).es = c.d)
   (k : ∀ w₁, Rely c w w₁ → Apart c a → ∀ v : Nat, v ≤ mx → WgAt ty a w₁ (v * KK) 0 → W P ty Post main n { c with grp := some (G.ph a (.pend (mx + 1))) } (N w₁).g (w₁.setCell (stA a) (.int .u64 ((v + 1) * KK)))) : W P ty Post main (n + 1) c g w
 | wsay {main : Bool} {n : Nat} {c : Ctx} {g : Goroutine} {w : World} (N : World → Nx) {G : Grp} {a : Nat} {φ : PPh} (hs : g.status = .running) (hG : c.grp = some G) (hwg : G.wg = some (a, φ)) (hφ : φ ≠ .fin)
   (h : ∀ w₁, Rely c w w₁ → stepG P main g w₁ = .go (N w₁).g w₁ (N w₁).es ∧ (N w₁).g.status = .running ∧ Book a (N w₁).es ∧ deafBehind c.d (N w₁).es = c.d)
   (k : ∀ w₁, Rely c w w₁ → W P ty Post main n { c with grp := some (G.ph a φ) } (N w₁).g w₁) : W P ty Post main (n + 1) c g w
 | wload {main : Bool} {n : Nat} {c : Ctx} {g : Goroutine} {w : World} (N : World → Nx) {G : Grp} {a mx : Nat} (hs : g.status = .running) (hG : c.grp = some G) (hwg : G.wg = some (a, .idle mx)) (hd : 0 < c.d)
   (h : ∀ w₁, Rely c w w₁ → ∀ v : Nat, v ≤ mx → WgAt ty a w₁ (v * KK) 0 → stepG P main g w₁ = .go (N w₁).g w₁ (N w₁).es ∧ (N w₁).g.status = .running ∧ Book a (N w₁).es ∧ deafBehind c.d (N w₁).es = c.d)
   (k : ∀ w₁, Rely c w w₁ → ∀ v : Nat, v ≤ mx → WgAt ty a w₁ (v * KK) 0 → W P ty Post main n { c with grp := some (G.ph a (if v = 0 then .fin else .w2 v)) } (N w₁).g w₁) : W P ty Post main (n + 1) c g w
 | wcas {main : Bool} {n : Nat} {c : Ctx} {g : Goroutine} {w : World} (N N' : World → Nx) {G : Grp} {a vs : Nat} (hs : g.status = .running) (hG : c.grp = some G) (hwg : G.wg = some (a, .w2 vs)) (hd : 0 < c.d) (hvs : vs ≠ 0)
   (h : ∀ w₁, Rely c w w₁ → WgAt ty a w₁ (vs * KK) 0 → stepG P main g w₁ = .go (N w₁).g (w₁.setCell (stA a) (.int .u64 (vs * KK + 1))) (N w₁).es ∧ (N w₁).g.status = .running ∧ Book a (N w₁).es ∧ deafBehind c.d (N w₁).es = c.d)
   (k : ∀ w₁, Rely c w w₁ → Apart c a → WgAt ty a w₁ (vs * KK) 0 → W P ty Post main n { c with grp := some (G.ph a .reg) } (N w₁).g (w₁.setCell (stA a) (.int .u64 (vs * KK + 1))))
   (h' : ∀ w₁, Rely c w w₁ → ∀ v : Nat, v < vs → WgAt ty a w₁ (v * KK) 0 → stepG P main g w₁ = .go (N' w₁).g w₁ (N' w₁).es ∧ (N' w₁).g.status = .running ∧ Book a (N' w₁).es ∧ deafBehind c.d (N' w₁).es = c.d)
   (k' : ∀ w₁, Rely c w w₁ → ∀ v : Nat, v < vs → WgAt ty a w₁ (v * KK) 0 → W P ty Post main n { c with grp := some (G.ph a (.idle v)) } (N' w₁).g w₁) : W P ty Post main (n + 1) c g w
 | wacq {main : Bool} {n : Nat} {c : Ctx} {g : Goroutine} {w : World} (N : World → Nx) {G : Grp} {a : Nat} (hs : g.status = .running) (hG : c.grp = some G) (hwg : G.wg = some (a, .reg)) (hd : 0 < c.d) (ho : g.offers = none)
   (h0 : ∀ w₁, Rely c w w₁ → ∀ st, WgAt ty a w₁ st 0 → stepG P main g w₁ = .go { g with status := .blocked } w₁ #[])
   (h : ∀ w₁, Rely c w w₁ → WgAt ty a w₁ 0 1 → stepG P main g w₁ = .go (N w₁).g (w₁.setCell (smA a) (.int .u32 0)) (N w₁).es ∧ (N w₁).g.status = .running ∧ Book a (N w₁).es ∧ deafBehind c.d (N w₁).es = c.d)
   (k : ∀ w₁, Rely c w w₁ → Apart c a → WgAt ty a w₁ 0 1 → W P ty Post main n { c with grp := some (G.ph a .w4) } (N w₁).g (w₁.setCell (smA a) (.int .u32 0))) : W P ty Post main (n + 1) c g w
 | wend {main : Bool} {n : Nat} {c : Ctx} {g : Goroutine} {w : World} (N : World → Nx) {G : Grp} {a : Nat} (hs : g.status = .running) (hG : c.grp = some G) (hwg : G.wg = some (a, .w4)) (hd : 0 < c.d)
   (h : ∀ w₁, Rely c w w₁ → WgAt ty a w₁ 0 0 → stepG P main g w₁ = .go (N w₁).g w₁ (N w₁).es ∧ (N w₁).g.status = .running ∧ Book a (N w₁).es ∧ deafBehind c.d (N w₁).es = c.d)
   (k : ∀ w₁, Rely c w w₁ → WgAt ty a w₁ 0 0 → W P ty Post main n { c with grp := some (G.ph a (.fin)) } (N w₁).g w₁) : W P ty Post main (n + 1) c g w
 | kdec {n : Nat} {c : Ctx} {g : Goroutine} {w : World} (N : World → Nx) {a : Nat} (hs : g.status = .running) (hdec : c.dec = some (a, .cnt)) (hsend : c.send = none) (hG : c.grp = none) (hd : 0 < c.d)
   (h : ∀ w₁, Rely c w w₁ → ∀ v wt : Nat, wt ≤ 1 → v < 2 → WgAt ty a w₁ ((v + 1) * KK + wt) 0 → stepG P false g w₁ = .go (N w₁).g (w₁.setCell (stA a) (.int .u64 (v * KK + wt))) (N w₁).es ∧ (N w₁).g.status = .running ∧ BookK a c.d (N w₁).es ∧ deafBehind c.d (N w₁).es = c.d)
   (k : ∀ w₁, Rely c w w₁ → ∀ v wt : Nat, wt ≤ 1 → v < 2 → WgAt ty a w₁ ((v + 1) * KK + wt) 0 → W P ty Post false n { c with dec := if v = 0 ∧ wt = 1 then some (a, .k1) else none } (N w₁).g (w₁.setCell (stA a) (.int .u64 (v * KK + wt)))) : W P ty Post false (n + 1) c g w
 | kload {n : Nat} {c : Ctx} {g : Goroutine} {w : World} (N : World → Nx) {a : Nat} (hs : g.status = .running) (hdec : c.dec = some (a, .k1)) (hsend : c.send = none) (hG : c.grp = none) (hd : 0 < c.d)
   (h : ∀ w₁, Rely c w w₁ → WgAt ty a w₁ 1 0 → stepG P false g w₁ = .go (N w₁).g w₁ (N w₁).es ∧ (N w₁).g.status = .running ∧ BookK a c.d (N w₁).es ∧ deafBehind c.d (N w₁).es = c.d)
   (k : ∀ w₁, Rely c w w₁ → WgAt ty a w₁ 1 0 → W P ty Post false n { c with dec := some (a, .k2) } (N w₁).g w₁) : W P ty Post false (n + 1) c g w
 | kstore {n : Nat} {c : Ctx} {g : Goroutine} {w : World} (N : World → Nx) {a : Nat} (hs : g.status = .running) (hdec : c.dec = some (a, .k2)) (hsend : c.send = none) (hG : c.grp = none) (hd : 0 < c.d)
   (h : ∀ w₁, Rely c w w₁ → WgAt ty a w₁ 1 0 → stepG P false g w₁ = .go (N w₁).g (w₁.setCell (stA a) (.int .u64 0)) (N w₁).es ∧ (N w₁).g.status = .running ∧ BookK a c.d (N w₁).es ∧ deafBehind c.d (N w₁).es = c.d)
   (k : ∀ w₁, Rely c w w₁ → WgAt ty a w₁ 1 0 → W P ty Post false n { c with dec := some (a, .k3) } (N w₁).g (w₁.setCell (stA a) (.int .u64 0))) : W P ty Post false (n + 1) c g w
 | kraise {n : Nat} {c : Ctx} {g : Goroutine} {w : World} (N : World → Nx) {a : Nat} (hs : g.status = .running) (hdec : c.dec = some (a, .k3)) (hsend : c.send = none) (hG : c.grp = none) (hd : 0 < c.d) (hw : mayWake P g = true)
   (h : ∀ w₁, Rely c w w₁ → WgAt ty a w₁ 0 0 → stepG P false g w₁ = .go (N w₁).g (w₁.setCell (smA a) (.int .u32 1)) (N w₁).es ∧ (N w₁).g.status = .running ∧ BookK a c.d (N w₁).es ∧ deafBehind c.d (N w₁).es = c.d)
   (k : ∀ w₁, Rely c w w₁ → WgAt ty a w₁ 0 0 → W P ty Post false n { c with dec := none } (N w₁).g (w₁.setCell (smA a) (.int .u32 1))) : W P ty Post false (n + 1) c g w
 | leave {n : Nat} {c : Ctx} {g : Goroutine} {w : World} (hsend : c.send = none) (hdec : c.dec = none) (hG : c.grp = none) (hq : QuitsD P n c.d g) : W P ty Post false n c g w
 | done {n : Nat} {c : Ctx} {g : Goroutine} {w : World} (N : World → Nx) (hs : g.status = .running) (hd : c.d = 0) (hG : c.grp = none)
   (h : ∀ w₁, Rely c w w₁ → stepG P true g w₁ = .ended (.done (N w₁).v) (N w₁).w (N w₁).es ∧ Foot c w₁ (N w₁).w (N w₁).es ∧ w₁.heap.size ≤ (N w₁).w.heap.size ∧ Post (N w₁).v (N w₁).w) : W P ty Post true (n + 1) c g w
 | found {main : Bool} {n : Nat} {c : Ctx} {g : Goroutine} {w : World} {ch cap : Nat} {wg : Option Nat} (hb : main = true ∨ c.send ≠ none) (hG : c.grp = none) (hch : c.M ch)
   (hw : w.heap[ch]? = some (.chan cap #[] false 0 0 false)) (hwg : ∀ a, wg = some a → c.M a ∧ a ≠ ch ∧ WgAt ty a w 0 0) (hcw : wg.isSome = true ↔ 0 < cap)
   (h : W P ty Post main n { c with M := fun b => c.M b ∧ b ≠ ch ∧ wg ≠ some b, grp := some { ch, cap, kids := [], wg := wg.map fun a => (a, .idle 0), closed := false } } g w) : W P ty Post main n c g w
 | free {main : Bool} {n : Nat} {c : Ctx} {g : Goroutine} {w : World} {G : Grp} (hb : main = true ∨ c.send ≠ none) (hG : c.grp = some G) (hk : G.kids = []) (hwg : G.wg = none ∨ ∃ a, G.wg = some (a, .fin))
   (h : W P ty Post main n { c with grp := none } g w) : W P ty Post main n c g w
 | freeze {main : Bool} {n : Nat} {c : Ctx} {g : Goroutine} {w : World} {M' : Nat → Prop} {R' : Addr → Prop} (hb : main = true ∨ c.send ≠ none) (hM : ∀ b, M' b → c.M b) (hR : ∀ a, c.R a → R' a) (hro : ∀ a, R' a → c.R a ∨ (c.M a.block ∧ ¬ M' a.block))
   (h : W P ty Post main n { c with M := M', R := R' } g w) : W P ty Post main n c g w
 | more {main : Bool} {n : Nat} {c : Ctx} {g : Goroutine} {w : World} (h : W P ty Post main n c g w) : W P ty Post main (n + 1) c g w
section
variable {P : Program} {ty : TypeId} {Post : Value → World → Prop}
theorem W.rely {main : Bool} {n : Nat} {c : Ctx} {g : Goroutine} {w : World} (h : W P ty Post main n c g w) : ∀ {w' : World}, Rely c w w' → W P ty Post main n c g w' := by
 induction h with
 | priv N hs hb h k _ => exact fun r => .priv N hs (hb.imp id fun x => x.imp id fun y => ⟨y.1, fun w₁ r₁ => y.2 w₁ (r.trans r₁)⟩) (fun w₁ r₁ => h w₁ (r.trans r₁)) fun w₁ r₁ => k w₁ (r.trans r₁)
 | spawn N hs hn hd hG hcl hcap hwg h k₁ k₂ _ _ => exact fun r => .spawn N hs hn hd hG hcl hcap hwg (fun w₁ r₁ => h w₁ (r.trans r₁)) (fun w₁ r₁ => k₁ w₁ (r.trans r₁)) fun w₁ r₁ => k₂ w₁ (r.trans r₁)
 | send N hs hd hsend hG h k _ => exact fun r => .send N hs hd hsend hG (fun w₁ r₁ => h w₁ (r.trans r₁)) fun w₁ r₁ => k w₁ (r.trans r₁)
 | recv N hs hd hG hk hcap h k _ => exact fun r => .recv N hs hd hG hk hcap (fun w₁ r₁ => h w₁ (r.trans r₁)) fun w₁ r₁ => k w₁ (r.trans r₁)
 | close N hs hd hG hcap hwg hcl h k _ => exact fun r => .close N hs hd hG hcap hwg hcl (fun w₁ r₁ => h w₁ (r.trans r₁)) fun w₁ r₁ => k w₁ (r.trans r₁)
 | over N hs hd hG hk hcl h k _ => exact fun r => .over N hs hd hG hk hcl (fun w₁ r₁ => h w₁ (r.trans r₁)) fun w₁ r₁ => k w₁ (r.trans r₁)
 | wadd N hs hG hwg hd hmx h k _ => exact fun r => .wadd N hs hG hwg hd hmx (fun w₁ r₁ => h w₁ (r.trans r₁)) fun w₁ r₁ => k w₁ (r.trans r₁)
 | wsay N hs hG hwg hφ h k _ => exact fun r => .wsay N hs hG hwg hφ (fun w₁ r₁ => h w₁ (r.trans r₁)) fun w₁ r₁ => k w₁ (r.trans r₁)
 | wload N hs hG hwg hd h k _ => exact fun r => .wload N hs hG hwg hd (fun w₁ r₁ => h w₁ (r.trans r₁)) fun w₁ r₁ => k w₁ (r.trans r₁)
 | wcas N N' hs hG hwg hd hvs h k h' k' _ _ => exact fun r => .wcas N N' hs hG hwg hd hvs (fun w₁ r₁ => h w₁ (r.trans r₁)) (fun w₁ r₁ => k w₁ (r.trans r₁)) (fun w₁ r₁ => h' w₁ (r.trans r₁)) fun w₁ r₁ => k' w₁ (r.trans r₁)
 | wacq N hs hG hwg hd ho h0 h k _ => exact fun r => .wacq N hs hG hwg hd ho (fun w₁ r₁ => h0 w₁ (r.trans r₁)) (fun w₁ r₁ => h w₁ (r.trans r₁)) fun w₁ r₁ => k w₁ (r.trans r₁)
 | wend N hs hG hwg hd h k _ => exact fun r => .wend N hs hG hwg hd (fun w₁ r₁ => h w₁ (r.trans r₁)) fun w₁ r₁ => k w₁ (r.trans r₁)
 | kdec N hs hdec hsend hG hd h k _ => exact fun r => .kdec N hs hdec hsend hG hd (fun w₁ r₁ => h w₁ (r.trans r₁)) fun w₁ r₁ => k w₁ (r.trans r₁)
 | kload N hs hdec hsend hG hd h k _ => exact fun r => .kload N hs hdec hsend hG hd (fun w₁ r₁ => h w₁ (r.trans r₁)) fun w₁ r₁ => k w₁ (r.trans r₁)
 | kstore N hs hdec hsend hG hd h k _ => exact fun r => .kstore N hs hdec hsend hG hd (fun w₁ r₁ => h w₁ (r.trans r₁)) fun w₁ r₁ => k w₁ (r.trans r₁)
 | kraise N hs hdec hsend hG hd hw h k _ => exact fun r => .kraise N hs hdec hsend hG hd hw (fun w₁ r₁ => h w₁ (r.trans r₁)) fun w₁ r₁ => k w₁ (r.trans r₁)
 | leave hsend hdec hG hq => exact fun _ => .leave hsend hdec hG hq
 | done N hs hd hG h => exact fun r => .done N hs hd hG fun w₁ r₁ => h w₁ (r.trans r₁)
 | found hb hG hch hw hwg hcw _ ih =>
  exact fun r => .found hb hG hch (by rw [r.mine _ hch]; exact hw) (fun a ha => ⟨(hwg a ha).1, (hwg a ha).2.1, (r.mine _ (hwg a ha).1).trans (hwg a ha).2.2⟩) hcw (ih (r.sub (fun b hb => hb.1) fun a ha => ha))
 | free hb hG hk hwg _ ih => exact fun r => .free hb hG hk hwg (ih (r.sub (fun _ h => h) fun _ h => h))
 | freeze hb hM hR hro _ ih =>
  exact fun r => .freeze hb hM hR hro (ih ⟨r.tape, r.os, r.output, r.size, r.shape, fun b hb' => r.mine b (hM b hb'), fun a ha => (hro a ha).elim (r.ro a) fun x => r.mine _ x.1⟩)
 | more _ ih => exact fun r => .more (ih r)
end
end Go.Gw
namespace Go.Gw
open Go Go.Conc Go.ConcN
open Go.ConcR (KK wgBlock WgAt stA smA)
structure Fly where
 sp : Spec
 v : Value
 R : Addr → Prop
 s : Nat
 q : Nat
inductive PS where
 | run | snd | rcv | sem
 deriving DecidableEq
structure Gh where
 M : Nat → Nat → Prop
 R : Nat → Addr → Prop
 d : Nat → Nat
 snd : Nat → Option (Nat × Spec)
 dec : Nat → Option (Nat × KPh)
 grp : Nat → Option Grp
 par : Nat → Nat
 acc : Nat → Nat
 ids : Nat → List Nat
 fly : Nat → Option Fly
 nn : Nat → Nat
 ps : Nat → PS
def Gh.cx (γ : Gh) (i : Nat) : Ctx := ⟨γ.M i, γ.R i, γ.d i, γ.snd i, γ.dec i, γ.grp i⟩
def GB (G : Grp) (b : Nat) : Prop := b = G.ch ∨ ∃ φ, G.wg = some (b, φ)
def ShOf (grp : Nat → Option Grp) (p b : Nat) : Prop := ∃ G, grp p = some G ∧ GB G b
def TchOf (grp : Nat → Option Grp) (dec : Nat → Option (Nat × KPh)) (i b : Nat) : Prop := ShOf grp i b ∨ ∃ φ, dec i = some (b, φ)
structure Links (n : Nat) (snd : Nat → Option (Nat × Spec)) (dec : Nat → Option (Nat × KPh)) (grp : Nat → Option Grp) (par acc : Nat → Nat) (ids : Nat → List Nat) (fly : Nat → Option Fly) : Prop where
 pos : 0 < n
 zs : snd 0 = none
 zd : dec 0 = none
 za : acc 0 = 0
 gn : ∀ p G, grp p = some G → p < n ∧ acc p = p ∧ (ids p).length = G.kids.length ∧ (ids p).Nodup ∧ (G.closed = true → ∃ a, G.wg = some (a, .fin)) ∧ (G.wg.isSome = true ↔ 0 < G.cap) ∧ (0 < G.cap → G.kids.length ≤ G.cap) ∧ (∀ a φ, G.wg = some (a, φ) → a ≠ G.ch)
 kid : ∀ (p k j : Nat), (ids p)[k]? = some j → ∃ G sp, grp p = some G ∧ G.kids[k]? = some sp ∧ p < j ∧ j < n ∧ acc j = j ∧ par j = p ∧
  ((snd j = some (G.ch, sp) ∧ fly j = none ∧ dec j = G.wg.map (fun x => (x.1, KPh.cnt))) ∨ (snd j = none ∧ grp j = none ∧ ∃ f, fly j = some f ∧ f.sp = sp))
 own : ∀ j, snd j ≠ none ∨ fly j ≠ none → j ∈ ids (par j)
 decs : ∀ j a φ, dec j = some (a, φ) → j < n ∧ acc j = j ∧ (φ ≠ .cnt → snd j = none) ∧ ∃ G ψ, grp (par j) = some G ∧ G.wg = some (a, ψ)
 self : ∀ j, j < n → acc j = j → j ≠ 0 → j ∈ ids (par j)
 gone : ∀ j, acc j ≠ j → snd j = none ∧ dec j = none ∧ grp j = none ∧ fly j = none
 accs : ∀ j, acc (acc j) = acc j
 accn : ∀ j, j < n → acc j < n
 big : ∀ j, n ≤ j → acc j = j ∧ dec j = none
def cw (a : Nat) : Option (Nat × KPh) → Nat
 | some (b, .cnt) => if b = a then 1 else 0
 | _ => 0
def cntOf (n : Nat) (dec : Nat → Option (Nat × KPh)) (a : Nat) : Nat := sumTo n fun j => cw a (dec j)
def NoLast (dec : Nat → Option (Nat × KPh)) (a : Nat) : Prop := ∀ j φ, dec j = some (a, φ) → φ = .cnt
def WgOk (ty : TypeId) (V : Nat) (dec : Nat → Option (Nat × KPh)) (ps : PS) (a : Nat) (w : World) : PPh → Prop
 | .idle mx => V ≤ mx ∧ mx ≤ 2 ∧ NoLast dec a ∧ WgAt ty a w (V * KK) 0
 | .pend mx => V + 1 ≤ mx ∧ mx ≤ 2 ∧ NoLast dec a ∧ WgAt ty a w ((V + 1) * KK) 0
 | .w2 vs => V ≤ vs ∧ vs ≤ 2 ∧ NoLast dec a ∧ WgAt ty a w (V * KK) 0
 | .reg => V ≤ 2 ∧ ((0 < V ∧ NoLast dec a ∧ WgAt ty a w (V * KK + 1) 0) ∨
   (V = 0 ∧ ∃ L φ, dec L = some (a, φ) ∧ φ ≠ .cnt ∧ (∀ j ψ, dec j = some (a, ψ) → j = L) ∧ ((φ ≠ .k3 ∧ WgAt ty a w 1 0) ∨ (φ = .k3 ∧ WgAt ty a w 0 0))) ∨
   (V = 0 ∧ NoLast dec a ∧ WgAt ty a w 0 1 ∧ ps ≠ .sem))
 | .w4 => V = 0 ∧ NoLast dec a ∧ WgAt ty a w 0 0
 | .fin => V = 0 ∧ NoLast dec a
def isFly (fly : Nat → Option Fly) (j : Nat) : Bool := (fly j).isSome
structure ChOk (G : Grp) (ids : List Nat) (fly : Nat → Option Fly) (w : World) (buf : Array Value) (s r : Nat) : Prop where
 at_ : w.heap[G.ch]? = some (.chan G.cap buf G.closed s r false)
 un : G.cap = 0 → buf.size = 0
 sum : buf.size + r = s
 cnt : ids.countP (isFly fly) = buf.size
 msg : ∀ q v, buf[q]? = some v → ∃ j f, j ∈ ids ∧ fly j = some f ∧ f.v = v ∧ f.s = r + q
section
variable (P : Program) (ty : TypeId) (Post : Value → World → Prop)
inductive Sit (main : Bool) (n : Nat) (c : Ctx) (g : Goroutine) (w : World) : PS → Prop
 | run (h : W P ty Post main n c g w) : Sit main n c g w .run
 | snd {g₀ : Goroutine} {ch : Nat} {sp : Spec} {v z : Value} {Rm : Addr → Prop} (hm : main = false) (hg : g = parked g₀ #[scase ch v z] .send) (hc : c.send = some (ch, sp)) (hG : c.grp = none) (hdc : c.dec = none) (hd : c.d = 0) (hok : sp.ok v Rm w)
   (hR : ∀ a, Rm a → a.block < w.heap.size ∧ (c.R a ∨ c.M a.block))
   (k : W P ty Post false n { c with M := fun _ => False, R := fun a => c.R a ∨ Rm a, send := none } (Conc.served g₀ undef) w) : Sit main n c g w .snd
 | rcv {g₀ : Goroutine} {G : Grp} {z : Value} {okb : Bool} (hg : g = parked g₀ #[rcase G.ch z] (.recv okb)) (hG : c.grp = some G) (hk : G.kids ≠ []) (hcap : G.cap = 0) (hcl : G.closed = false) (hd : c.d = 0)
   (k : ∀ (k : Nat) (sp : Spec), G.kids[k]? = some sp → ∀ (v : Value) (Rm : Addr → Prop) (w₂ : World), Rely c w w₂ → sp.ok v Rm w₂ → (∀ a, Rm a → a.block < w₂.heap.size ∧ ¬ c.M a.block) →
    W P ty Post main n { c with R := fun a => c.R a ∨ Rm a, grp := some (G.drop k) } (Conc.served g₀ (Conc.recvd okb v true)) w₂) : Sit main n c g w .rcv
 | sem {G : Grp} {a : Nat} (hG : c.grp = some G) (hwg : G.wg = some (a, .reg)) (hs : g.status = .blocked) (ho : g.offers = none) (h : W P ty Post main n c { g with status := .running } w) : Sit main n c g w .sem
structure GI (gs : Array Goroutine) (w : World) (t : Trace) (γ : Gh) : Prop where
 li : Links gs.size γ.snd γ.dec γ.grp γ.par γ.acc γ.ids γ.fly
 lie : Lie w.heap.size γ.M γ.R (ShOf γ.grp) (TchOf γ.grp γ.dec)
 ti : TI gs.size w.heap.size γ.M γ.R (ShOf γ.grp) (TchOf γ.grp γ.dec) γ.acc t
 mz : ∀ j b, γ.M j b → j < gs.size
 df : ∀ j, j < gs.size → Deaf t j = γ.d j
 ft : ∀ j f, γ.fly j = some f → ∃ G, γ.grp (γ.par j) = some G ∧ FT γ.acc t j G.ch f.s f.q f.R ∧ (∀ a, f.R a → γ.R j a) ∧ f.sp.ok f.v f.R w
 ch : ∀ p G, γ.grp p = some G → ∃ buf s r, ChOk G (γ.ids p) γ.fly w buf s r
 wg : ∀ p G a φ, γ.grp p = some G → G.wg = some (a, φ) → WgOk ty (cntOf gs.size γ.dec a) γ.dec (γ.ps p) a w φ
 sit : ∀ i g, gs[i]? = some g → Sit P ty Post (i == 0) (γ.nn i) (γ.cx i) g w (γ.ps i)
 nr : ∀ p, γ.ps p = .rcv → ∀ j ∈ γ.ids p, γ.ps j ≠ .snd
def Inv (μ : Nat × Nat) (m : Machine) (t : Trace) : Prop :=
 ∃ gs w sl γ, m = crowd gs w sl ∧ GI P ty Post gs w t γ ∧ μ = (sumTo gs.size γ.nn, sumTo gs.size fun j => if γ.ps j = .run then 1 else 0)
end
section
variable {P : Program} {ty : TypeId} {Post : Value → World → Prop}
theorem Sit.rely {main : Bool} {n : Nat} {c : Ctx} {g : Goroutine} {w w₁ : World} {s : PS} (h : Sit P ty Post main n c g w s) (r : Rely c w w₁) : Sit P ty Post main n c g w₁ s := by
 cases h with
 | run h => exact .run (h.rely r)
 | snd hm hg hc hG hdc hd hok hR k =>
  refine .snd hm hg hc hG hdc hd (Spec.keep _ _ _ _ _ (fun a ha => ?_) hok) (fun a ha => ⟨Nat.lt_of_lt_of_le (hR a ha).1 r.size, (hR a ha).2⟩) ?_
  ·refine ⟨?_, r.shape _ (hR a ha).1⟩
   rcases (hR a ha).2 with h | h
   ·exact r.roc a h
   ·simp only [World.cell?, r.mine _ h]
  ·exact k.rely ⟨r.tape, r.os, r.output, r.size, r.shape, fun b hb => hb.elim, fun a ha => ha.elim (r.ro a) fun ha => by
    rcases (hR a ha).2 with h | h
    ·exact r.ro a h
    ·exact r.mine _ h⟩
 | rcv hg hG hk hcap hcl hd k => exact .rcv hg hG hk hcap hcl hd fun i sp hi v Rm w₂ r₂ ho => k i sp hi v Rm w₂ (r.trans r₂) ho
 | sem hG hwg hs ho h => exact .sem hG hwg hs ho (h.rely r)
theorem W.quits {main : Bool} {n : Nat} {c : Ctx} {g : Goroutine} {w : World} (h : W P ty Post main n c g w) : main = false → c.send = none → c.dec = none → c.grp = none → ∃ m, QuitsD P m c.d g := by
 induction h with
 | priv N hs hb h k _ => intro h1 h2 h3 h4; rcases hb with hb | hb | hb <;> simp_all
 | spawn N hs hn hd hG hcl hcap hwg h k₁ k₂ _ _ => intro h1 h2 h3 h4; rw [h4] at hG; cases hG
 | send N hs hd hsend hG h k _ => intro h1 h2 h3 h4; rw [h2] at hsend; cases hsend
 | recv N hs hd hG hk hcap h k _ => intro h1 h2 h3 h4; rw [h4] at hG; cases hG
 | close N hs hd hG hcap hwg hcl h k _ => intro h1 h2 h3 h4; rw [h4] at hG; cases hG
 | over N hs hd hG hk hcl h k _ => intro h1 h2 h3 h4; rw [h4] at hG; cases hG
 | wadd N hs hG hwg hd hmx h k _ => intro h1 h2 h3 h4; rw [h4] at hG; cases hG
 | wsay N hs hG hwg hφ h k _ => intro h1 h2 h3 h4; rw [h4] at hG; cases hG
 | wload N hs hG hwg hd h k _ => intro h1 h2 h3 h4; rw [h4] at hG; cases hG
 | wcas N N' hs hG hwg hd hvs h k h' k' _ _ => intro h1 h2 h3 h4; rw [h4] at hG; cases hG
 | wacq N hs hG hwg hd ho h0 h k _ => intro h1 h2 h3 h4; rw [h4] at hG; cases hG
 | wend N hs hG hwg hd h k _ => intro h1 h2 h3 h4; rw [h4] at hG; cases hG
 | kdec N hs hdec hsend hG hd h k _ => intro h1 h2 h3 h4; rw [h3] at hdec; cases hdec
 | kload N hs hdec hsend hG hd h k _ => intro h1 h2 h3 h4; rw [h3] at hdec; cases hdec
 | kstore N hs hdec hsend hG hd h k _ => intro h1 h2 h3 h4; rw [h3] at hdec; cases hdec
 | kraise N hs hdec hsend hG hd hw h k _ => intro h1 h2 h3 h4; rw [h3] at hdec; cases hdec
 | leave hsend hdec hG hq => exact fun _ _ _ _ => ⟨_, hq⟩
 | done N hs hd hG h => intro h1; cases h1
 | found hb hG hch hw hwg hcw _ ih => intro h1 h2 h3 h4; rcases hb with hb | hb <;> simp_all
 | free hb hG hk hwg _ ih => intro h1 h2 h3 h4; rw [h4] at hG; cases hG
 | freeze hb hM hR hro _ ih => intro h1 h2 h3 h4; rcases hb with hb | hb <;> simp_all
 | more _ ih => exact ih
theorem W.status {main : Bool} {n : Nat} {c : Ctx} {g : Goroutine} {w : World} (h : W P ty Post main n c g w) : g.status = .running ∨ (g.status = .finished ∧ main = false ∧ c.send = none ∧ c.dec = none ∧ c.grp = none) := by
 induction h with
 | leave hsend hdec hG hq => exact hq.status.imp id fun h => ⟨h, rfl, hsend, hdec, hG⟩
 | found hb hG hch hw hwg hcw _ ih => exact ih.imp id fun h => by simp at h
 | freeze hb hM hR hro _ ih => exact ih
 | free hb hG hk hwg _ ih =>
  rcases ih with h | ⟨h1, h2, h3, h4, h5⟩
  ·exact .inl h
  ·rcases hb with hb | hb
   ·rw [hb] at h2; cases h2
   ·exact absurd h3 hb
 | more _ ih => exact ih
 | _ => exact .inl (by assumption)
end
end Go.Gw
namespace Go.Gw
open Go Go.Conc Go.ConcN
theorem nodup_ne {l : List Nat} (h : l.Nodup) {a b : Nat} (ha : a < l.length) (hb : b < l.length) (hab : a ≠ b) : l[a] ≠ l[b] := by
 have h := List.pairwise_iff_getElem.1 h
 rcases Nat.lt_or_gt_of_ne hab with e | e
 ·exact h a b ha hb e
 ·exact fun x => h b a hb ha e x.symm
variable {n : Nat} {snd : Nat → Option (Nat × Spec)} {dec : Nat → Option (Nat × KPh)} {grp : Nat → Option Grp} {par acc : Nat → Nat} {ids : Nat → List Nat} {fly : Nat → Option Fly}
theorem Links.kid_of (h : Links n snd dec grp par acc ids fly) {p j : Nat} (hj : j ∈ ids p) : ∃ (k : Nat) (G : Grp) (sp : Spec), (ids p)[k]? = some j ∧ grp p = some G ∧ G.kids[k]? = some sp ∧ p < j ∧ j < n ∧ acc j = j ∧ par j = p ∧
  ((snd j = some (G.ch, sp) ∧ fly j = none ∧ dec j = G.wg.map (fun x => (x.1, KPh.cnt))) ∨ (snd j = none ∧ grp j = none ∧ ∃ f, fly j = some f ∧ f.sp = sp)) := by
 obtain ⟨k, hk⟩ := List.getElem?_of_mem hj
 obtain ⟨G, sp, h1, h2⟩ := h.kid p k j hk
 exact ⟨k, G, sp, hk, h1, h2⟩
theorem Links.owes (h : Links n snd dec grp par acc ids fly) {j ch : Nat} {sp : Spec} (hj : snd j = some (ch, sp)) : ∃ (k : Nat) (G : Grp), (ids (par j))[k]? = some j ∧ grp (par j) = some G ∧ G.ch = ch ∧ G.kids[k]? = some sp ∧ par j < j ∧ j < n ∧ acc j = j ∧ fly j = none ∧ dec j = G.wg.map (fun x => (x.1, KPh.cnt)) := by
 obtain ⟨k, G, sp', h1, h2, h3, h4, h5, h6, _, h8⟩ := h.kid_of (h.own j (.inl (by rw [hj]; simp)))
 rcases h8 with ⟨e1, e2, e3⟩ | ⟨e1, _⟩
 ·rw [hj] at e1
  simp only [Option.some.injEq, Prod.mk.injEq] at e1
  exact ⟨k, G, h1, h2, e1.1.symm, by rw [e1.2]; exact h3, h4, h5, h6, e2, e3⟩
 ·rw [hj] at e1; cases e1
theorem Links.flies (h : Links n snd dec grp par acc ids fly) {j : Nat} {f : Fly} (hj : fly j = some f) : ∃ (k : Nat) (G : Grp), (ids (par j))[k]? = some j ∧ grp (par j) = some G ∧ G.kids[k]? = some f.sp ∧ par j < j ∧ j < n ∧ acc j = j ∧ snd j = none ∧ grp j = none := by
 obtain ⟨k, G, sp', h1, h2, h3, h4, h5, h6, _, h8⟩ := h.kid_of (h.own j (.inr (by rw [hj]; simp)))
 rcases h8 with ⟨e1, e2, e3⟩ | ⟨e1, e2, f', e3, e4⟩
 ·rw [hj] at e2; cases e2
 ·rw [hj] at e3; cases e3
  exact ⟨k, G, h1, h2, by rw [e4]; exact h3, h4, h5, h6, e1, e2⟩
theorem Links.sent (h : Links n snd dec grp par acc ids fly) {j ch : Nat} {sp : Spec} (hj : snd j = some (ch, sp)) (hg : grp j = none) {f : Fly} (hf : f.sp = sp) : Links n (upd snd j none) dec grp par acc ids (upd fly j (some f)) := by
 refine ⟨h.pos, ?_, h.zd, h.za, h.gn, fun p k j' hk => ?_, fun j' hj' => ?_, fun j' a φ hd => ?_, h.self, fun j' ha => ?_, h.accs, h.accn, h.big⟩
 ·by_cases e : 0 = j
  ·subst e; rw [upd_same]
  ·rw [upd_ne _ _ e]; exact h.zs
 ·obtain ⟨G, sp', h1, h2, h3, h4, h5, h6, h7⟩ := h.kid p k j' hk
  refine ⟨G, sp', h1, h2, h3, h4, h5, h6, ?_⟩
  by_cases e : j' = j
  ·subst e
   rcases h7 with ⟨e1, _, _⟩ | ⟨e1, _⟩
   ·rw [hj] at e1
    simp only [Option.some.injEq, Prod.mk.injEq] at e1
    exact .inr ⟨upd_same _ _ _, hg, f, upd_same _ _ _, by rw [hf, e1.2]⟩
   ·rw [hj] at e1; cases e1
  ·rw [upd_ne _ _ e, upd_ne _ _ e]; exact h7
 ·by_cases e : j' = j
  ·subst e; exact h.own j' (.inl (by rw [hj]; simp))
  ·rw [upd_ne _ _ e, upd_ne _ _ e] at hj'; exact h.own j' hj'
 ·obtain ⟨h1, h2, h3, h4⟩ := h.decs j' a φ hd
  refine ⟨h1, h2, fun hφ => ?_, h4⟩
  by_cases e : j' = j
  ·subst e; rw [upd_same]
  ·rw [upd_ne _ _ e]; exact h3 hφ
 ·have hne : j' ≠ j := fun e => ha (by obtain ⟨_, _, _, _, _, _, _, _, ac, _⟩ := h.owes hj; rw [e]; exact ac)
  rw [upd_ne _ _ hne, upd_ne _ _ hne]
  exact h.gone j' ha
theorem Links.absorb (h : Links n snd dec grp par acc ids fly) {p k j : Nat} {f : Fly} {G : Grp} (hk : (ids p)[k]? = some j) (hf : fly j = some f) (hd : dec j = none) (hG : grp p = some G) :
  Links n snd dec (upd grp p (some (G.drop k))) par (fun g => if acc g = j then p else acc g) (upd ids p ((ids p).eraseIdx k)) (upd fly j none) := by
 obtain ⟨G', sp, g1, g2, g3, g4, g5, g6, g7⟩ := h.kid p k j hk
 rw [hG] at g1; cases g1
 obtain ⟨_, _, _, _, _, _, _, _, sj, gj⟩ := h.flies hf
 obtain ⟨q1, q2, q3, q4, q5, q6, q7, q8⟩ := h.gn p G hG
 have hpj : p ≠ j := by omega
 have accp : (if acc p = j then p else acc p) = p := by rw [q2, if_neg hpj]
 have klt : k < (ids p).length := (List.getElem?_eq_some_iff.1 hk).1
 have nin : ∀ {k' j' : Nat}, ((ids p).eraseIdx k)[k']? = some j' → j' ≠ j ∧ ∃ k'' : Nat, (ids p)[k'']? = some j' ∧ ∀ (l : List Spec), (l.eraseIdx k)[k']? = l[(k'' : Nat)]? := by
  intro k' j' hk'
  rw [List.getElem?_eraseIdx] at hk'
  have nd : ∀ {k'' : Nat}, (ids p)[k'']? = some j' → k'' ≠ k → j' ≠ j := by
   intro k'' h1 h2 e
   subst e
   obtain ⟨l1, e1⟩ := List.getElem?_eq_some_iff.1 h1
   obtain ⟨l2, e2⟩ := List.getElem?_eq_some_iff.1 hk
   exact nodup_ne q4 l1 l2 h2 (e1.trans e2.symm)
  by_cases hlt : k' < k
  ·rw [if_pos hlt] at hk'
   exact ⟨nd hk' (by omega), k', hk', fun l => by rw [List.getElem?_eraseIdx, if_pos hlt]⟩
  ·rw [if_neg hlt] at hk'
   exact ⟨nd hk' (by omega), k' + 1, hk', fun l => by rw [List.getElem?_eraseIdx, if_neg hlt]⟩
 have stay : ∀ {j' : Nat}, j' ≠ j → ∀ {p' : Nat}, j' ∈ ids p' → j' ∈ upd ids p ((ids p).eraseIdx k) p' := by
  intro j' hne p' hm
  by_cases e : p' = p
  ·subst e
   rw [upd_same]
   obtain ⟨m, hm⟩ := List.getElem?_of_mem hm
   have hmk : m ≠ k := fun e => by rw [e, hk] at hm; exact hne (Option.some.inj hm).symm
   rcases Nat.lt_or_gt_of_ne hmk with h1 | h1
   ·exact List.mem_of_getElem? (i := m) (by rw [List.getElem?_eraseIdx, if_pos h1]; exact hm)
   ·exact List.mem_of_getElem? (i := m - 1) (by rw [List.getElem?_eraseIdx, if_neg (by omega)]; rw [show m - 1 + 1 = m by omega]; exact hm)
  ·rw [upd_ne _ _ e]; exact hm
 refine ⟨h.pos, h.zs, h.zd, ?_, fun p' G' hG' => ?_, fun p' k' j' hk' => ?_, fun j' hj' => ?_, fun j' a φ hd' => ?_, fun j' hj' ha' h0 => ?_, fun j' ha' => ?_, fun j' => ?_, fun j' hj' => ?_, fun j' hj' => ?_⟩
 ·show (if acc 0 = j then p else acc 0) = 0
  rw [h.za, if_neg (by omega)]
 ·by_cases e : p' = p
  ·subst e
   rw [upd_same] at hG'; cases hG'
   rw [upd_same]
   refine ⟨q1, accp, ?_, q4.eraseIdx k, q5, q6, fun hc => ?_, q8⟩
   ·simp only [Grp.drop]
    rw [List.length_eraseIdx_of_lt klt, List.length_eraseIdx_of_lt (by omega), q3]
   ·simp only [Grp.drop]
    rw [List.length_eraseIdx_of_lt (by omega)]
    have := q7 hc; omega
  ·rw [upd_ne _ _ e] at hG' ⊢
   obtain ⟨r1, r2, r3⟩ := h.gn p' G' hG'
   refine ⟨r1, ?_, r3⟩
   rw [r2, if_neg fun e' => ?_]
   rw [e', gj] at hG'; cases hG'
 ·by_cases e : p' = p
  ·subst e
   rw [upd_same] at hk'
   obtain ⟨hne, k'', hk'', hl⟩ := nin hk'
   obtain ⟨G'', sp', r1, r2, r3, r4, r5, r6, r7⟩ := h.kid p' k'' j' hk''
   rw [hG] at r1; cases r1
   refine ⟨G.drop k, sp', upd_same _ _ _, by simp only [Grp.drop]; rw [hl]; exact r2, r3, r4, by rw [r5, if_neg hne], r6, ?_⟩
   rw [upd_ne _ _ hne]
   rcases r7 with r7 | ⟨r7, r8, r9⟩
   ·exact .inl r7
   ·exact .inr ⟨r7, by rw [upd_ne _ _ (by omega)]; exact r8, r9⟩
  ·rw [upd_ne _ _ e] at hk'
   obtain ⟨G'', sp', r1, r2, r3, r4, r5, r6, r7⟩ := h.kid p' k' j' hk'
   have hne : j' ≠ j := fun e' => e (by rw [← r6, e', g6])
   refine ⟨G'', sp', by rw [upd_ne _ _ e]; exact r1, r2, r3, r4, by rw [r5, if_neg hne], r6, ?_⟩
   rw [upd_ne _ _ hne]
   rcases r7 with r7 | ⟨r7, r8, r9⟩
   ·exact .inl r7
   ·refine .inr ⟨r7, ?_, r9⟩
    have : j' ≠ p := fun e' => by rw [e', hG] at r8; cases r8
    rw [upd_ne _ _ this]; exact r8
 ·have hne : j' ≠ j := fun e => by
   subst e
   rw [upd_same, sj] at hj'
   simp at hj'
  rw [upd_ne _ _ hne] at hj'
  exact stay hne (h.own j' hj')
 ·have hne : j' ≠ j := fun e => by subst e; rw [hd] at hd'; cases hd'
  obtain ⟨r1, r2, r3, G'', ψ, r4, r5⟩ := h.decs j' a φ hd'
  refine ⟨r1, by rw [r2, if_neg hne], r3, ?_⟩
  by_cases e : par j' = p
  ·rw [e] at r4 ⊢
   rw [hG] at r4; cases r4
   exact ⟨G.drop k, ψ, upd_same _ _ _, r5⟩
  ·exact ⟨G'', ψ, by rw [upd_ne _ _ e]; exact r4, r5⟩
 ·have ha' : (if acc j' = j then p else acc j') = j' := ha'
  by_cases e : acc j' = j
  ·rw [if_pos e] at ha'
   subst ha'
   rw [q2] at e; exact absurd e hpj
  ·rw [if_neg e] at ha'
   have hne : j' ≠ j := fun e' => by rw [e', g5] at e; exact e rfl
   exact stay hne (h.self j' hj' ha' h0)
 ·have ha' : (if acc j' = j then p else acc j') ≠ j' := ha'
  by_cases e : j' = j
  ·subst e
   exact ⟨sj, hd, by rw [upd_ne _ _ (fun e => hpj e.symm)]; exact gj, upd_same _ _ _⟩
  ·have hne : acc j' ≠ j' := fun e' => by rw [e', if_neg e] at ha'; exact ha' rfl
   obtain ⟨r1, r2, r3, r4⟩ := h.gone j' hne
   have : j' ≠ p := fun e' => hne (by rw [e']; exact q2)
   exact ⟨r1, r2, by rw [upd_ne _ _ this]; exact r3, by rw [upd_ne _ _ e]; exact r4⟩
 ·show (if acc (if acc j' = j then p else acc j') = j then p else acc (if acc j' = j then p else acc j')) = (if acc j' = j then p else acc j')
  by_cases e : acc j' = j
  ·rw [if_pos e]; exact accp
  ·rw [if_neg e, h.accs j', if_neg e]
 ·show (if acc j' = j then p else acc j') < n
  by_cases e : acc j' = j
  ·rw [if_pos e]; exact q1
  ·rw [if_neg e]; exact h.accn j' hj'
 ·obtain ⟨r1, r2⟩ := h.big j' hj'
  refine ⟨?_, r2⟩
  show (if acc j' = j then p else acc j') = j'
  rw [r1, if_neg (by omega)]
theorem Links.fresh (h : Links n snd dec grp par acc ids fly) : snd n = none ∧ dec n = none ∧ grp n = none ∧ fly n = none ∧ acc n = n ∧ ids n = [] ∧ ∀ p, n ∉ ids p := by
 have nn : ∀ p, n ∉ ids p := fun p hm => by
  obtain ⟨_, _, _, _, _, _, _, h5, _⟩ := h.kid_of hm
  omega
 have g : grp n = none := by
  cases e : grp n with
  | none => rfl
  | some G => exact absurd (h.gn n G e).1 (Nat.lt_irrefl n)
 refine ⟨?_, (h.big n (Nat.le_refl n)).2, g, ?_, (h.big n (Nat.le_refl n)).1, ?_, nn⟩
 ·cases e : snd n with
  | none => rfl
  | some x => exact absurd (h.own n (.inl (by rw [e]; simp))) (nn _)
 ·cases e : fly n with
  | none => rfl
  | some x => exact absurd (h.own n (.inr (by rw [e]; simp))) (nn _)
 ·cases e : ids n with
  | nil => rfl
  | cons a l =>
   obtain ⟨_, G, _, _, hG, _⟩ := h.kid_of (p := n) (j := a) (by rw [e]; simp)
   rw [g] at hG; cases hG
theorem Links.spawn (h : Links n snd dec grp par acc ids fly) {p : Nat} {G : Grp} {sp : Spec} {wg' : Option (Nat × PPh)} (hG : grp p = some G) (hcl : G.closed = false) (hcap : G.cap = 0 ∨ G.kids.length < G.cap)
  (hwg : wg'.map (·.1) = G.wg.map (·.1)) :
  Links (n + 1) (upd snd n (some (G.ch, sp))) (upd dec n (G.wg.map fun x => (x.1, .cnt))) (upd grp p (some { G with kids := G.kids ++ [sp], wg := wg' })) (upd par n p) acc (upd ids p (ids p ++ [n])) fly := by
 obtain ⟨f1, f2, f3, f4, f5, f6, f7⟩ := h.fresh
 obtain ⟨q1, q2, q3, q4, q5, q6, q7, q8⟩ := h.gn p G hG
 have hpn : p ≠ n := by omega
 have hiso : wg'.isSome = G.wg.isSome := by
  have := congrArg Option.isSome hwg
  simpa using this
 have stay : ∀ {j' : Nat}, j' ≠ n → j' ∈ ids (par j') → j' ∈ upd ids p (ids p ++ [n]) (upd par n p j') := by
  intro j' hne hm
  rw [upd_ne _ _ hne]
  by_cases e : par j' = p
  ·rw [e] at hm ⊢; rw [upd_same]; simp [hm]
  ·rw [upd_ne _ _ e]; exact hm
 refine ⟨by omega, ?_, ?_, h.za, fun p' G' hG' => ?_, fun p' k' j' hk' => ?_, fun j' hj' => ?_, fun j' a φ hd' => ?_, fun j' hj' ha' h0 => ?_, fun j' ha' => ?_, h.accs, fun j' hj' => ?_, fun j' hj' => ?_⟩
 ·have := h.pos; rw [upd_ne _ _ (by omega)]; exact h.zs
 ·have := h.pos; rw [upd_ne _ _ (by omega)]; exact h.zd
 ·by_cases e : p' = p
  ·subst e
   rw [upd_same] at hG'; cases hG'
   rw [upd_same]
   refine ⟨by omega, q2, by simp [q3], ?_, fun hc => ?_, by simp only [hiso]; exact q6, fun hc => ?_, fun a φ ha => ?_⟩
   ·rw [List.nodup_append]
    exact ⟨q4, by simp, fun a ha b hb => by simp at hb; subst hb; exact fun e => f7 p' (e ▸ ha)⟩
   ·rw [hcl] at hc; cases hc
   ·simp only [List.length_append, List.length_singleton]
    simp only at hc
    omega
   ·simp only at ha
    rw [ha] at hwg
    simp only [Option.map_some] at hwg
    cases e : G.wg with
    | none => rw [e] at hwg; cases hwg
    | some x =>
     rw [e] at hwg
     simp only [Option.map_some, Option.some.injEq] at hwg
     rw [hwg]; exact q8 x.1 x.2 e
  ·rw [upd_ne _ _ e] at hG' ⊢
   obtain ⟨r1, r2⟩ := h.gn p' G' hG'
   exact ⟨by omega, r2⟩
 ·by_cases e : p' = p
  ·subst e
   rw [upd_same] at hk'
   rw [upd_same]
   rcases Nat.lt_or_ge k' (ids p').length with hlt | hge
   ·rw [List.getElem?_append_left hlt] at hk'
    obtain ⟨G'', sp', r1, r2, r3, r4, r5, r6, r7⟩ := h.kid p' k' j' hk'
    rw [hG] at r1; cases r1
    have hne : j' ≠ n := by omega
    refine ⟨_, sp', rfl, ?_, r3, by omega, r5, by rw [upd_ne _ _ hne]; exact r6, ?_⟩
    ·show (G.kids ++ [sp])[k']? = some sp'
     rw [List.getElem?_append_left (by omega)]; exact r2
    ·rw [upd_ne _ _ hne, upd_ne _ _ hne]
     rcases r7 with ⟨s1, s2, s3⟩ | ⟨s1, s2, s3⟩
     ·refine .inl ⟨s1, s2, ?_⟩
      show dec j' = wg'.map _
      rw [s3]
      cases e1 : G.wg <;> cases e2 : wg' <;> rw [e1, e2] at hwg <;> simp_all
     ·exact .inr ⟨s1, by rw [upd_ne _ _ (by omega)]; exact s2, s3⟩
   ·rw [List.getElem?_append_right hge] at hk'
    have hk0 : k' = (ids p').length := by
     have := (List.getElem?_eq_some_iff.1 hk').1
     simp at this; omega
    subst hk0
    simp at hk'; subst hk'
    refine ⟨_, sp, rfl, ?_, q1, by omega, f5, upd_same _ _ _, .inl ⟨upd_same _ _ _, f4, ?_⟩⟩
    ·show (G.kids ++ [sp])[(ids p').length]? = some sp
     rw [q3]; simp
    ·rw [upd_same]
     show G.wg.map _ = wg'.map _
     cases e1 : G.wg <;> cases e2 : wg' <;> rw [e1, e2] at hwg <;> simp_all
  ·rw [upd_ne _ _ e] at hk'
   obtain ⟨G'', sp', r1, r2, r3, r4, r5, r6, r7⟩ := h.kid p' k' j' hk'
   have hne : j' ≠ n := by omega
   refine ⟨G'', sp', by rw [upd_ne _ _ e]; exact r1, r2, r3, by omega, r5, by rw [upd_ne _ _ hne]; exact r6, ?_⟩
   rw [upd_ne _ _ hne, upd_ne _ _ hne]
   rcases r7 with s | ⟨s1, s2, s3⟩
   ·exact .inl s
   ·have : j' ≠ p := fun e' => by rw [e', hG] at s2; cases s2
    exact .inr ⟨s1, by rw [upd_ne _ _ this]; exact s2, s3⟩
 ·by_cases e : j' = n
  ·subst e
   rw [upd_same, upd_same]; simp
  ·rw [upd_ne _ _ e] at hj'
   exact stay e (h.own j' hj')
 ·by_cases e : j' = n
  ·subst e
   rw [upd_same] at hd' ⊢
   cases e1 : G.wg with
   | none => rw [e1] at hd'; cases hd'
   | some x =>
    rw [e1] at hd'
    simp only [Option.map_some, Option.some.injEq, Prod.mk.injEq] at hd'
    obtain ⟨rfl, rfl⟩ := hd'
    refine ⟨by omega, f5, fun hc => absurd rfl hc, ?_⟩
    rw [upd_same, upd_same]
    rw [e1] at hwg
    cases e2 : wg' with
    | none => rw [e2] at hwg; cases hwg
    | some y =>
     rw [e2] at hwg
     simp only [Option.map_some, Option.some.injEq] at hwg
     exact ⟨_, y.2, rfl, by rw [← hwg]⟩
  ·rw [upd_ne _ _ e] at hd'
   rw [upd_ne _ _ e, upd_ne _ _ e]
   obtain ⟨r1, r2, r3, G'', ψ, r4, r5⟩ := h.decs j' a φ hd'
   refine ⟨by omega, r2, r3, ?_⟩
   by_cases e' : par j' = p
   ·rw [e'] at r4 ⊢
    rw [hG] at r4; cases r4
    rw [upd_same]
    rw [r5] at hwg
    cases e2 : wg' with
    | none => rw [e2] at hwg; cases hwg
    | some y =>
     rw [e2] at hwg
     simp only [Option.map_some, Option.some.injEq] at hwg
     exact ⟨_, y.2, rfl, by rw [← hwg]⟩
   ·exact ⟨G'', ψ, by rw [upd_ne _ _ e']; exact r4, r5⟩
 ·by_cases e : j' = n
  ·subst e
   rw [upd_same, upd_same]; simp
  ·exact stay e (h.self j' (by omega) ha' h0)
 ·have hne : j' ≠ n := fun e => ha' (by rw [e]; exact f5)
  obtain ⟨r1, r2, r3, r4⟩ := h.gone j' ha'
  have : j' ≠ p := fun e' => ha' (by rw [e']; exact q2)
  exact ⟨by rw [upd_ne _ _ hne]; exact r1, by rw [upd_ne _ _ hne]; exact r2, by rw [upd_ne _ _ this]; exact r3, r4⟩
 ·by_cases e : j' = n
  ·subst e; rw [f5]; omega
  ·have := h.accn j' (by omega); omega
 ·obtain ⟨r1, r2⟩ := h.big j' (by omega)
  exact ⟨r1, by rw [upd_ne _ _ (by omega)]; exact r2⟩
theorem Links.ph (h : Links n snd dec grp par acc ids fly) {p : Nat} {G G' : Grp} (hG : grp p = some G) (h1 : G'.ch = G.ch) (h2 : G'.cap = G.cap) (h3 : G'.kids = G.kids) (h4 : G'.wg.map (·.1) = G.wg.map (·.1))
  (h5 : G'.closed = true → ∃ a, G'.wg = some (a, .fin)) : Links n snd dec (upd grp p (some G')) par acc ids fly := by
 have hiso : G'.wg.isSome = G.wg.isSome := by
  have := congrArg Option.isSome h4
  simpa using this
 have old : ∀ {a : Nat} {ψ : PPh}, G.wg = some (a, ψ) → ∃ ψ', G'.wg = some (a, ψ') := by
  intro a ψ e
  rw [e] at h4
  cases e2 : G'.wg with
  | none => rw [e2] at h4; cases h4
  | some y =>
   rw [e2] at h4
   simp only [Option.map_some, Option.some.injEq] at h4
   exact ⟨y.2, by rw [← h4]⟩
 have new : ∀ {a : Nat} {ψ : PPh}, G'.wg = some (a, ψ) → ∃ ψ', G.wg = some (a, ψ') := by
  intro a ψ e
  rw [e] at h4
  cases e2 : G.wg with
  | none => rw [e2] at h4; cases h4
  | some y =>
   rw [e2] at h4
   simp only [Option.map_some, Option.some.injEq] at h4
   exact ⟨y.2, by rw [h4]⟩
 refine ⟨h.pos, h.zs, h.zd, h.za, fun p' G'' hG'' => ?_, fun p' k' j' hk' => ?_, h.own, fun j' a φ hd' => ?_, h.self, fun j' ha' => ?_, h.accs, h.accn, h.big⟩
 ·by_cases e : p' = p
  ·subst e
   rw [upd_same] at hG''; cases hG''
   obtain ⟨q1, q2, q3, q4, q5, q6, q7, q8⟩ := h.gn p' G hG
   refine ⟨q1, q2, by rw [h3]; exact q3, q4, h5, by rw [hiso, h2]; exact q6, by rw [h2, h3]; exact q7, fun a φ ha => ?_⟩
   obtain ⟨ψ', e'⟩ := new ha
   rw [h1]; exact q8 a ψ' e'
  ·rw [upd_ne _ _ e] at hG''; exact h.gn p' G'' hG''
 ·obtain ⟨G'', sp', r1, r2, r3, r4, r5, r6, r7⟩ := h.kid p' k' j' hk'
  have hgj : grp j' = none → upd grp p (some G') j' = none := fun r8 => by
   have : j' ≠ p := fun e' => by rw [e', hG] at r8; cases r8
   rw [upd_ne _ _ this]; exact r8
  by_cases e : p' = p
  ·subst e
   rw [hG] at r1; cases r1
   refine ⟨G', sp', upd_same _ _ _, by rw [h3]; exact r2, r3, r4, r5, r6, ?_⟩
   rcases r7 with ⟨s1, s2, s3⟩ | ⟨s1, s2, s3⟩
   ·refine .inl ⟨by rw [h1]; exact s1, s2, ?_⟩
    rw [s3]
    cases e1 : G.wg <;> cases e2 : G'.wg <;> rw [e1, e2] at h4 <;> simp_all
   ·exact .inr ⟨s1, hgj s2, s3⟩
  ·exact ⟨G'', sp', by rw [upd_ne _ _ e]; exact r1, r2, r3, r4, r5, r6, r7.imp id fun ⟨s1, s2, s3⟩ => ⟨s1, hgj s2, s3⟩⟩
 ·obtain ⟨r1, r2, r3, G'', ψ, r4, r5⟩ := h.decs j' a φ hd'
  refine ⟨r1, r2, r3, ?_⟩
  by_cases e : par j' = p
  ·rw [e] at r4 ⊢
   rw [hG] at r4; cases r4
   obtain ⟨ψ', e'⟩ := old r5
   exact ⟨G', ψ', upd_same _ _ _, e'⟩
  ·exact ⟨G'', ψ, by rw [upd_ne _ _ e]; exact r4, r5⟩
 ·obtain ⟨r1, r2, r3, r4⟩ := h.gone j' ha'
  have : j' ≠ p := fun e' => by rw [e', hG] at r3; cases r3
  exact ⟨r1, r2, by rw [upd_ne _ _ this]; exact r3, r4⟩
theorem Links.done (h : Links n snd dec grp par acc ids fly) {i a : Nat} {φ : KPh} {x : Option (Nat × KPh)} (hd : dec i = some (a, φ)) (hs : snd i = none) (hx : ∀ b ψ, x = some (b, ψ) → b = a) : Links n snd (upd dec i x) grp par acc ids fly := by
 obtain ⟨q1, q2, q3, q4⟩ := h.decs i a φ hd
 refine ⟨h.pos, h.zs, ?_, h.za, h.gn, fun p' k' j' hk' => ?_, h.own, fun j' a' φ' hd' => ?_, h.self, fun j' ha' => ?_, h.accs, h.accn, fun j' hj' => ?_⟩
 ·have : 0 ≠ i := fun e => by rw [← e, h.zd] at hd; cases hd
  rw [upd_ne _ _ this]; exact h.zd
 ·obtain ⟨G'', sp', r1, r2, r3, r4, r5, r6, r7⟩ := h.kid p' k' j' hk'
  refine ⟨G'', sp', r1, r2, r3, r4, r5, r6, r7.imp (fun ⟨s1, s2, s3⟩ => ⟨s1, s2, ?_⟩) id⟩
  have : j' ≠ i := fun e => by rw [e, hs] at s1; cases s1
  rw [upd_ne _ _ this]; exact s3
 ·by_cases e : j' = i
  ·subst e
   rw [upd_same] at hd'
   obtain rfl := hx a' φ' hd'
   exact ⟨q1, q2, fun _ => hs, q4⟩
  ·rw [upd_ne _ _ e] at hd'; exact h.decs j' a' φ' hd'
 ·obtain ⟨r1, r2, r3, r4⟩ := h.gone j' ha'
  have : j' ≠ i := fun e' => by rw [e', hd] at r2; cases r2
  exact ⟨r1, by rw [upd_ne _ _ this]; exact r2, r3, r4⟩
 ·obtain ⟨r1, r2⟩ := h.big j' hj'
  exact ⟨r1, by rw [upd_ne _ _ (by omega)]; exact r2⟩
theorem Links.found (h : Links n snd dec grp par acc ids fly) {p : Nat} {G : Grp} (hp : p < n) (ha : acc p = p) (hG : grp p = none) (hf : fly p = none) (hk : G.kids = []) (hcl : G.closed = false) (hw : G.wg.isSome = true ↔ 0 < G.cap) (hne : ∀ a φ, G.wg = some (a, φ) → a ≠ G.ch) :
  Links n snd dec (upd grp p (some G)) par acc ids fly := by
 have hi : ids p = [] := by
  cases e : ids p with
  | nil => rfl
  | cons a l =>
   obtain ⟨_, G, _, _, hG', _⟩ := h.kid_of (p := p) (j := a) (by rw [e]; simp)
   rw [hG] at hG'; cases hG'
 refine ⟨h.pos, h.zs, h.zd, h.za, fun p' G'' hG'' => ?_, fun p' k' j' hk' => ?_, h.own, fun j' a φ hd' => ?_, h.self, fun j' ha' => ?_, h.accs, h.accn, h.big⟩
 ·by_cases e : p' = p
  ·subst e
   rw [upd_same] at hG''; cases hG''
   exact ⟨hp, ha, by rw [hi, hk]; rfl, by rw [hi]; simp, (fun hc => by rw [hcl] at hc; cases hc), hw, fun _ => by rw [hk]; simp, hne⟩
  ·rw [upd_ne _ _ e] at hG''; exact h.gn p' G'' hG''
 ·obtain ⟨G'', sp', r1, r2, r3, r4, r5, r6, r7⟩ := h.kid p' k' j' hk'
  have e : p' ≠ p := fun e => by rw [e, hG] at r1; cases r1
  refine ⟨G'', sp', by rw [upd_ne _ _ e]; exact r1, r2, r3, r4, r5, r6, r7.imp id fun ⟨s1, s2, s3⟩ => ⟨s1, ?_, s3⟩⟩
  have : j' ≠ p := fun e' => by
   obtain ⟨f, hf', _⟩ := s3
   rw [e', hf] at hf'; cases hf'
  rw [upd_ne _ _ this]; exact s2
 ·obtain ⟨r1, r2, r3, G'', ψ, r4, r5⟩ := h.decs j' a φ hd'
  have e : par j' ≠ p := fun e => by rw [e, hG] at r4; cases r4
  exact ⟨r1, r2, r3, G'', ψ, by rw [upd_ne _ _ e]; exact r4, r5⟩
 ·obtain ⟨r1, r2, r3, r4⟩ := h.gone j' ha'
  have : j' ≠ p := fun e' => ha' (by rw [e']; exact ha)
  exact ⟨r1, r2, by rw [upd_ne _ _ this]; exact r3, r4⟩
theorem Links.free (h : Links n snd dec grp par acc ids fly) {p : Nat} {G : Grp} (hG : grp p = some G) (hk : G.kids = []) (hd : ∀ j a φ, dec j = some (a, φ) → par j ≠ p) : Links n snd dec (upd grp p none) par acc ids fly := by
 have hi : ids p = [] := by
  have := (h.gn p G hG).2.2.1
  rw [hk] at this
  exact List.length_eq_zero_iff.1 this
 refine ⟨h.pos, h.zs, h.zd, h.za, fun p' G'' hG'' => ?_, fun p' k' j' hk' => ?_, h.own, fun j' a φ hd' => ?_, h.self, fun j' ha' => ?_, h.accs, h.accn, h.big⟩
 ·by_cases e : p' = p
  ·subst e; rw [upd_same] at hG''; cases hG''
  ·rw [upd_ne _ _ e] at hG''; exact h.gn p' G'' hG''
 ·have e : p' ≠ p := fun e => by rw [e, hi] at hk'; simp at hk'
  obtain ⟨G'', sp', r1, r2, r3, r4, r5, r6, r7⟩ := h.kid p' k' j' hk'
  refine ⟨G'', sp', by rw [upd_ne _ _ e]; exact r1, r2, r3, r4, r5, r6, r7.imp id fun ⟨s1, s2, s3⟩ => ⟨s1, ?_, s3⟩⟩
  by_cases e' : j' = p
  ·subst e'; rw [upd_same]
  ·rw [upd_ne _ _ e']; exact s2
 ·obtain ⟨r1, r2, r3, G'', ψ, r4, r5⟩ := h.decs j' a φ hd'
  exact ⟨r1, r2, r3, G'', ψ, by rw [upd_ne _ _ (hd j' a φ hd')]; exact r4, r5⟩
 ·obtain ⟨r1, r2, r3, r4⟩ := h.gone j' ha'
  by_cases e' : j' = p
  ·subst e'; exact ⟨r1, r2, upd_same _ _ _, r4⟩
  ·exact ⟨r1, r2, by rw [upd_ne _ _ e']; exact r3, r4⟩
end Go.Gw
namespace Go.Gw
open Go Go.Conc Go.ConcN
open Go.ConcR (KK wgBlock WgAt stA smA loc_of_ofEvent)
structure Fr (w w' : World) (X : Nat → Prop) : Prop where
 tape : w'.tape = w.tape
 os : w'.os = w.os
 output : w'.output = w.output
 size : w.heap.size ≤ w'.heap.size
 shape : ∀ b, b < w.heap.size → w'.shape? b = w.shape? b
 keep : ∀ b, b < w.heap.size → ¬ X b → w'.heap[b]? = w.heap[b]?
theorem Fr.rely {w w' : World} {X : Nat → Prop} {c : Ctx} (f : Fr w w' X) (hM : ∀ b, c.M b → b < w.heap.size ∧ ¬ X b) (hR : ∀ a, c.R a → a.block < w.heap.size ∧ ¬ X a.block) : Rely c w w' :=
 ⟨f.tape, f.os, f.output, f.size, f.shape, fun b hb => f.keep b (hM b hb).1 (hM b hb).2, fun a ha => f.keep _ (hR a ha).1 (hR a ha).2⟩
theorem Fr.refl (w : World) (X : Nat → Prop) : Fr w w X := ⟨rfl, rfl, rfl, Nat.le_refl _, fun _ _ => rfl, fun _ _ _ => rfl⟩
theorem Fr.at {w w' : World} {X : Nat → Prop} (f : Fr w w' X) (d : Nat) : Fr w (w'.at d) X := ⟨f.tape, f.os, f.output, f.size, f.shape, f.keep⟩
def Unc (d : Nat) (es : Array Event) : Prop :=
 ∀ j e, es[j]? = some e → (MemAct.ofEvent e).touch? = none ∨ (∃ x, (MemAct.ofEvent e).touch? = some x ∧ x.kind = .atomic ∧ 0 < deafBehind d (es.extract 0 j))
theorem Unc.none {d : Nat} {es : Array Event} (h : ∀ e ∈ es, (MemAct.ofEvent e).touch? = none) : Unc d es := fun _ e he => .inl (h e (Array.mem_of_getElem? he))
theorem BookK.unc {b d : Nat} {es : Array Event} (h : BookK b d es) : Unc d es := fun j e he => (h j e he).imp id fun ⟨x, h1, _, h2, h3⟩ => ⟨x, h1, h2, h3⟩
theorem Unc.at {t : Trace} {i : Nat} {fn : FuncId} {pos : String} {es : Array Event} (h : Unc (Deaf t i) es) {k : Nat} (hk : t.size ≤ k) : ¬ (t ++ MemOp.ofEvents i fn pos es).counts k := by
 rintro ⟨x, hx, _, hkd⟩
 obtain ⟨op, ho, hox⟩ := touch_of hx
 have hj : (MemOp.ofEvents i fn pos es)[k - t.size]? = some op := by
  rw [Array.getElem?_append] at ho
  simpa [Nat.not_lt.2 hk] using ho
 rw [ofEvents_eq, Array.getElem?_map] at hj
 obtain ⟨e, he, rfl⟩ := Option.map_eq_some_iff.1 hj
 have hjs : k - t.size ≤ es.size := by
  rcases Nat.lt_or_ge (k - t.size) es.size with h' | h'
  ·omega
  ·rw [Array.getElem?_eq_none h'] at he; cases he
 rcases h _ e he with h0 | ⟨y, hy, hya, hd⟩
 ·simp only at hox; rw [h0] at hox; cases hox
 ·simp only at hox
  rw [hy] at hox; cases hox
  rcases hkd with hk' | ⟨g, hg, hdf⟩
  ·exact hk' hya
  ·have hg1 : g = i := by simp [Trace.g?, ho] at hg; exact hg.symm
   subst hg1
   have := deaf_inside t g fn pos es (k - t.size) hjs
   rw [show t.size + (k - t.size) = k by omega, hdf] at this
   omega
theorem mem_ops {i : Nat} {fn : FuncId} {pos : String} {es : Array Event} {op : MemOp} (h : op ∈ MemOp.ofEvents i fn pos es) : op.g = i ∧ ∃ e ∈ es, op.act = MemAct.ofEvent e := by
 rw [ofEvents_eq] at h
 obtain ⟨e, he, rfl⟩ := Array.mem_map.1 h
 exact ⟨rfl, e, he, rfl⟩
theorem WgOk.mono {ty : TypeId} {V : Nat} {dec : Nat → Option (Nat × KPh)} {ps ps' : PS} {a : Nat} {w w' : World} {φ : PPh} (h : WgOk ty V dec ps a w φ) (hw : w'.heap[a]? = w.heap[a]?) (hp : ps' = .sem → ps = .sem) : WgOk ty V dec ps' a w' φ := by
 have tr : ∀ {st sm : Int}, WgAt ty a w st sm → WgAt ty a w' st sm := fun x => hw.trans x
 cases φ with
 | idle mx => exact ⟨h.1, h.2.1, h.2.2.1, tr h.2.2.2⟩
 | pend mx => exact ⟨h.1, h.2.1, h.2.2.1, tr h.2.2.2⟩
 | w2 vs => exact ⟨h.1, h.2.1, h.2.2.1, tr h.2.2.2⟩
 | reg =>
  refine ⟨h.1, ?_⟩
  rcases h.2 with ⟨h1, h2, h3⟩ | ⟨h1, L, φ, h2, h3, h4, h5⟩ | ⟨h1, h2, h3, h4⟩
  ·exact .inl ⟨h1, h2, tr h3⟩
  ·exact .inr (.inl ⟨h1, L, φ, h2, h3, h4, h5.imp (fun x => ⟨x.1, tr x.2⟩) fun x => ⟨x.1, tr x.2⟩⟩)
  ·exact .inr (.inr ⟨h1, h2, tr h3, fun e => h4 (hp e)⟩)
 | w4 => exact ⟨h.1, h.2.1, tr h.2.2⟩
 | fin => exact h
theorem ChOk.mono {G : Grp} {ids : List Nat} {fly : Nat → Option Fly} {w w' : World} {buf : Array Value} {s r : Nat} (h : ChOk G ids fly w buf s r) (hw : w'.heap[G.ch]? = w.heap[G.ch]?) : ChOk G ids fly w' buf s r :=
 ⟨hw.trans h.at_, h.un, h.sum, h.cnt, h.msg⟩
theorem cw_le_cntOf {n : Nat} {dec : Nat → Option (Nat × KPh)} {a j : Nat} (hj : j < n) (hd : dec j = some (a, .cnt)) : 0 < cntOf n dec a := by
 have := le_sumTo (f := fun j => cw a (dec j)) hj
 simp only [hd, cw, if_true] at this
 exact this
def wps (γ : Gh) (i : Nat) (wake : Bool) (p : Nat) : PS := if p = i then .run else if wake = true ∧ γ.ps p = .sem then .run else γ.ps p
section
variable {P : Program} {ty : TypeId} {Post : Value → World → Prop} {gs : Array Goroutine} {w : World} {t : Trace} {γ : Gh}
theorem owing_open {n : Nat} {snd : Nat → Option (Nat × Spec)} {dec : Nat → Option (Nat × KPh)} {grp : Nat → Option Grp} {par acc : Nat → Nat} {ids : Nat → List Nat} {fly : Nat → Option Fly} {ps : Nat → PS}
  (li : Links n snd dec grp par acc ids fly) (hwg : ∀ p G a φ, grp p = some G → G.wg = some (a, φ) → WgOk ty (cntOf n dec a) dec (ps p) a w φ) {j ch : Nat} {sp : Spec} (hj : snd j = some (ch, sp)) {G : Grp} (hG : grp (par j) = some G) : G.closed = false := by
 obtain ⟨k, G', h1, h2, h3, h4, h5, h6, h7, h8, h9⟩ := li.owes hj
 rw [hG] at h2; cases h2
 cases hc : G.closed with
 | false => rfl
 | true =>
  obtain ⟨a, ha⟩ := (li.gn _ _ hG).2.2.2.2.1 hc
  have hv := hwg _ _ _ _ hG ha
  rw [ha] at h9
  have := cw_le_cntOf h6 (by simpa using h9)
  have := hv.1
  omega
theorem GI.rely (h : GI P ty Post gs w t γ) {i j : Nat} {w' : World} {X : Nat → Prop} (fr : Fr w w' X) (hX : ∀ b, X b → γ.M i b ∨ ∃ p, ShOf γ.grp p b) (hj : j ≠ i) : Rely (γ.cx j) w w' := by
 refine fr.rely (fun b hb => ⟨h.lie.ml j b hb, fun x => ?_⟩) (fun a ha => ⟨h.lie.rl j a ha, fun x => ?_⟩)
 ·rcases hX b x with m | ⟨p, hp⟩
  ·exact hj (h.lie.mm j i b hb m)
  ·exact h.lie.ms j p b hb hp
 ·rcases hX _ x with m | ⟨p, hp⟩
  ·exact h.lie.rm j i a ha m
  ·exact h.lie.rs j p a ha hp
theorem Lie.turn {sz sz' : Nat} {M : Nat → Nat → Prop} {R : Nat → Addr → Prop} {S T S' T' : Nat → Nat → Prop} (L : Lie sz M R S T) {i : Nat} {Mi : Nat → Prop} {Ri : Addr → Prop} (hsz : sz ≤ sz')
  (hMi : ∀ b, Mi b → b < sz' ∧ (M i b ∨ sz ≤ b)) (hRo : ∀ a, Ri a → R i a ∨ (a.block < sz' ∧ (M i a.block ∨ sz ≤ a.block) ∧ ¬ Mi a.block))
  (hS : ∀ p b, S' p b → S p b) (hT : ∀ j b, T' j b → T j b ∧ ∃ p, S' p b) : Lie sz' (upd M i Mi) (upd R i Ri) S' T' := by
 have iM : ∀ {j b : Nat}, upd M i Mi j b → M j b ∨ (j = i ∧ sz ≤ b) := by
  intro j b hb
  by_cases e : j = i
  ·subst e; rw [upd_same] at hb; exact (hMi b hb).2.imp id fun x => ⟨rfl, x⟩
  ·rw [upd_ne _ _ e] at hb; exact .inl hb
 refine ⟨fun j k b hj hk => ?_, fun j b hj => ?_, fun j p b hj hp => ?_, fun j a ha => ?_, fun j k a ha hk => ?_, fun j p a ha hp => ?_, fun p q b hp hq => L.ss p q b (hS p b hp) (hS q b hq), fun p b hp => Nat.lt_of_lt_of_le (L.sl p b (hS p b hp)) hsz, fun j b hb => (hT j b hb).2⟩
 ·rcases iM hj with h1 | ⟨h1, h1'⟩ <;> rcases iM hk with h2 | ⟨h2, h2'⟩
  ·exact L.mm j k b h1 h2
  ·have := L.ml _ _ h1; omega
  ·have := L.ml _ _ h2; omega
  ·rw [h1, h2]
 ·by_cases e : j = i
  ·subst e; rw [upd_same] at hj; exact (hMi b hj).1
  ·rw [upd_ne _ _ e] at hj; exact Nat.lt_of_lt_of_le (L.ml j b hj) hsz
 ·rcases iM hj with h1 | ⟨h1, h1'⟩
  ·exact L.ms j p b h1 (hS p b hp)
  ·have := L.sl p b (hS p b hp); omega
 ·by_cases e : j = i
  ·subst e
   rw [upd_same] at ha
   rcases hRo a ha with h1 | h1
   ·exact Nat.lt_of_lt_of_le (L.rl j a h1) hsz
   ·exact h1.1
  ·rw [upd_ne _ _ e] at ha; exact Nat.lt_of_lt_of_le (L.rl j a ha) hsz
 ·have old : ∀ {j' : Nat}, R j' a → False := fun h1 => by
   rcases iM hk with h2 | ⟨h2, h2'⟩
   ·exact L.rm _ k a h1 h2
   ·have := L.rl _ a h1; omega
  by_cases e : j = i
  ·subst e
   rw [upd_same] at ha
   rcases hRo a ha with h1 | ⟨h1, h2, h3⟩
   ·exact old h1
   ·by_cases e' : k = j
    ·subst e'; rw [upd_same] at hk; exact h3 hk
    ·rw [upd_ne _ _ e'] at hk
     rcases h2 with h2 | h2
     ·exact e' (L.mm _ _ _ hk h2)
     ·have := L.ml _ _ hk; omega
  ·rw [upd_ne _ _ e] at ha; exact old ha
 ·by_cases e : j = i
  ·subst e
   rw [upd_same] at ha
   rcases hRo a ha with h1 | ⟨h1, h2 | h2, h3⟩
   ·exact L.rs j p a h1 (hS _ _ hp)
   ·exact L.ms j p _ h2 (hS _ _ hp)
   ·have := L.sl p _ (hS _ _ hp); omega
  ·rw [upd_ne _ _ e] at ha; exact L.rs j p a ha (hS _ _ hp)
theorem Sit.woken {main : Bool} {n : Nat} {c : Ctx} {o g g' : Goroutine} {w' : World} {s : PS} (h : Sit P ty Post main n c o w' s) (hr : g'.status = .running ∨ g'.status = .finished)
  (hs : ∀ ch sp, c.send = some (ch, sp) → ∃ cap buf s r, w'.heap[ch]? = some (.chan cap buf false s r false)) (hG : ∀ G, c.grp = some G → ∃ buf s r, w'.heap[G.ch]? = some (.chan G.cap buf G.closed s r false)) :
  Sit P ty Post main n c (woken P g g' w' o) w' (if mayWake P g = true ∧ s = .sem then .run else s) := by
 cases h with
 | run h =>
  rw [if_neg (by simp)]
  have : Go.Conc.woken P g g' w' o = o := by
   unfold Go.Conc.woken
   split
   ·exact again_running _ (h.status.imp id fun x => x.1)
   ·rfl
  rw [this]; exact .run h
 | snd hm hg hc hG' hdc hd hok hR k =>
  rw [if_neg (by simp)]
  obtain ⟨cap, buf, s, r, hh⟩ := hs _ _ hc
  rw [hg, woken_send_open _ _ hh]
  exact .snd hm rfl hc hG' hdc hd hok hR k
 | rcv hg hG' hk hcap hcl hd k =>
  rw [if_neg (by simp)]
  obtain ⟨buf, s, r, hh⟩ := hG _ hG'
  rw [hcl] at hh
  rw [hg, woken_recv_open _ _ hh]
  exact .rcv rfl hG' hk hcap hcl hd k
 | sem hG' hwg hst ho h =>
  by_cases hm : mayWake P g = true
  ·rw [if_pos ⟨hm, rfl⟩]
   have : Go.Conc.woken P g g' w' o = { o with status := .running } := by
    unfold Go.Conc.woken
    rw [if_pos (by rcases hr with e | e <;> simp [hm, e])]
    simp [Goroutine.again, hst, ho]
   rw [this]; exact .run h
  ·rw [if_neg (fun x => hm x.1)]
   have : Go.Conc.woken P g g' w' o = o := by
    unfold Go.Conc.woken
    rw [if_neg (by simp [hm])]
   rw [this]; exact .sem hG' hwg hst ho h
theorem cx_other {γ : Gh} {i j : Nat} (hj : j ≠ i) {Mi : Nat → Prop} {Ri : Addr → Prop} {di : Nat} {dec' : Nat → Option (Nat × KPh)} {grp' : Nat → Option Grp} {nn' : Nat → Nat} {ps' : Nat → PS} (hd : dec' j = γ.dec j) (hg : grp' j = γ.grp j) :
  Gh.cx { γ with M := upd γ.M i Mi, R := upd γ.R i Ri, d := upd γ.d i di, dec := dec', grp := grp', nn := nn', ps := ps' } j = γ.cx j := by
 simp [Gh.cx, upd_ne _ _ hj, hd, hg]
theorem GI.go (h : GI P ty Post gs w t γ) {i : Nat} {g g' : Goroutine} {w' : World} {es : Array Event} {sl : Option (Nat × Nat)} (hi : gs[i]? = some g) (hst : stepG P (i == 0) g w = .go g' w' es) (hr : g'.status = .running ∨ g'.status = .finished)
  {X : Nat → Prop} (fr : Fr w w' X) (hX : ∀ b, X b → γ.M i b ∨ ∃ p, ShOf γ.grp p b) {Mi : Nat → Prop} {Ri : Addr → Prop} {dec' : Nat → Option (Nat × KPh)} {grp' : Nat → Option Grp} {n' : Nat} (hn : n' < γ.nn i)
  (hMi : ∀ b, Mi b → b < w'.heap.size ∧ (γ.M i b ∨ w.heap.size ≤ b)) (hRi : ∀ a, γ.R i a → Ri a) (hRo : ∀ a, Ri a → γ.R i a ∨ (a.block < w'.heap.size ∧ (γ.M i a.block ∨ w.heap.size ≤ a.block) ∧ ¬ Mi a.block))
  (hu : ∀ e ∈ es, ∀ x, (MemAct.ofEvent e).touch? = some x → OkT (fun b => γ.M i b ∨ (w.heap.size ≤ b ∧ b < w'.heap.size)) (γ.R i) (ShOf γ.grp) (TchOf γ.grp γ.dec) i x)
  (hacc : γ.acc i = i ∨ ∀ e ∈ es, (MemAct.ofEvent e).touch? = none) (hfl : ∀ f, γ.fly i = some f → Unc (γ.d i) es)
  (hli : Links gs.size γ.snd dec' grp' γ.par γ.acc γ.ids γ.fly) (hS : ∀ p b, ShOf grp' p b ↔ ShOf γ.grp p b) (hT : ∀ j b, TchOf grp' dec' j b → TchOf γ.grp γ.dec j b) (hgc : ∀ p G, γ.grp p = some G → ∃ G', grp' p = some G' ∧ G'.ch = G.ch)
  (hdo : ∀ j, j ≠ i → dec' j = γ.dec j) (hgo : ∀ j, j ≠ i → grp' j = γ.grp j)
  (hch : ∀ p G, grp' p = some G → ∃ buf s r, ChOk G (γ.ids p) γ.fly w' buf s r)
  (hwg : ∀ p G a φ, grp' p = some G → G.wg = some (a, φ) → WgOk ty (cntOf gs.size dec' a) dec' (wps γ i (mayWake P g) p) a w' φ)
  (hW : W P ty Post (i == 0) n' ⟨Mi, Ri, deafBehind (γ.d i) es, γ.snd i, dec' i, grp' i⟩ g' w') :
  ∃ m' ops μ', runT P (crowd gs w sl) i = (.next m', ops) ∧ Lt2 μ' (sumTo gs.size γ.nn, sumTo gs.size fun j => if γ.ps j = .run then 1 else 0) ∧ Inv P ty Post μ' m' (t ++ ops) := by
 have hlt : i < gs.size := (Array.getElem?_eq_some_iff.1 hi).1
 refine ⟨_, _, _, runT_crowd_go hi hst, ?_, (gs.map (woken P g g' w')).setIfInBounds i g', w', sl, { γ with M := upd γ.M i Mi, R := upd γ.R i Ri, d := upd γ.d i (deafBehind (γ.d i) es), dec := dec', grp := grp', nn := upd γ.nn i n', ps := wps γ i (mayWake P g) }, rfl, ?_, rfl⟩
 ·refine .left _ _ ?_
  have := sumTo_upd γ.nn n' (fun x => x) hlt
  simp only [Array.size_setIfInBounds, Array.size_map]
  have this : sumTo gs.size (upd γ.nn i n') + γ.nn i = sumTo gs.size γ.nn + n' := this
  omega
 have hsz : ((gs.map (woken P g g' w')).setIfInBounds i g').size = gs.size := by simp
 have hui : ∀ op ∈ MemOp.ofEvents i g.frame.fn g.frame.place es, op.g = i ∧ ∀ x, op.act.touch? = some x → OkT (fun b => γ.M i b ∨ (w.heap.size ≤ b ∧ b < w'.heap.size)) (γ.R i) (ShOf γ.grp) (TchOf γ.grp γ.dec) i x := fun op ho => by
  obtain ⟨h1, e, he, h2⟩ := mem_ops ho
  exact ⟨h1, fun x hx => hu e he x (h2 ▸ hx)⟩
 have hacc' : γ.acc i = i ∨ ∀ op ∈ MemOp.ofEvents i g.frame.fn g.frame.place es, op.act.touch? = none := hacc.imp id fun hh op ho => by
  obtain ⟨h1, e, he, h2⟩ := mem_ops ho
  rw [h2]; exact hh e he
 have hrl : ∀ {j : Nat}, j ≠ i → Rely (γ.cx j) w w' := fun hj => h.rely fr hX hj
 refine ⟨?_, ?_, ?_, ?_, ?_, ?_, hch, ?_, ?_, ?_⟩
 ·rw [hsz]; exact hli
 ·exact h.lie.turn fr.size hMi hRo (fun p b => (hS p b).1) fun j b hb => ⟨hT j b hb, by
   obtain ⟨p, hp⟩ := h.lie.ts j b (hT j b hb)
   exact ⟨p, (hS p b).2 hp⟩⟩
 ·rw [hsz]
  refine (h.ti.step h.lie hlt fr.size hacc' hui).freeze (fun j b hb => ?_) (fun j a ha => ?_) (fun j b p hb hp => .inl ⟨hT j b hb, (hS p b).1 hp⟩)
  ·have hb : upd γ.M i Mi j b := hb
   by_cases e : j = i
   ·subst e
    rw [upd_same] at hb
    exact (hMi b hb).2.imp id fun x => ⟨rfl, x, (hMi b hb).1⟩
   ·rw [upd_ne _ _ e] at hb; exact .inl hb
  ·have ha : upd γ.R i Ri j a := ha
   by_cases e : j = i
   ·subst e
    rw [upd_same] at ha
    rcases hRo a ha with h1 | ⟨h1, h2, _⟩
    ·exact .inl h1
    ·exact .inr (h2.imp id fun x => ⟨rfl, x, h1⟩)
   ·rw [upd_ne _ _ e] at ha; exact .inl ha
 ·intro j b hb
  rw [hsz]
  by_cases e : j = i
  ·subst e; exact hlt
  ·exact h.mz j b (by simpa only [upd_ne _ _ e] using hb)
 ·intro j hj
  rw [hsz] at hj
  by_cases e : j = i
  ·subst e
   rw [Deaf_own, h.df j hj]; exact (upd_same _ _ _).symm
  ·rw [Deaf_other t (fun x => e x.symm) _ (fun op ho => (mem_ops ho).1), h.df j hj]; exact (upd_ne _ _ e).symm
 ·intro j f hf
  obtain ⟨G, h1, h2, h3, h4⟩ := h.ft j f hf
  obtain ⟨G', h1', h2'⟩ := hgc _ _ h1
  have hRj : ∀ a, f.R a → upd γ.R i Ri j a := fun a ha => by
   by_cases e : j = i
   ·subst e; rw [upd_same]; exact hRi a (h3 a ha)
   ·rw [upd_ne _ _ e]; exact h3 a ha
  refine ⟨G', h1', ?_, hRj, ?_⟩
  ·rw [h2']
   refine h2.app (fun k g'' hk hg ha hc => ?_) (fun op ho x hx a ha hl => ?_)
   ·obtain ⟨op, ho, hog⟩ := Option.map_eq_some_iff.1 hg
    rcases getElem?_append_cases ho with ⟨hk', _⟩ | ⟨_, hou⟩
    ·omega
    ·have e : g'' = i := by rw [← hog]; exact (mem_ops hou).1
     subst e
     by_cases ej : g'' = j
     ·subst ej
      have := hfl f hf
      rw [← h.df g'' hlt] at this
      exact this.at hk hc
     ·rcases hacc' with e' | e'
      ·exact ej (e'.symm.trans ha)
      ·obtain ⟨x, hx, _⟩ := hc
       obtain ⟨op', ho', hox⟩ := touch_of hx
       rw [ho] at ho'; cases ho'
       rw [e' op hou] at hox; cases hox
   ·have hRa := h3 a ha
    rcases (hui op ho).2 x hx with ⟨b', hb', hM | hn'⟩ | ⟨a', ha', _, hw⟩ | ⟨b', hb', hT', _⟩
    ·rw [hl] at hb'; simp only [bk, Option.some.injEq] at hb'; subst hb'; exact absurd hM (h.lie.rm _ _ _ hRa)
    ·rw [hl] at hb'; simp only [bk, Option.some.injEq] at hb'; subst hb'; have := h.lie.rl _ _ hRa; omega
    ·exact hw
    ·rw [hl] at hb'; simp only [bk, Option.some.injEq] at hb'; subst hb'; obtain ⟨p, hp⟩ := h.lie.ts _ _ hT'; exact absurd hp (h.lie.rs _ _ _ hRa)
  ·refine f.sp.keep _ _ _ _ (fun a ha => ?_) h4
   have hRa := h3 a ha
   have hnX : ¬ X a.block := fun x => by
    rcases hX _ x with m | ⟨p, hp⟩
    ·exact h.lie.rm _ _ _ hRa m
    ·exact h.lie.rs _ _ _ hRa hp
   have hk := fr.keep _ (h.lie.rl _ _ hRa) hnX
   exact ⟨by simp only [World.cell?, hk], fr.shape _ (h.lie.rl _ _ hRa)⟩
 ·intro p G a φ hG ha
  rw [hsz]; exact hwg p G a φ hG ha
 ·intro j gj hj
  by_cases e : j = i
  ·subst e
   rw [Array.getElem?_setIfInBounds_self_of_lt (by simpa using hlt)] at hj
   cases hj
   have hp : wps γ j (mayWake P g) j = .run := by simp [wps]
   show Sit P ty Post (j == 0) (upd γ.nn j n' j) _ _ _ (wps γ j (mayWake P g) j)
   rw [hp, upd_same]
   refine .run ?_
   simp only [Gh.cx, upd_same]
   exact hW
  ·rw [Array.getElem?_setIfInBounds_ne (fun x => e x.symm), Array.getElem?_map] at hj
   obtain ⟨o, ho, rfl⟩ := Option.map_eq_some_iff.1 hj
   have hs := (h.sit j o ho).rely (hrl e)
   have hp : wps γ i (mayWake P g) j = if mayWake P g = true ∧ γ.ps j = .sem then .run else γ.ps j := by simp [wps, e]
   show Sit P ty Post (j == 0) (upd γ.nn i n' j) _ _ _ (wps γ i (mayWake P g) j)
   rw [hp, upd_ne _ _ e, cx_other e (hdo j e) (hgo j e)]
   refine hs.woken hr (fun ch sp hc => ?_) (fun G hG => ?_)
   ·obtain ⟨k, G, _, h2, h3, _⟩ := hli.owes hc
    obtain ⟨buf, s, r, hb⟩ := hch _ _ h2
    have ho := owing_open hli hwg hc h2
    exact ⟨G.cap, buf, s, r, by rw [← h3, hb.at_, ho]⟩
   ·have hG' : γ.grp j = some G := hG
    obtain ⟨buf, s, r, hb⟩ := hch j G (by rw [hgo j e]; exact hG')
    exact ⟨buf, s, r, hb.at_⟩
 ·intro p hp j hj hs
  have aux : ∀ {q : Nat} {x : PS}, wps γ i (mayWake P g) q = x → x ≠ .run → γ.ps q = x := by
   intro q x hq hx
   simp only [wps] at hq
   split at hq
   ·exact absurd hq.symm hx
   ·split at hq
    ·exact absurd hq.symm hx
    ·exact hq
  exact h.nr p (aux hp (by simp)) j hj (aux hs (by simp))
end
end Go.Gw
namespace Go.Gw
open Go Go.Conc Go.ConcN
open Go.ConcR (KK wgBlock WgAt stA smA)
theorem shape_setCell (w : World) (a : Addr) (v : Value) (b : Nat) : (w.setCell a v).shape? b = w.shape? b := by
 unfold World.shape? World.setCell
 simp only [Array.getElem?_modify]
 by_cases e : a.block = b
 ·subst e
  rw [if_pos rfl]
  cases h : w.heap[a.block]? with
  | none => rfl
  | some o => cases o <;> simp <;> split <;> simp
 ·rw [if_neg e]
theorem Fr.setCell (w : World) (a : Addr) (v : Value) : Fr w (w.setCell a v) (fun b => b = a.block) :=
 ⟨rfl, rfl, rfl, by simp [World.setCell], fun b _ => shape_setCell w a v b, fun b _ hb => by simp only [World.setCell, Array.getElem?_modify]; rw [if_neg fun e => hb e.symm]⟩
theorem Fr.setChan {w : World} {c cap s r : Nat} {buf : Array Value} {cl tm : Bool} (h : w.heap[c]? = some (.chan cap buf cl s r tm)) (cap' : Nat) (buf' : Array Value) (cl' : Bool) (s' r' : Nat) (tm' : Bool) : Fr w (w.setChan c cap' buf' cl' s' r' tm') (fun b => b = c) := by
 have hlt : c < w.heap.size := (Array.getElem?_eq_some_iff.1 h).1
 refine ⟨rfl, rfl, rfl, by simp [World.setChan], fun b _ => ?_, fun b _ hb => by simp only [World.setChan]; rw [Array.getElem?_setIfInBounds_ne fun e => hb e.symm]⟩
 unfold World.shape? World.setChan
 by_cases e : c = b
 ·subst e
  simp only [Array.getElem?_setIfInBounds_self_of_lt hlt, h]
 ·simp only [Array.getElem?_setIfInBounds_ne e]
theorem setChan_at {w : World} {c cap s r : Nat} {buf : Array Value} {cl tm : Bool} (h : w.heap[c]? = some (.chan cap buf cl s r tm)) (cap' : Nat) (buf' : Array Value) (cl' : Bool) (s' r' : Nat) (tm' : Bool) : (w.setChan c cap' buf' cl' s' r' tm').heap[c]? = some (.chan cap' buf' cl' s' r' tm') := by
 have hlt : c < w.heap.size := (Array.getElem?_eq_some_iff.1 h).1
 simp only [World.setChan, Array.getElem?_setIfInBounds_self_of_lt hlt]
theorem cntOf_upd {n : Nat} {dec : Nat → Option (Nat × KPh)} {i : Nat} (hi : i < n) (x : Option (Nat × KPh)) (a : Nat) : cntOf n (upd dec i x) a + cw a (dec i) = cntOf n dec a + cw a x :=
 sumTo_upd dec x (cw a) hi
theorem WgOk.dec {ty : TypeId} {V : Nat} {dec dec' : Nat → Option (Nat × KPh)} {ps : PS} {a : Nat} {w : World} {φ : PPh} (h : WgOk ty V dec ps a w φ) (hd : ∀ j ψ, dec' j = some (a, ψ) ↔ dec j = some (a, ψ)) : WgOk ty V dec' ps a w φ := by
 have nl : NoLast dec a → NoLast dec' a := fun x j ψ e => x j ψ ((hd j ψ).1 e)
 cases φ with
 | idle mx => exact ⟨h.1, h.2.1, nl h.2.2.1, h.2.2.2⟩
 | pend mx => exact ⟨h.1, h.2.1, nl h.2.2.1, h.2.2.2⟩
 | w2 vs => exact ⟨h.1, h.2.1, nl h.2.2.1, h.2.2.2⟩
 | reg =>
  refine ⟨h.1, ?_⟩
  rcases h.2 with ⟨h1, h2, h3⟩ | ⟨h1, L, φ, h2, h3, h4, h5⟩ | ⟨h1, h2, h3, h4⟩
  ·exact .inl ⟨h1, nl h2, h3⟩
  ·exact .inr (.inl ⟨h1, L, φ, (hd _ _).2 h2, h3, fun j ψ e => h4 j ψ ((hd _ _).1 e), h5⟩)
  ·exact .inr (.inr ⟨h1, nl h2, h3, h4⟩)
 | w4 => exact ⟨h.1, nl h.2.1, h.2.2⟩
 | fin => exact ⟨h.1, nl h.2⟩
theorem wps_sem {γ : Gh} {i p : Nat} {b : Bool} (h : wps γ i b p = .sem) : γ.ps p = .sem ∧ p ≠ i ∧ b = false := by
 simp only [wps] at h
 split at h
 ·cases h
 ·split at h
  ·cases h
  ·refine ⟨h, by assumption, ?_⟩
   cases b with
   | false => rfl
   | true =>
    rename_i hh
    exact absurd (⟨rfl, h⟩ : true = true ∧ γ.ps p = .sem) hh
section
variable {P : Program} {ty : TypeId} {Post : Value → World → Prop} {gs : Array Goroutine} {w : World} {t : Trace} {γ : Gh} {i : Nat} {g g' : Goroutine} {w' : World} {es : Array Event} {sl : Option (Nat × Nat)}
def Nxt (P : Program) (ty : TypeId) (Post : Value → World → Prop) (gs : Array Goroutine) (w : World) (t : Trace) (γ : Gh) (sl : Option (Nat × Nat)) (i : Nat) : Prop :=
 ∃ m' ops μ', runT P (crowd gs w sl) i = (.next m', ops) ∧ Lt2 μ' (sumTo gs.size γ.nn, sumTo gs.size fun j => if γ.ps j = .run then 1 else 0) ∧ Inv P ty Post μ' m' (t ++ ops)
theorem GI.wg_kept (h : GI P ty Post gs w t γ) {X : Nat → Prop} (fr : Fr w w' X) (wake : Bool) {p a : Nat} {G : Grp} {φ : PPh} (hG : γ.grp p = some G) (ha : G.wg = some (a, φ)) (hX : ¬ X a) : WgOk ty (cntOf gs.size γ.dec a) γ.dec (wps γ i wake p) a w' φ :=
 (h.wg p G a φ hG ha).mono (fr.keep a (h.lie.sl p a ⟨G, hG, .inr ⟨φ, ha⟩⟩) hX) fun e => (wps_sem e).1
theorem GI.ch_kept (h : GI P ty Post gs w t γ) {X : Nat → Prop} (fr : Fr w w' X) {p : Nat} {G : Grp} (hG : γ.grp p = some G) (hX : ¬ X G.ch) : ∃ buf s r, ChOk G (γ.ids p) γ.fly w' buf s r := by
 obtain ⟨buf, s, r, hc⟩ := h.ch p G hG
 exact ⟨buf, s, r, hc.mono (fr.keep _ (h.lie.sl p _ ⟨G, hG, .inl rfl⟩) hX)⟩
theorem GI.priv (h : GI P ty Post gs w t γ) (hi : gs[i]? = some g) (hst : stepG P (i == 0) g w = .go g' w' es) (hr : g'.status = .running) {Mi : Nat → Prop} {Ri : Addr → Prop} {n' : Nat} (hn : n' < γ.nn i)
  (hg : Guar (γ.cx i) Mi Ri w w') (hf : Foot (γ.cx i) w w' es) (hb : i = 0 ∨ γ.snd i ≠ none ∨ (γ.dec i ≠ none ∧ ∀ e ∈ es, (MemAct.ofEvent e).touch? = none))
  (hW : W P ty Post (i == 0) n' { γ.cx i with M := Mi, R := Ri, d := deafBehind (γ.d i) es } g' w') : Nxt P ty Post gs w t γ sl i := by
 have fr : Fr w w' (γ.M i) := ⟨hg.tape, hg.os, hg.output, hg.size, hg.shape, hg.keep⟩
 have hlt : i < gs.size := (Array.getElem?_eq_some_iff.1 hi).1
 have acc : γ.acc i = i := by
  by_cases e : γ.acc i = i
  ·exact e
  ·obtain ⟨h1, h2, h3, h4⟩ := h.li.gone i e
   rcases hb with rfl | hb | hb
   ·exact h.li.za
   ·exact absurd h1 hb
   ·exact absurd h2 hb.1
 refine h.go hi hst (.inl hr) fr (fun b hb => .inl hb) hn hg.mine hg.more hg.ro (fun e he x hx => (hf e he x hx).imp id fun y => .inl y) (.inl acc) (fun f hf' => ?_) h.li (fun _ _ => Iff.rfl) (fun _ _ => id) (fun p G hG => ⟨G, hG, rfl⟩) (fun _ _ => rfl) (fun _ _ => rfl)
  (fun p G hG => h.ch_kept fr hG fun x => h.lie.ms i p _ x ⟨G, hG, .inl rfl⟩) (fun p G a φ hG ha => h.wg_kept fr _ hG ha fun x => h.lie.ms i p _ x ⟨G, hG, .inr ⟨φ, ha⟩⟩) hW
 obtain ⟨_, _, _, _, _, hp, _, _, hs, _⟩ := h.li.flies hf'
 rcases hb with rfl | hb | hb
 ·omega
 ·exact absurd hs hb
 ·exact Unc.none hb.2
theorem sh_ph {grp : Nat → Option Grp} {p : Nat} {G G' : Grp} (hG : grp p = some G) (h1 : G'.ch = G.ch) (h4 : G'.wg.map (·.1) = G.wg.map (·.1)) (q b : Nat) : ShOf (upd grp p (some G')) q b ↔ ShOf grp q b := by
 have gb : ∀ b, GB G' b ↔ GB G b := by
  intro b
  unfold GB
  rw [h1]
  refine or_congr Iff.rfl ?_
  cases e1 : G.wg with
  | none =>
   cases e2 : G'.wg with
   | none => simp
   | some y => rw [e1, e2] at h4; cases h4
  | some x =>
   cases e2 : G'.wg with
   | none => rw [e1, e2] at h4; cases h4
   | some y =>
    rw [e1, e2] at h4
    simp only [Option.map_some, Option.some.injEq] at h4
    obtain ⟨x1, x2⟩ := x
    obtain ⟨y1, y2⟩ := y
    simp only at h4
    subst h4
    simp
 unfold ShOf
 by_cases e : q = p
 ·subst e
  rw [upd_same]
  constructor
  ·rintro ⟨G'', hG'', hb⟩
   cases hG''
   exact ⟨G, hG, (gb b).1 hb⟩
  ·rintro ⟨G'', hG'', hb⟩
   rw [hG] at hG''; cases hG''
   exact ⟨G', rfl, (gb b).2 hb⟩
 ·rw [upd_ne _ _ e]
theorem GI.wgs (h : GI P ty Post gs w t γ) (hi : gs[i]? = some g) (hst : stepG P (i == 0) g w = .go g' w' es) (hr : g'.status = .running) {a : Nat} {G : Grp} {φ φ' : PPh} (hG : γ.grp i = some G) (ha : G.wg = some (a, φ)) (hφ : φ ≠ .fin)
  (fr : Fr w w' (fun b => b = a)) (hbk : Book a es) (hd : deafBehind (γ.d i) es = γ.d i) {n' : Nat} (hn : n' < γ.nn i) (hwg : WgOk ty (cntOf gs.size γ.dec a) γ.dec .run a w' φ')
  (hW : W P ty Post (i == 0) n' { γ.cx i with grp := some (G.ph a φ') } g' w') : Nxt P ty Post gs w t γ sl i := by
 obtain ⟨q1, q2, q3, q4, q5, q6, q7, q8⟩ := h.li.gn i G hG
 have hS := sh_ph (G' := G.ph a φ') hG rfl (by rw [ha]; rfl)
 have own : ShOf γ.grp i a := ⟨G, hG, .inr ⟨φ, ha⟩⟩
 have cl : G.closed = false := by
  cases e : G.closed with
  | false => rfl
  | true =>
   obtain ⟨a', e'⟩ := q5 e
   rw [ha] at e'
   simp only [Option.some.injEq, Prod.mk.injEq] at e'
   exact absurd e'.2 hφ
 have nf : γ.fly i = none := by
  cases e : γ.fly i with
  | none => rfl
  | some f =>
   obtain ⟨_, _, _, _, _, _, _, _, _, hg⟩ := h.li.flies e
   rw [hG] at hg; cases hg
 refine h.go hi hst (.inl hr) fr (fun b hb => .inr ⟨i, by rw [hb]; exact own⟩) (Mi := γ.M i) (Ri := γ.R i) hn (fun b hb => ⟨Nat.lt_of_lt_of_le (h.lie.ml i b hb) fr.size, .inl hb⟩) (fun _ => id) (fun _ => .inl) (fun e he x hx => .inr (.inr ⟨a, (hbk e he x hx).1, .inl own, (hbk e he x hx).2, fun _ => own⟩)) (.inl q2) (fun f hf => by rw [nf] at hf; cases hf)
  (h.li.ph (G' := G.ph a φ') hG rfl rfl rfl (by rw [ha]; rfl) (fun hc => by rw [show (G.ph a φ').closed = G.closed from rfl, cl] at hc; cases hc)) hS
  (fun j b hb => hb.imp (hS j b).1 id) (fun p G' hG' => ?_) (fun _ _ => rfl) (fun j hj => upd_ne _ _ hj) (fun p G' hG' => ?_) (fun p G' a' φ'' hG' ha' => ?_) (by simp only [hd, upd_same]; exact hW)
 ·by_cases e : p = i
  ·subst e; rw [hG] at hG'; cases hG'; exact ⟨_, upd_same _ _ _, rfl⟩
  ·exact ⟨G', by rw [upd_ne _ _ e]; exact hG', rfl⟩
 ·by_cases e : p = i
  ·subst e
   rw [upd_same] at hG'; cases hG'
   obtain ⟨buf, s, r, hc⟩ := h.ch_kept fr hG (fun x => q8 a φ ha x.symm)
   exact ⟨buf, s, r, hc.at_, hc.un, hc.sum, hc.cnt, hc.msg⟩
  ·rw [upd_ne _ _ e] at hG'
   exact h.ch_kept fr hG' fun x => e (h.lie.ss p i a ⟨G', hG', .inl x.symm⟩ own)
 ·by_cases e : p = i
  ·subst e
   rw [upd_same] at hG'; cases hG'
   simp only [Grp.ph, Option.some.injEq, Prod.mk.injEq] at ha'
   obtain ⟨rfl, rfl⟩ := ha'
   rw [show wps γ p (mayWake P g) p = .run by simp [wps]]
   exact hwg
  ·rw [upd_ne _ _ e] at hG'
   exact h.wg_kept fr _ hG' ha' fun x => e (h.lie.ss p i a ⟨G', hG', .inr ⟨φ'', by rw [← x]; exact ha'⟩⟩ own)
theorem GI.wgk (h : GI P ty Post gs w t γ) (hi : gs[i]? = some g) (hst : stepG P (i == 0) g w = .go g' w' es) (hr : g'.status = .running) {a : Nat} {φ : KPh} {x : Option (Nat × KPh)} (hdec : γ.dec i = some (a, φ)) (hsnd : γ.snd i = none) (hx : ∀ b ψ, x = some (b, ψ) → b = a)
  (fr : Fr w w' (fun b => b = a)) (hbk : BookK a (γ.d i) es) (hd : deafBehind (γ.d i) es = γ.d i) {n' : Nat} (hn : n' < γ.nn i)
  (hwg : ∀ G ψ, γ.grp (γ.par i) = some G → G.wg = some (a, ψ) → WgOk ty (cntOf gs.size (upd γ.dec i x) a) (upd γ.dec i x) (wps γ i (mayWake P g) (γ.par i)) a w' ψ)
  (hW : W P ty Post (i == 0) n' { γ.cx i with dec := x } g' w') : Nxt P ty Post gs w t γ sl i := by
 obtain ⟨q1, q2, q3, G, ψ, q4, q5⟩ := h.li.decs i a φ hdec
 have own : ShOf γ.grp (γ.par i) a := ⟨G, q4, .inr ⟨ψ, q5⟩⟩
 have tch : TchOf γ.grp γ.dec i a := .inr ⟨φ, hdec⟩
 refine h.go hi hst (.inl hr) fr (fun b hb => .inr ⟨γ.par i, by rw [hb]; exact own⟩) (Mi := γ.M i) (Ri := γ.R i) hn (fun b hb => ⟨Nat.lt_of_lt_of_le (h.lie.ml i b hb) fr.size, .inl hb⟩) (fun _ => id) (fun _ => .inl) (fun e he y hy => ?_) (.inl q2) (fun f hf => hbk.unc)
  (h.li.done hdec hsnd hx) (fun _ _ => Iff.rfl) (fun j b hb => ?_) (fun p G' hG' => ⟨G', hG', rfl⟩) (fun j hj => upd_ne _ _ hj) (fun _ _ => rfl) (fun p G' hG' => ?_) (fun p G' a' φ'' hG' ha' => ?_) (by simp only [hd, upd_same]; exact hW)
 ·obtain ⟨k, hk⟩ := Array.mem_iff_getElem?.1 he
  rcases hbk k e hk with e0 | ⟨z, hz, h1, h2, _⟩
  ·rw [hy] at e0; cases e0
  ·rw [hy] at hz; cases hz
   exact .inr (.inr ⟨a, h1, tch, by rw [h2]; simp, fun e' => by rw [h2] at e'; cases e'⟩)
 ·rcases hb with hb | ⟨ψ', hb⟩
  ·exact .inl hb
  ·by_cases e : j = i
   ·subst e
    rw [upd_same] at hb
    rw [hx _ _ hb]; exact tch
   ·rw [upd_ne _ _ e] at hb; exact .inr ⟨ψ', hb⟩
 ·exact h.ch_kept fr hG' fun y => by
   have := h.lie.ss p _ a ⟨G', hG', .inl y.symm⟩ own
   rw [this] at hG'
   rw [q4] at hG'; cases hG'
   exact (h.li.gn _ _ q4).2.2.2.2.2.2.2 a ψ q5 y.symm
 ·by_cases e : p = γ.par i
  ·subst e
   rw [q4] at hG'; cases hG'
   rw [q5] at ha'
   simp only [Option.some.injEq, Prod.mk.injEq] at ha'
   obtain ⟨rfl, rfl⟩ := ha'
   exact hwg G _ q4 q5
  ·have hne : a' ≠ a := fun y => e (h.lie.ss p _ a ⟨G', hG', .inr ⟨φ'', by rw [← y]; exact ha'⟩⟩ own)
   have hk := h.wg_kept (i := i) fr (mayWake P g) hG' ha' hne
   have hc := cntOf_upd (dec := γ.dec) q1 x a'
   have hne' : a ≠ a' := fun e => hne e.symm
   have e1 : cw a' (γ.dec i) = 0 := by rw [hdec]; cases φ <;> simp [cw, hne']
   have e2 : cw a' x = 0 := by
    cases hx' : x with
    | none => rfl
    | some y =>
     obtain ⟨b, ψ'⟩ := y
     have := hx b ψ' hx'
     subst this
     cases ψ' <;> simp [cw, hne']
   have e3 : cntOf gs.size (upd γ.dec i x) a' = cntOf gs.size γ.dec a' := by omega
   rw [e3]
   refine hk.dec fun j ψ' => ?_
   by_cases e' : j = i
   ·subst e'
    rw [upd_same, hdec]
    constructor
    ·intro y; exact absurd (hx _ _ y) hne
    ·intro y
     simp only [Option.some.injEq, Prod.mk.injEq] at y
     exact absurd y.1.symm hne
   ·rw [upd_ne _ _ e']
end
end Go.Gw
namespace Go.Gw
open Go Go.Conc Go.ConcN
open Go.ConcR (KK wgBlock WgAt stA smA)
section
variable {P : Program} {ty : TypeId} {Post : Value → World → Prop} {gs : Array Goroutine} {w : World} {t : Trace} {γ : Gh} {i : Nat} {g g' : Goroutine} {w' : World} {es : Array Event} {sl : Option (Nat × Nat)}
theorem GI.ghost (h : GI P ty Post gs w t γ) (hi : gs[i]? = some g) (hps : γ.ps i = .run) {Mi : Nat → Prop} {grp' : Nat → Option Grp} {n' : Nat} (hMi : ∀ b, Mi b → γ.M i b)
  (hli : Links gs.size γ.snd γ.dec grp' γ.par γ.acc γ.ids γ.fly) (hlie : Lie w.heap.size (upd γ.M i Mi) γ.R (ShOf grp') (TchOf grp' γ.dec))
  (hti : ∀ j b p, TchOf grp' γ.dec j b → ShOf grp' p b → (TchOf γ.grp γ.dec j b ∧ ShOf γ.grp p b) ∨ γ.M j b) (hgo : ∀ j, j ≠ i → grp' j = γ.grp j)
  (hgc : ∀ j f G, γ.fly j = some f → γ.grp (γ.par j) = some G → ∃ G', grp' (γ.par j) = some G' ∧ G'.ch = G.ch) (hch : ∀ p G, grp' p = some G → ∃ buf s r, ChOk G (γ.ids p) γ.fly w buf s r)
  (hwg : ∀ p G a φ, grp' p = some G → G.wg = some (a, φ) → WgOk ty (cntOf gs.size γ.dec a) γ.dec (γ.ps p) a w φ)
  (hW : W P ty Post (i == 0) n' ⟨Mi, γ.R i, γ.d i, γ.snd i, γ.dec i, grp' i⟩ g w) : GI P ty Post gs w t { γ with M := upd γ.M i Mi, grp := grp', nn := upd γ.nn i n' } := by
 have up : ∀ {j b : Nat}, upd γ.M i Mi j b → γ.M j b := by
  intro j b hb
  by_cases e : j = i
  ·subst e; rw [upd_same] at hb; exact hMi b hb
  ·rw [upd_ne _ _ e] at hb; exact hb
 refine ⟨hli, hlie, h.ti.freeze (fun j b hb => up hb) (fun _ _ => .inl) hti, fun j b hb => h.mz j b (up hb), h.df, fun j f hf => ?_, hch, hwg, fun j gj hj => ?_, h.nr⟩
 ·obtain ⟨G, h1, h2, h3, h4⟩ := h.ft j f hf
  obtain ⟨G', h1', h2'⟩ := hgc j f G hf h1
  exact ⟨G', h1', by rw [h2']; exact h2, h3, h4⟩
 ·by_cases e : j = i
  ·subst e
   rw [hi] at hj; cases hj
   show Sit P ty Post (j == 0) (upd γ.nn j n' j) _ _ _ (γ.ps j)
   rw [hps, upd_same]
   refine .run ?_
   simp only [Gh.cx, upd_same]
   exact hW
  ·have hs := h.sit j gj hj
   show Sit P ty Post (j == 0) (upd γ.nn i n' j) _ _ _ (γ.ps j)
   rw [upd_ne _ _ e]
   have : Gh.cx { γ with M := upd γ.M i Mi, grp := grp', nn := upd γ.nn i n' } j = γ.cx j := by simp [Gh.cx, upd_ne _ _ e, hgo j e]
   rw [this]; exact hs
theorem upd_self {α : Type} (f : Nat → α) (i : Nat) : upd f i (f i) = f := by
 funext j
 by_cases e : j = i
 ·subst e; exact upd_same _ _ _
 ·exact upd_ne _ _ e
theorem GI.more (h : GI P ty Post gs w t γ) (hi : gs[i]? = some g) (hps : γ.ps i = .run) {n' : Nat} (hW : W P ty Post (i == 0) n' (γ.cx i) g w) : GI P ty Post gs w t { γ with nn := upd γ.nn i n' } := by
 have := h.ghost hi hps (Mi := γ.M i) (grp' := γ.grp) (fun _ => id) h.li (by rw [upd_self]; exact h.lie) (fun _ _ _ a b => .inl ⟨a, b⟩) (fun _ _ => rfl) (fun _ _ G _ hG => ⟨G, hG, rfl⟩) h.ch h.wg hW
 rw [upd_self] at this
 exact this
theorem GI.freeze (h : GI P ty Post gs w t γ) (hi : gs[i]? = some g) (hps : γ.ps i = .run) {n' : Nat} {M' : Nat → Prop} {R' : Addr → Prop} (hM : ∀ b, M' b → γ.M i b) (hR : ∀ a, γ.R i a → R' a) (hro : ∀ a, R' a → γ.R i a ∨ (γ.M i a.block ∧ ¬ M' a.block))
  (hW : W P ty Post (i == 0) n' { γ.cx i with M := M', R := R' } g w) : GI P ty Post gs w t { γ with M := upd γ.M i M', R := upd γ.R i R', nn := upd γ.nn i n' } := by
 have up : ∀ {j b : Nat}, upd γ.M i M' j b → γ.M j b := by
  intro j b hb
  by_cases e : j = i
  ·subst e; rw [upd_same] at hb; exact hM b hb
  ·rw [upd_ne _ _ e] at hb; exact hb
 have ur : ∀ {j : Nat} {a : Addr}, upd γ.R i R' j a → γ.R j a ∨ (γ.M j a.block ∧ ¬ upd γ.M i M' j a.block) := by
  intro j a ha
  by_cases e : j = i
  ·subst e; rw [upd_same] at ha ⊢; exact hro a ha
  ·rw [upd_ne _ _ e] at ha; exact .inl ha
 have old : ∀ {j : Nat} {a : Addr}, γ.R j a → upd γ.R i R' j a := by
  intro j a ha
  by_cases e : j = i
  ·subst e; rw [upd_same]; exact hR a ha
  ·rw [upd_ne _ _ e]; exact ha
 have l := h.lie
 refine ⟨h.li, ⟨fun a b x p q => l.mm a b x (up p) (up q), fun a b p => l.ml a b (up p), fun a p b q => l.ms a p b (up q), fun j a p => ?_, fun j k a p q => ?_, fun j q a p => ?_, l.ss, l.sl, l.ts⟩, h.ti.freeze (fun j b hb => up hb) (fun j a ha => (ur ha).imp id fun x => x.1) (fun j b p a c => .inl ⟨a, c⟩), fun j b hb => h.mz j b (up hb), h.df, fun j f hf => ?_, h.ch, h.wg, fun j gj hj => ?_, h.nr⟩
 ·exact (ur p).elim (l.rl j a) fun x => l.ml j _ x.1
 ·rcases ur p with x | x
  ·exact l.rm j k a x (up q)
  ·have := l.mm j k _ x.1 (up q)
   subst this
   exact x.2 q
 ·exact (ur p).elim (l.rs j q a) fun x => l.ms j q _ x.1
 ·obtain ⟨G, h1, h2, h3, h4⟩ := h.ft j f hf
  exact ⟨G, h1, h2, fun a ha => old (h3 a ha), h4⟩
 ·by_cases e : j = i
  ·subst e
   rw [hi] at hj; cases hj
   show Sit P ty Post (j == 0) (upd γ.nn j n' j) _ _ _ (γ.ps j)
   rw [hps, upd_same]
   refine .run ?_
   simp only [Gh.cx, upd_same]
   exact hW
  ·have hs := h.sit j gj hj
   show Sit P ty Post (j == 0) (upd γ.nn i n' j) _ _ _ (γ.ps j)
   rw [upd_ne _ _ e]
   have : Gh.cx { γ with M := upd γ.M i M', R := upd γ.R i R', nn := upd γ.nn i n' } j = γ.cx j := by simp [Gh.cx, upd_ne _ _ e]
   rw [this]; exact hs
theorem GI.found (h : GI P ty Post gs w t γ) (hi : gs[i]? = some g) (hps : γ.ps i = .run) {n' ch cap : Nat} {wg : Option Nat} (hb : i = 0 ∨ γ.snd i ≠ none) (hG : γ.grp i = none) (hch : γ.M i ch)
  (hw : w.heap[ch]? = some (.chan cap #[] false 0 0 false)) (hwg : ∀ a, wg = some a → γ.M i a ∧ a ≠ ch ∧ WgAt ty a w 0 0) (hcw : wg.isSome = true ↔ 0 < cap)
  (hW : W P ty Post (i == 0) n' { γ.cx i with M := fun b => γ.M i b ∧ b ≠ ch ∧ wg ≠ some b, grp := some { ch, cap, kids := [], wg := wg.map fun a => (a, .idle 0), closed := false } } g w) :
  GI P ty Post gs w t { γ with M := upd γ.M i (fun b => γ.M i b ∧ b ≠ ch ∧ wg ≠ some b), grp := upd γ.grp i (some { ch, cap, kids := [], wg := wg.map fun a => (a, .idle 0), closed := false }), nn := upd γ.nn i n' } := by
 have hlt : i < gs.size := (Array.getElem?_eq_some_iff.1 hi).1
 generalize hG0 : ({ ch, cap, kids := [], wg := wg.map fun a => (a, PPh.idle 0), closed := false } : Grp) = G0 at hW ⊢
 have acc : γ.acc i = i := by
  by_cases e : γ.acc i = i
  ·exact e
  ·obtain ⟨h1, h2, h3, h4⟩ := h.li.gone i e
   rcases hb with rfl | hb
   ·exact h.li.za
   ·exact absurd h1 hb
 have nf : γ.fly i = none := by
  cases e : γ.fly i with
  | none => rfl
  | some f =>
   obtain ⟨_, _, _, _, _, hp, _, _, hs, hg⟩ := h.li.flies e
   rcases hb with rfl | hb
   ·omega
   ·exact absurd hs hb
 have gbM : ∀ {b : Nat}, GB G0 b → γ.M i b ∧ (b = ch ∨ wg = some b) := by
  rintro b (e | ⟨φ, e⟩)
  ·subst hG0; simp only at e; subst e; exact ⟨hch, .inl rfl⟩
  ·subst hG0
   simp only [Option.map_eq_some_iff, Prod.mk.injEq] at e
   obtain ⟨a, ha, rfl, _⟩ := e
   exact ⟨(hwg a ha).1, .inr ha⟩
 have S' : ∀ {p b : Nat}, ShOf (upd γ.grp i (some G0)) p b → ShOf γ.grp p b ∨ (p = i ∧ GB G0 b) := by
  rintro p b ⟨G, hG', hb⟩
  by_cases e : p = i
  ·subst e; rw [upd_same] at hG'; cases hG'; exact .inr ⟨rfl, hb⟩
  ·rw [upd_ne _ _ e] at hG'; exact .inl ⟨G, hG', hb⟩
 have old : ∀ {p b : Nat}, ShOf γ.grp p b → ShOf (upd γ.grp i (some G0)) p b := by
  rintro p b ⟨G, hG', hb⟩
  have e : p ≠ i := fun e => by rw [e, hG] at hG'; cases hG'
  exact ⟨G, by rw [upd_ne _ _ e]; exact hG', hb⟩
 have up : ∀ {j b : Nat}, upd γ.M i (fun b => γ.M i b ∧ b ≠ ch ∧ wg ≠ some b) j b → γ.M j b ∧ (j = i → b ≠ ch ∧ wg ≠ some b) := by
  intro j b hb
  by_cases e : j = i
  ·subst e; rw [upd_same] at hb; exact ⟨hb.1, fun _ => hb.2⟩
  ·rw [upd_ne _ _ e] at hb; exact ⟨hb, fun x => absurd x e⟩
 refine h.ghost hi hps (fun b hb => hb.1) ?_ ?_ (fun j b p hb hp => ?_) (fun j hj => upd_ne _ _ hj) (fun j f G hf hG' => ⟨G, ?_, rfl⟩) (fun p G hG' => ?_) (fun p G a φ hG' ha => ?_) (by rw [upd_same]; exact hW)
 ·refine h.li.found hlt acc hG nf (by subst hG0; rfl) (by subst hG0; rfl) ?_ ?_
  ·subst hG0; simpa using hcw
  ·intro a φ ha
   subst hG0
   simp only [Option.map_eq_some_iff, Prod.mk.injEq] at ha
   obtain ⟨a', ha', rfl, _⟩ := ha
   exact (hwg a' ha').2.1
 ·have L := h.lie
  refine ⟨fun j k b hj hk => L.mm j k b (up hj).1 (up hk).1, fun j b hj => L.ml j b (up hj).1, fun j p b hj hp => ?_, L.rl, fun j k a ha hk => L.rm j k a ha (up hk).1, fun j p a ha hp => ?_, fun p q b hp hq => ?_, fun p b hp => ?_, fun j b hb => ?_⟩
  ·rcases S' hp with hp1 | ⟨e, hp1⟩
   ·exact L.ms j p b (up hj).1 hp1
   ·obtain ⟨h1, h2⟩ := gbM hp1
    have := L.mm _ _ _ (up hj).1 h1
    obtain ⟨h3, h4⟩ := (up hj).2 this
    exact h2.elim h3 h4
  ·rcases S' hp with hp1 | ⟨e, hp1⟩
   ·exact L.rs j p a ha hp1
   ·exact L.rm j _ a ha (gbM hp1).1
  ·rcases S' hp with hp1 | ⟨e, hp1⟩ <;> rcases S' hq with hq1 | ⟨e', hq1⟩
   ·exact L.ss p q b hp1 hq1
   ·exact absurd hp1 (L.ms _ _ _ (gbM hq1).1)
   ·exact absurd hq1 (L.ms _ _ _ (gbM hp1).1)
   ·rw [e, e']
  ·rcases S' hp with hp1 | ⟨e, hp1⟩
   ·exact L.sl p b hp1
   ·exact L.ml _ _ (gbM hp1).1
  ·rcases hb with hb | ⟨φ, hb⟩
   ·exact ⟨j, hb⟩
   ·obtain ⟨p, hp⟩ := L.ts j b (.inr ⟨φ, hb⟩)
    exact ⟨p, old hp⟩
 ·rcases S' hp with hp1 | ⟨e, hp1⟩
  ·rcases hb with hb | ⟨φ, hb⟩
   ·rcases S' hb with hb1 | ⟨e', hb1⟩
    ·exact .inl ⟨.inl hb1, hp1⟩
    ·exact absurd hp1 (h.lie.ms _ _ _ (gbM hb1).1)
   ·exact .inl ⟨.inr ⟨φ, hb⟩, hp1⟩
  ·rcases hb with hb | ⟨φ, hb⟩
   ·rcases S' hb with hb1 | ⟨e', hb1⟩
    ·exact absurd hb1 (h.lie.ms _ _ _ (gbM hp1).1)
    ·exact .inr (e' ▸ (gbM hp1).1)
   ·obtain ⟨q, hq⟩ := h.lie.ts j b (.inr ⟨φ, hb⟩)
    exact absurd hq (h.lie.ms _ _ _ (gbM hp1).1)
 ·have e : γ.par j ≠ i := fun e => by rw [e, hG] at hG'; cases hG'
  rw [upd_ne _ _ e]; exact hG'
 ·by_cases e : p = i
  ·subst e
   rw [upd_same] at hG'; cases hG'
   have hi0 : γ.ids p = [] := by
    cases e : γ.ids p with
    | nil => rfl
    | cons a l =>
     obtain ⟨_, G', _, _, hG'', _⟩ := h.li.kid_of (p := p) (j := a) (by rw [e]; simp)
     rw [hG] at hG''; cases hG''
   refine ⟨#[], 0, 0, ?_, fun _ => rfl, rfl, by rw [hi0]; rfl, fun q v hq => by simp at hq⟩
   subst hG0; exact hw
  ·rw [upd_ne _ _ e] at hG'; exact h.ch p G hG'
 ·by_cases e : p = i
  ·subst e
   rw [upd_same] at hG'; cases hG'
   subst hG0
   simp only [Option.map_eq_some_iff, Prod.mk.injEq] at ha
   obtain ⟨a', ha', rfl, rfl⟩ := ha
   have nd : ∀ j φ, γ.dec j ≠ some (a', φ) := fun j φ e => by
    obtain ⟨q, hq⟩ := h.lie.ts j a' (.inr ⟨φ, e⟩)
    exact h.lie.ms p q a' (hwg a' ha').1 hq
   have hv : cntOf gs.size γ.dec a' = 0 := by
    have : ∀ m, sumTo m (fun j => cw a' (γ.dec j)) = 0 := by
     intro m
     induction m with
     | zero => rfl
     | succ m ih =>
      simp only [sumTo, ih]
      cases e : γ.dec m with
      | none => rfl
      | some y =>
       obtain ⟨b, ψ⟩ := y
       have : b ≠ a' := fun e' => nd m ψ (by rw [e, e'])
       cases ψ <;> simp [cw, this]
    exact this _
   refine ⟨by omega, by omega, fun j φ e => absurd e (nd j φ), ?_⟩
   rw [hv]
   simpa using (hwg a' ha').2.2
  ·rw [upd_ne _ _ e] at hG'; exact h.wg p G a φ hG' ha
theorem GI.free (h : GI P ty Post gs w t γ) (hi : gs[i]? = some g) (hps : γ.ps i = .run) {n' : Nat} {G : Grp} (hG : γ.grp i = some G) (hk : G.kids = []) (hwg : G.wg = none ∨ ∃ a, G.wg = some (a, .fin))
  (hW : W P ty Post (i == 0) n' { γ.cx i with grp := none } g w) : GI P ty Post gs w t { γ with grp := upd γ.grp i none, nn := upd γ.nn i n' } := by
 have nd : ∀ j a φ, γ.dec j = some (a, φ) → γ.par j ≠ i := by
  intro j a φ e e'
  obtain ⟨q1, q2, q3, G', ψ, q4, q5⟩ := h.li.decs j a φ e
  rw [e', hG] at q4; cases q4
  rcases hwg with h0 | ⟨a', h0⟩
  ·rw [h0] at q5; cases q5
  ·rw [h0] at q5
   simp only [Option.some.injEq, Prod.mk.injEq] at q5
   obtain ⟨rfl, rfl⟩ := q5
   have hv := h.wg i G _ _ hG h0
   have := hv.2 j φ e
   subst this
   have := cw_le_cntOf q1 e
   have := hv.1
   omega
 have S' : ∀ {p b : Nat}, ShOf (upd γ.grp i none) p b → ShOf γ.grp p b ∧ p ≠ i := by
  rintro p b ⟨G', hG', hb⟩
  by_cases e : p = i
  ·subst e; rw [upd_same] at hG'; cases hG'
  ·rw [upd_ne _ _ e] at hG'; exact ⟨⟨G', hG', hb⟩, e⟩
 have dS : ∀ {j b : Nat} {φ : KPh}, γ.dec j = some (b, φ) → ShOf (upd γ.grp i none) (γ.par j) b := by
  intro j b φ e
  obtain ⟨q1, q2, q3, G', ψ, q4, q5⟩ := h.li.decs j b φ e
  exact ⟨G', by rw [upd_ne _ _ (nd j b φ e)]; exact q4, .inr ⟨ψ, q5⟩⟩
 have L := h.lie
 have := h.ghost hi hps (Mi := γ.M i) (grp' := upd γ.grp i none) (n' := n') (fun _ => id) (h.li.free hG hk nd)
  (by
   rw [upd_self]
   exact ⟨L.mm, L.ml, fun j p b hj hp => L.ms j p b hj (S' hp).1, L.rl, L.rm, fun j p a ha hp => L.rs j p a ha (S' hp).1, fun p q b hp hq => L.ss p q b (S' hp).1 (S' hq).1, fun p b hp => L.sl p b (S' hp).1,
    fun j b hb => hb.elim (fun x => ⟨j, x⟩) fun ⟨φ, x⟩ => ⟨_, dS x⟩⟩)
  (fun j b p hb hp => .inl ⟨hb.imp (fun x => (S' x).1) id, (S' hp).1⟩) (fun j hj => upd_ne _ _ hj) (fun j f G' hf hG' => ⟨G', by
   have e : γ.par j ≠ i := fun e => by
    obtain ⟨k, G'', h1, h2, h3, _⟩ := h.li.flies hf
    rw [e, hG] at h2; cases h2
    rw [hk] at h3; simp at h3
   rw [upd_ne _ _ e]; exact hG', rfl⟩)
  (fun p G' hG' => by
   by_cases e : p = i
   ·subst e; rw [upd_same] at hG'; cases hG'
   ·rw [upd_ne _ _ e] at hG'; exact h.ch p G' hG')
  (fun p G' a φ hG' ha => by
   by_cases e : p = i
   ·subst e; rw [upd_same] at hG'; cases hG'
   ·rw [upd_ne _ _ e] at hG'; exact h.wg p G' a φ hG' ha)
  (by rw [upd_same]; exact hW)
 rw [upd_self] at this
 exact this
theorem GI.fts (h : GI P ty Post gs w t γ) (ha : γ.acc i = i) (hf : γ.fly i = none) {sz' : Nat} {u : Trace} (hu : ∀ op ∈ u, ∀ x, op.act.touch? = some x → op.g = i ∧ OkT (fun b => γ.M i b ∨ (w.heap.size ≤ b ∧ b < sz')) (γ.R i) (ShOf γ.grp) (TchOf γ.grp γ.dec) i x)
  {j ch : Nat} {f : Fly} (hj : γ.fly j = some f) (F : FT γ.acc t j ch f.s f.q f.R) (hR : ∀ a, f.R a → γ.R j a) : FT γ.acc (t ++ u) j ch f.s f.q f.R := by
 refine F.app (fun k g'' hk hg hac hc => ?_) (fun op ho x hx a hra hl => ?_)
 ·obtain ⟨op, ho, hog⟩ := Option.map_eq_some_iff.1 hg
  rcases getElem?_append_cases ho with ⟨hk', _⟩ | ⟨_, hou⟩
  ·omega
  ·obtain ⟨x, hx, _⟩ := hc
   obtain ⟨op', ho', hox⟩ := touch_of hx
   rw [ho] at ho'; cases ho'
   have := (hu op hou x hox).1
   rw [hog] at this
   subst this
   rw [ha] at hac
   subst hac
   rw [hf] at hj; cases hj
 ·have hRa := hR a hra
  rcases (hu op ho x hx).2 with ⟨b', hb', hM | hn'⟩ | ⟨a', ha', _, hw⟩ | ⟨b', hb', hT', _⟩
  ·rw [hl] at hb'; simp only [bk, Option.some.injEq] at hb'; subst hb'; exact absurd hM (h.lie.rm _ _ _ hRa)
  ·rw [hl] at hb'; simp only [bk, Option.some.injEq] at hb'; subst hb'; have := h.lie.rl _ _ hRa; omega
  ·exact hw
  ·rw [hl] at hb'; simp only [bk, Option.some.injEq] at hb'; subst hb'; obtain ⟨p, hp⟩ := h.lie.ts _ _ hT'; exact absurd hp (h.lie.rs _ _ _ hRa)
theorem GI.ok_kept (h : GI P ty Post gs w t γ) {X : Nat → Prop} (fr : Fr w w' X) (hX : ∀ b, X b → γ.M i b ∨ ∃ p, ShOf γ.grp p b) {j : Nat} {sp : Spec} {v : Value} {Rm : Addr → Prop} (hR : ∀ a, Rm a → γ.R j a) (hok : sp.ok v Rm w) : sp.ok v Rm w' := by
 refine sp.keep _ _ _ _ (fun a ha => ?_) hok
 have hRa := hR a ha
 have hnX : ¬ X a.block := fun x => by
  rcases hX _ x with m | ⟨p, hp⟩
  ·exact h.lie.rm _ _ _ hRa m
  ·exact h.lie.rs _ _ _ hRa hp
 have hk := fr.keep _ (h.lie.rl _ _ hRa) hnX
 exact ⟨by simp only [World.cell?, hk], fr.shape _ (h.lie.rl _ _ hRa)⟩
theorem GI.offers_rcv (h : GI P ty Post gs w t γ) {j ch : Nat} {o : Goroutine} (hj : gs[j]? = some o) (ho : offersAt o ch false ≠ []) :
  offersAt o ch false = [0] ∧ γ.ps j = .rcv ∧ ∃ G g₀ z okb, γ.grp j = some G ∧ G.ch = ch ∧ G.cap = 0 ∧ o = parked g₀ #[rcase ch z] (.recv okb) := by
 have hs := h.sit j o hj
 generalize hp : γ.ps j = s at hs
 cases hs with
 | run hw =>
  refine absurd (offersAt_of_not_blocked ?_ _ _) ho
  rcases hw.status with e | e
  ·rw [e]; simp
  ·rw [e.1]; simp
 | snd hm hg hc hG hdc hd hok hR k => rw [hg, offersAt_parked_send'] at ho; exact absurd rfl ho
 | rcv hg hG hk hcap hcl hd k =>
  rename_i g₀ G z okb
  rw [hg, offersAt_parked_recv] at ho ⊢
  by_cases e : G.ch = ch
  ·subst e
   rw [if_pos rfl]
   exact ⟨rfl, rfl, G, g₀, z, okb, hG, rfl, hcap, rfl⟩
  ·rw [if_neg e] at ho; exact absurd rfl ho
 | sem hG hwg hst ho' hw => simp [offersAt, hst, ho'] at ho
theorem GI.offers_snd (h : GI P ty Post gs w t γ) {j ch : Nat} {o : Goroutine} (hj : gs[j]? = some o) (ho : offersAt o ch true ≠ []) :
  offersAt o ch true = [0] ∧ γ.ps j = .snd ∧ ∃ sp g₀ v z, γ.snd j = some (ch, sp) ∧ o = parked g₀ #[scase ch v z] .send := by
 have hs := h.sit j o hj
 generalize hp : γ.ps j = s at hs
 cases hs with
 | run hw =>
  refine absurd (offersAt_of_not_blocked ?_ _ _) ho
  rcases hw.status with e | e
  ·rw [e]; simp
  ·rw [e.1]; simp
 | rcv hg hG hk hcap hcl hd k => rw [hg, offersAt_parked_recv'] at ho; exact absurd rfl ho
 | snd hm hg hc hG hdc hd hok hR k =>
  rename_i g₀ c' sp v z Rm
  rw [hg, offersAt_parked_send] at ho ⊢
  by_cases e : c' = ch
  ·subst e
   rw [if_pos rfl]
   exact ⟨rfl, rfl, sp, g₀, v, z, hc, rfl⟩
  ·rw [if_neg e] at ho; exact absurd rfl ho
 | sem hG hwg hst ho' hw => simp [offersAt, hst, ho'] at ho
end
theorem countP_upd {fly : Nat → Option Fly} {i : Nat} {x : Option Fly} : ∀ {l : List Nat}, i ∉ l → l.countP (isFly (upd fly i x)) = l.countP (isFly fly)
 | [], _ => rfl
 | a :: l, h => by
  have h1 : a ≠ i := fun e => h (by rw [e]; simp)
  have h2 : i ∉ l := fun e => h (by simp [e])
  have e : isFly (upd fly i x) a = isFly fly a := by simp only [isFly, upd_ne _ _ h1]
  rw [List.countP_cons, List.countP_cons, countP_upd h2, e]
theorem countP_fly {fly : Nat → Option Fly} {i : Nat} {f : Fly} (hf : fly i = none) : ∀ {l : List Nat}, l.Nodup → i ∈ l → l.countP (isFly (upd fly i (some f))) = l.countP (isFly fly) + 1
 | [], _, h => by simp at h
 | a :: l, hn, h => by
  rw [List.nodup_cons] at hn
  rw [List.countP_cons, List.countP_cons]
  by_cases e : a = i
  ·subst e
   rw [countP_upd hn.1]
   simp [isFly, upd_same, hf]
  ·have : i ∈ l := by simpa [Ne.symm e] using h
   have e' : isFly (upd fly i (some f)) a = isFly fly a := by simp only [isFly, upd_ne _ _ e]
   rw [countP_fly hf hn.2 this, e']
   omega
theorem countP_erase {p : Nat → Bool} : ∀ {l : List Nat} {k j : Nat}, l[k]? = some j → p j = true → (l.eraseIdx k).countP p + 1 = l.countP p
 | [], _, _, h, _ => by simp at h
 | a :: l, 0, j, h, hp => by
  simp only [List.getElem?_cons_zero, Option.some.injEq] at h
  subst h
  simp [hp]
 | a :: l, k + 1, j, h, hp => by
  have := countP_erase (l := l) (k := k) (j := j) (by simpa using h) hp
  simp only [List.eraseIdx_cons_succ, List.countP_cons]
  omega
end Go.Gw
namespace Go.Gw
open Go Go.Conc Go.ConcN
open Go.ConcR (KK wgBlock WgAt stA smA)
theorem Lie.share {sz : Nat} {M : Nat → Nat → Prop} {R R' : Nat → Addr → Prop} {S T : Nat → Nat → Prop} (L : Lie sz M R S T) (hR : ∀ i a, R' i a → ∃ j, R j a) : Lie sz M R' S T :=
 ⟨L.mm, L.ml, L.ms, fun i a ha => (hR i a ha).elim fun j h => L.rl j a h, fun i k a ha => (hR i a ha).elim fun j h => L.rm j k a h, fun i p a ha => (hR i a ha).elim fun j h => L.rs j p a h, L.ss, L.sl, L.ts⟩
theorem sumTo_succ_upd (f : Nat → Nat) (n i x y : Nat) (hi : i < n) : sumTo (n + 1) (upd (upd f i x) n y) + f i = sumTo n f + x + y := by
 have h1 : sumTo n (upd (upd f i x) n y) = sumTo n (upd f i x) := sumTo_congr fun a ha => upd_ne _ _ (by omega)
 have h2 : sumTo n (upd f i x) + f i = sumTo n f + x := sumTo_upd f x (fun x => x) hi
 simp only [sumTo, h1, upd_same]
 omega
section
variable {P : Program} {ty : TypeId} {Post : Value → World → Prop} {gs : Array Goroutine} {w : World} {t : Trace} {γ : Gh} {i : Nat} {g g' : Goroutine} {w' : World} {es : Array Event} {sl : Option (Nat × Nat)}
theorem GI.spawn (h : GI P ty Post gs w t γ) {child : Goroutine} (hi : gs[i]? = some g) (hst : stepG P (i == 0) g w = .spawn g' child w es) {G : Grp} {wg' : Option (Nat × PPh)} {sp : Spec} {Mi : Nat → Prop} {Ri : Addr → Prop} {n₁ n₂ : Nat}
  (hn : n₁ + n₂ < γ.nn i) (hd : γ.d i = 0) (hG : γ.grp i = some G) (hcl : G.closed = false) (hcap : G.cap = 0 ∨ G.kids.length < G.cap)
  (hwg : G.wg = none ∧ wg' = none ∨ ∃ a mx, G.wg = some (a, .pend mx) ∧ wg' = some (a, .idle mx)) (hg : Guar (γ.cx i) Mi Ri w w) (hf : Foot (γ.cx i) w w es) (hde : deafBehind 0 es = 0)
  (k₁ : W P ty Post (i == 0) n₁ { γ.cx i with M := Mi, R := Ri, grp := some { G with kids := G.kids ++ [sp], wg := wg' } } g' w)
  (k₂ : W P ty Post false n₂ { M := fun _ => False, R := Ri, d := 0, send := some (G.ch, sp), dec := G.wg.map fun x => (x.1, .cnt), grp := none } child w) : Nxt P ty Post gs w t γ sl i := by
 have hlt : i < gs.size := (Array.getElem?_eq_some_iff.1 hi).1
 obtain ⟨q1, q2, q3, q4, q5, q6, q7, q8⟩ := h.li.gn i G hG
 obtain ⟨f1, f2, f3, f4, f5, f6, f7⟩ := h.li.fresh
 have nin : gs.size ≠ i := by omega
 have hwm : wg'.map (·.1) = G.wg.map (·.1) := by
  rcases hwg with ⟨e1, e2⟩ | ⟨a, mx, e1, e2⟩ <;> rw [e1, e2] <;> rfl
 generalize hG1 : ({ G with kids := G.kids ++ [sp], wg := wg' } : Grp) = G1 at k₁
 have c1 : G1.ch = G.ch := by subst hG1; rfl
 have c4 : G1.wg.map (·.1) = G.wg.map (·.1) := by subst hG1; exact hwm
 have hS := sh_ph (G' := G1) hG c1 c4
 have nf : γ.fly i = none := by
  cases e : γ.fly i with
  | none => rfl
  | some f =>
   obtain ⟨_, _, _, _, _, _, _, _, _, hg⟩ := h.li.flies e
   rw [hG] at hg; cases hg
 let γ' : Gh := { M := upd (upd γ.M i Mi) gs.size (fun _ => False), R := upd (upd γ.R i Ri) gs.size Ri, d := upd γ.d gs.size 0, snd := upd γ.snd gs.size (some (G.ch, sp)), dec := upd γ.dec gs.size (G.wg.map fun x => (x.1, .cnt)), grp := upd γ.grp i (some G1), par := upd γ.par gs.size i, acc := γ.acc, ids := upd γ.ids i (γ.ids i ++ [gs.size]), fly := γ.fly, nn := upd (upd γ.nn i n₁) gs.size n₂, ps := upd (upd γ.ps i .run) gs.size .run }
 refine ⟨_, _, _, runT_crowd_spawn hi hst, ?_, (gs.setIfInBounds i g').push child, w, sl, γ', rfl, ?_, rfl⟩
 ·refine .left _ _ ?_
  have := sumTo_succ_upd γ.nn gs.size i n₁ n₂ hlt
  simp only [Array.size_push, Array.size_setIfInBounds]
  show sumTo (gs.size + 1) (upd (upd γ.nn i n₁) gs.size n₂) < _
  omega
 have hsz : ((gs.setIfInBounds i g').push child).size = gs.size + 1 := by simp
 have hli : Links (gs.size + 1) γ'.snd γ'.dec γ'.grp γ'.par γ'.acc γ'.ids γ'.fly := by
  have := h.li.spawn (sp := sp) hG hcl hcap hwm
  rw [hG1] at this
  exact this
 have hlie : Lie w.heap.size (upd γ.M i Mi) (upd γ.R i Ri) (ShOf γ.grp) (TchOf γ.grp γ.dec) := h.lie.turn (Nat.le_refl _) hg.mine hg.ro (fun _ _ => id) (fun j b hb => ⟨hb, h.lie.ts j b hb⟩)
 have eops : ((MemOp.ofEvents i g.frame.fn g.frame.place es).push { g := i, fn := g.frame.fn, pos := g.frame.place, act := .go gs.size } |>.push { g := gs.size, fn := child.frame.fn, pos := g.frame.place, act := .start }) = MemOp.ofEvents i g.frame.fn g.frame.place es ++ #[{ g := i, fn := g.frame.fn, pos := g.frame.place, act := .go gs.size }, { g := gs.size, fn := child.frame.fn, pos := g.frame.place, act := .start }] := by
  rw [Array.push_eq_append, Array.push_eq_append, Array.append_assoc]; rfl
 have hui : ∀ op ∈ MemOp.ofEvents i g.frame.fn g.frame.place es, op.g = i ∧ ∀ x, op.act.touch? = some x → OkT (fun b => γ.M i b ∨ (w.heap.size ≤ b ∧ b < w.heap.size)) (γ.R i) (ShOf γ.grp) (TchOf γ.grp γ.dec) i x := fun op ho => by
  obtain ⟨h1, e, he, h2⟩ := mem_ops ho
  exact ⟨h1, fun x hx => (hf e he x (h2 ▸ hx)).imp id fun y => .inl y⟩
 have dfi : Deaf (t ++ MemOp.ofEvents i g.frame.fn g.frame.place es) i = 0 := by rw [Deaf_own, h.df i hlt, hd]; exact hde
 have cxo : ∀ {j : Nat}, j ≠ i → j ≠ gs.size → γ'.cx j = γ.cx j := fun e1 e2 => by simp [γ', Gh.cx, upd_ne _ _ e1, upd_ne _ _ e2]
 refine ⟨?_, ?_, ?_, ?_, ?_, ?_, ?_, ?_, ?_, ?_⟩
 ·rw [hsz]; exact hli
 ·
  have L1 := hlie.share (R' := γ'.R) (fun j a ha => by
   by_cases e : j = gs.size
   ·subst e
    exact ⟨i, by rw [upd_same]; simpa only [γ', upd_same] using ha⟩
   ·exact ⟨j, by simpa only [γ', upd_ne _ _ e] using ha⟩)
  have up : ∀ {j b : Nat}, γ'.M j b → upd γ.M i Mi j b := by
   intro j b hb
   by_cases e : j = gs.size
   ·subst e; simp only [γ', upd_same] at hb
   ·simpa only [γ', upd_ne _ _ e] using hb
  exact ⟨fun j k b hj hk => L1.mm j k b (up hj) (up hk), fun j b hj => L1.ml j b (up hj), fun j p b hj hp => L1.ms j p b (up hj) ((hS p b).1 hp), L1.rl, fun j k a ha hk => L1.rm j k a ha (up hk), fun j p a ha hp => L1.rs j p a ha ((hS p _).1 hp),
   fun p q b hp hq => L1.ss p q b ((hS p b).1 hp) ((hS q b).1 hq), fun p b hp => L1.sl p b ((hS p b).1 hp), fun j b hb => by
    rcases hb with hb | ⟨φ, hb⟩
    ·exact ⟨j, hb⟩
    ·obtain ⟨_, _, _, G', ψ, r4, r5⟩ := hli.decs j b φ hb
     exact ⟨_, G', r4, .inr ⟨ψ, r5⟩⟩⟩
 ·rw [hsz]
  show TI (gs.size + 1) w.heap.size γ'.M γ'.R (ShOf γ'.grp) (TchOf γ'.grp γ'.dec) γ.acc (t ++ _)
  rw [eops, ← Array.append_assoc]
  have T1 := (h.ti.step h.lie hlt (Nat.le_refl _) (.inl q2) hui).freeze (M' := γ'.M) (R' := upd γ.R i Ri) (S' := ShOf γ.grp) (T' := TchOf γ.grp γ.dec) (fun j b hb => by
   by_cases e : j = gs.size
   ·subst e; simp only [γ', upd_same] at hb
   ·have hb : upd γ.M i Mi j b := by simpa only [γ', upd_ne _ _ e] using hb
    by_cases e' : j = i
    ·subst e'
     rw [upd_same] at hb
     exact (hg.mine b hb).2.imp id fun x => ⟨rfl, x, (hg.mine b hb).1⟩
    ·rw [upd_ne _ _ e'] at hb; exact .inl hb) (fun j a ha => by
   by_cases e' : j = i
   ·subst e'
    rw [upd_same] at ha
    rcases hg.ro a ha with h1 | ⟨h1, h2, _⟩
    ·exact .inl h1
    ·exact .inr (h2.imp id fun x => ⟨rfl, x, h1⟩)
   ·rw [upd_ne _ _ e'] at ha; exact .inl ha) (fun _ _ _ a b => .inl ⟨a, b⟩)
  have T2 := T1.spawn (p := i) hlt (x := { g := i, fn := g.frame.fn, pos := g.frame.place, act := .go gs.size }) (y := { g := gs.size, fn := child.frame.fn, pos := g.frame.place, act := .start }) ⟨rfl, rfl⟩ ⟨rfl, rfl⟩ dfi (R' := γ'.R) (T' := TchOf γ'.grp γ'.dec) (fun b hb => by simp only [γ', upd_same] at hb) (fun j a ha => by
   by_cases e : j = gs.size
   ·subst e
    exact .inr ⟨rfl, by rw [upd_same]; simpa only [γ', upd_same] using ha⟩
   ·exact .inl (by simpa only [γ', upd_ne _ _ e] using ha)) (fun j b hb => by
   rcases hb with hb | ⟨φ, hb⟩
   ·exact .inl (.inl ((hS j b).1 hb))
   ·by_cases e : j = gs.size
    ·subst e
     simp only [γ', upd_same] at hb
     obtain ⟨x, hx, hxe⟩ := Option.map_eq_some_iff.1 hb
     simp only [Prod.mk.injEq] at hxe
     refine .inr ⟨rfl, .inl ⟨G, hG, .inr ⟨x.2, by rw [hx, ← hxe.1]⟩⟩⟩
    ·exact .inl (.inr ⟨φ, by simpa only [γ', upd_ne _ _ e] using hb⟩))
  exact T2.freeze (fun _ _ => id) (fun _ _ => .inl) (fun j b p a1 a2 => .inl ⟨a1, (hS p b).1 a2⟩)
 ·intro j b hb
  rw [hsz]
  by_cases e : j = gs.size
  ·omega
  ·have hb : upd γ.M i Mi j b := by simpa only [γ', upd_ne _ _ e] using hb
   by_cases e' : j = i
   ·omega
   ·rw [upd_ne _ _ e'] at hb; have := h.mz j b hb; omega
 ·intro j hj
  rw [hsz] at hj
  rw [eops, ← Array.append_assoc]
  have e1 : ∀ (u : Trace) (x y : MemOp), u ++ #[x, y] = (u ++ #[x]) ++ #[y] := fun u x y => by apply Array.ext'; simp
  rw [e1, Deaf_push, Deaf_push]
  simp only [deafStep]
  by_cases e : j = gs.size
  ·subst e
   have : Deaf (t ++ MemOp.ofEvents i g.frame.fn g.frame.place es) gs.size = 0 := Deaf_absent fun k op hk e => by
    rcases getElem?_append_cases hk with ⟨_, hk'⟩ | ⟨_, hku⟩
    ·have := h.ti.gs k op hk'; omega
    ·rw [(mem_ops hku).1] at e; omega
   rw [this]; exact (upd_same _ _ _).symm
  ·have : γ'.d j = γ.d j := upd_ne _ _ e
   rw [this]
   by_cases e' : j = i
   ·subst e'; rw [dfi, hd]
   ·rw [Deaf_other t (fun x => e' x.symm) _ (fun op ho => (mem_ops ho).1), h.df j (by omega)]
 ·intro j f hf
  obtain ⟨G', h1, h2, h3, h4⟩ := h.ft j f hf
  have hjn : j ≠ gs.size := fun e => by rw [e] at hf; rw [show γ'.fly = γ.fly from rfl, f4] at hf; cases hf
  have hji : j ≠ i := fun e => by rw [e] at hf; rw [show γ'.fly = γ.fly from rfl, nf] at hf; cases hf
  have hpar : γ'.par j = γ.par j := upd_ne _ _ hjn
  have hR : γ'.R j = γ.R j := by simp only [γ', upd_ne _ _ hjn, upd_ne _ _ hji]
  rw [hpar, hR]
  refine ⟨if γ.par j = i then G1 else G', ?_, ?_, h3, h4⟩
  ·by_cases e : γ.par j = i
   ·rw [if_pos e, e]; exact upd_same _ _ _
   ·rw [if_neg e]; exact (upd_ne _ _ e).trans h1
  ·have ec : (if γ.par j = i then G1 else G').ch = G'.ch := by
    by_cases e : γ.par j = i
    ·rw [if_pos e, c1]
     rw [e, hG] at h1; cases h1; rfl
    ·rw [if_neg e]
   rw [ec, eops]
   refine h.fts q2 nf (sz' := w.heap.size) (fun op ho x hx => ?_) hf h2 h3
   rcases Array.mem_append.1 ho with ho | ho
   ·exact ⟨(hui op ho).1, (hui op ho).2 x hx⟩
   ·simp only [List.mem_toArray, List.mem_cons, List.not_mem_nil, or_false] at ho
    rcases ho with rfl | rfl <;> simp [MemAct.touch?] at hx
 ·intro p G' hG'
  by_cases e : p = i
  ·subst e
   have : G' = G1 := by
    have h0 : γ'.grp p = some G1 := upd_same _ _ _
    rw [h0] at hG'; cases hG'; rfl
   subst this
   obtain ⟨buf, s, r, hc⟩ := h.ch p G hG
   refine ⟨buf, s, r, ?_, ?_, hc.sum, ?_, fun q v hq => ?_⟩
   ·subst hG1; exact hc.at_
   ·subst hG1; exact hc.un
   ·show (upd γ.ids p (γ.ids p ++ [gs.size]) p).countP (isFly γ.fly) = buf.size
    rw [upd_same, List.countP_append, hc.cnt]
    simp [isFly, f4]
   ·obtain ⟨j, f, r1, r2⟩ := hc.msg q v hq
    exact ⟨j, f, by show j ∈ upd γ.ids p (γ.ids p ++ [gs.size]) p; rw [upd_same]; simp [r1], r2⟩
  ·have hG'' : γ.grp p = some G' := by simpa only [γ', upd_ne _ _ e] using hG'
   obtain ⟨buf, s, r, hc⟩ := h.ch p G' hG''
   have ei : γ'.ids p = γ.ids p := upd_ne _ _ e
   rw [ei]
   exact ⟨buf, s, r, hc⟩
 ·intro p G' a φ hG' ha
  rw [hsz]
  have ec : ∀ b, cntOf (gs.size + 1) γ'.dec b = cntOf gs.size γ.dec b + cw b (G.wg.map fun x => (x.1, KPh.cnt)) := fun b => by
   show sumTo gs.size (fun j => cw b (γ'.dec j)) + cw b (γ'.dec gs.size) = _
   rw [sumTo_congr (g := fun j => cw b (γ.dec j)) fun j hj => by simp only [γ', upd_ne _ _ (show j ≠ gs.size by omega)]]
   simp only [γ', upd_same, cntOf]
  have nl : ∀ {b : Nat}, NoLast γ.dec b → NoLast γ'.dec b := by
   intro b hb j φ e
   by_cases ej : j = gs.size
   ·subst ej
    simp only [γ', upd_same] at e
    obtain ⟨x, hx, hxe⟩ := Option.map_eq_some_iff.1 e
    simp only [Prod.mk.injEq] at hxe
    exact hxe.2.symm
   ·exact hb j φ (by simpa only [γ', upd_ne _ _ ej] using e)
  by_cases e : p = i
  ·subst e
   have : G' = G1 := by
    have h0 : γ'.grp p = some G1 := upd_same _ _ _
    rw [h0] at hG'; cases hG'; rfl
   subst this
   rcases hwg with ⟨e1, e2⟩ | ⟨a', mx, e1, e2⟩
   ·subst hG1; simp only at ha; rw [e2] at ha; cases ha
   ·subst hG1
    simp only at ha
    rw [e2] at ha
    simp only [Option.some.injEq, Prod.mk.injEq] at ha
    obtain ⟨rfl, rfl⟩ := ha
    obtain ⟨v1, v2, v3, v4⟩ := h.wg p G a' _ hG e1
    rw [ec, e1]
    simp only [Option.map_some, cw, if_true]
    exact ⟨v1, v2, nl v3, by simpa using v4⟩
  ·have hG'' : γ.grp p = some G' := by simpa only [γ', upd_ne _ _ e] using hG'
   have hpn : p ≠ gs.size := fun e' => by rw [e', f3] at hG''; cases hG''
   have hne : cw a (G.wg.map fun x => (x.1, KPh.cnt)) = 0 := by
    cases e1 : G.wg with
    | none => rfl
    | some x =>
     have : x.1 ≠ a := fun e2 => e (h.lie.ss p i a ⟨G', hG'', .inr ⟨φ, ha⟩⟩ ⟨G, hG, .inr ⟨x.2, by rw [e1, ← e2]⟩⟩)
     simp [cw, this]
   have hps : γ'.ps p = γ.ps p := by simp only [γ', upd_ne _ _ e, upd_ne _ _ hpn]
   rw [ec, hne, hps]
   refine (h.wg p G' a φ hG'' ha).dec fun j ψ => ?_
   by_cases ej : j = gs.size
   ·subst ej
    simp only [γ', upd_same, f2]
    constructor
    ·intro e3
     obtain ⟨x, hx, hxe⟩ := Option.map_eq_some_iff.1 e3
     simp only [Prod.mk.injEq] at hxe
     rw [hx] at hne
     simp [cw, hxe.1] at hne
    ·intro e3; cases e3
   ·simp only [γ', upd_ne _ _ ej]
 ·intro j gj hj
  rw [Array.getElem?_push] at hj
  by_cases e : j = gs.size
  ·subst e
   rw [if_pos (by simp)] at hj
   cases hj
   have e0 : (gs.size == 0) = false := by
    have : gs.size ≠ 0 := by omega
    simpa using this
   show Sit P ty Post (gs.size == 0) (upd (upd γ.nn i n₁) gs.size n₂ gs.size) _ _ _ (upd (upd γ.ps i .run) gs.size .run gs.size)
   rw [upd_same, upd_same, e0]
   refine .run ?_
   have : γ'.cx gs.size = { M := fun _ => False, R := Ri, d := 0, send := some (G.ch, sp), dec := G.wg.map fun x => (x.1, .cnt), grp := none } := by simp [γ', Gh.cx, upd_same, upd_ne _ _ nin, f3]
   rw [this]; exact k₂
  ·rw [if_neg (by simpa using e)] at hj
   by_cases e' : j = i
   ·subst e'
    rw [Array.getElem?_setIfInBounds_self_of_lt hlt] at hj
    cases hj
    show Sit P ty Post (j == 0) (upd (upd γ.nn j n₁) gs.size n₂ j) _ _ _ (upd (upd γ.ps j .run) gs.size .run j)
    rw [upd_ne _ _ e, upd_ne _ _ e, upd_same, upd_same]
    refine .run ?_
    have : γ'.cx j = { γ.cx j with M := Mi, R := Ri, grp := some G1 } := by simp [γ', Gh.cx, upd_same, upd_ne _ _ e]
    rw [this]; exact k₁
   ·rw [Array.getElem?_setIfInBounds_ne (fun x => e' x.symm)] at hj
    show Sit P ty Post (j == 0) (upd (upd γ.nn i n₁) gs.size n₂ j) _ _ _ (upd (upd γ.ps i .run) gs.size .run j)
    rw [upd_ne _ _ e, upd_ne _ _ e, upd_ne _ _ e', upd_ne _ _ e', cxo e' e]
    exact h.sit j gj hj
 ·intro p hp j hj hs
  have aux : ∀ {q : Nat} {x : PS}, γ'.ps q = x → x ≠ .run → γ.ps q = x ∧ q ≠ i ∧ q ≠ gs.size := by
   intro q x hq hx
   by_cases e : q = gs.size
   ·subst e; simp only [γ', upd_same] at hq; exact absurd hq.symm hx
   ·by_cases e' : q = i
    ·subst e'; simp only [γ', upd_ne _ _ e, upd_same] at hq; exact absurd hq.symm hx
    ·simp only [γ', upd_ne _ _ e, upd_ne _ _ e'] at hq; exact ⟨hq, e', e⟩
  obtain ⟨a1, a2, a3⟩ := aux hp (by simp)
  have : j ∈ γ.ids p := by simpa only [γ', upd_ne _ _ a2] using hj
  exact h.nr p a1 j this (aux hs (by simp)).1
theorem GI.block (h : GI P ty Post gs w t γ) (hi : gs[i]? = some g) (hps : γ.ps i = .run) (hst : stepG P (i == 0) g w = .go { g with status := .blocked } w #[]) {G : Grp} {a : Nat} (hG : γ.grp i = some G) (hwg : G.wg = some (a, .reg)) (ho : g.offers = none) (hs : g.status = .running)
  (h0 : ∀ st sm, WgAt ty a w st sm → sm = 0) (hW : W P ty Post (i == 0) (γ.nn i) (γ.cx i) g w) : Nxt P ty Post gs w t γ sl i := by
 have hlt : i < gs.size := (Array.getElem?_eq_some_iff.1 hi).1
 have hw : ∀ o, woken P g { g with status := .blocked } w o = o := fun o => by unfold woken; simp
 have hm : (gs.map (woken P g { g with status := .blocked } w)).setIfInBounds i { g with status := .blocked } = gs.setIfInBounds i { g with status := .blocked } := by
  congr 1
  apply Array.ext_getElem?
  intro k
  rw [Array.getElem?_map]
  cases gs[k]? <;> simp [hw]
 have hr := runT_crowd_go (sl := sl) hi hst
 rw [hm] at hr
 refine ⟨_, _, _, hr, ?_, gs.setIfInBounds i { g with status := .blocked }, w, sl, { γ with ps := upd γ.ps i .sem }, rfl, ?_, rfl⟩
 ·have e : (gs.setIfInBounds i { g with status := .blocked }).size = gs.size := by simp
  rw [e]
  refine .right _ ?_
  have := sumTo_upd γ.ps PS.sem (fun x => if x = PS.run then 1 else 0) hlt
  simp only [hps, if_true, reduceCtorEq, if_false] at this
  show sumTo gs.size (fun a => if upd γ.ps i PS.sem a = PS.run then 1 else 0) < sumTo gs.size (fun a => if γ.ps a = PS.run then 1 else 0)
  omega
 have hsz : (gs.setIfInBounds i { g with status := .blocked }).size = gs.size := by simp
 rw [ofEvents_none, Array.append_empty]
 refine ⟨by rw [hsz]; exact h.li, h.lie, by rw [hsz]; exact h.ti, fun j b hb => by rw [hsz]; exact h.mz j b hb, fun j hj => h.df j (by rw [hsz] at hj; exact hj), h.ft, h.ch, fun p G' a' φ hG' ha' => ?_, fun j gj hj => ?_, fun p hp j hj hs' => ?_⟩
 ·rw [hsz]
  by_cases e : p = i
  ·subst e
   have hG'' : γ.grp p = some G' := hG'
   rw [hG] at hG''; cases hG''
   rw [hwg] at ha'
   simp only [Option.some.injEq, Prod.mk.injEq] at ha'
   obtain ⟨rfl, rfl⟩ := ha'
   have hv := h.wg p G a _ hG hwg
   refine ⟨hv.1, ?_⟩
   rcases hv.2 with h1 | h1 | ⟨_, _, h1, _⟩
   ·exact .inl h1
   ·exact .inr (.inl h1)
   ·exact absurd (h0 _ _ h1) (by omega)
  ·show WgOk ty _ _ (upd γ.ps i .sem p) _ _ _
   rw [upd_ne _ _ e]; exact h.wg p G' a' φ hG' ha'
 ·by_cases e : j = i
  ·subst e
   rw [Array.getElem?_setIfInBounds_self_of_lt hlt] at hj
   cases hj
   show Sit P ty Post (j == 0) (γ.nn j) (γ.cx j) _ _ (upd γ.ps j .sem j)
   rw [upd_same]
   exact .sem hG hwg rfl ho (by
    have : ({ ({ g with status := .blocked } : Goroutine) with status := .running } : Goroutine) = g := by
     obtain ⟨fr, cs, stt, dy, off⟩ := g
     simp only at hs
     subst hs
     rfl
    rw [this]; exact hW)
  ·rw [Array.getElem?_setIfInBounds_ne (fun x => e x.symm)] at hj
   show Sit P ty Post (j == 0) (γ.nn j) (γ.cx j) _ _ (upd γ.ps i .sem j)
   rw [upd_ne _ _ e]
   exact h.sit j gj hj
 ·have aux : ∀ {q : Nat} {x : PS}, upd γ.ps i .sem q = x → x ≠ .sem → γ.ps q = x := by
   intro q x hq hx
   by_cases e : q = i
   ·subst e; rw [upd_same] at hq; exact absurd hq.symm hx
   ·rwa [upd_ne _ _ e] at hq
  exact h.nr p (aux hp (by simp)) j hj (aux hs' (by simp))
end
end Go.Gw
namespace Go.Gw
open Go Go.Conc Go.ConcN
open Go.ConcR (KK wgBlock WgAt stA smA)
theorem TI.grow {n sz sz' : Nat} {M : Nat → Nat → Prop} {R : Nat → Addr → Prop} {S T : Nat → Nat → Prop} {acc : Nat → Nat} {t : Trace} (h : TI n sz M R S T acc t) (hs : sz ≤ sz') : TI n sz' M R S T acc t :=
 { h with lt := fun k x b hx hb => Nat.lt_of_lt_of_le (h.lt k x b hx hb) hs }
theorem parked_inj {g g' : Goroutine} {cs cs' : Array CommCase} {sh sh' : CommShape} (h : parked g cs sh = parked g' cs' sh') : cs = cs' ∧ sh = sh' ∧ g.frame = g'.frame ∧ ∀ v, Conc.served g v = Conc.served g' v := by
 obtain ⟨a1, a2, a3, a4, a5⟩ := g
 obtain ⟨b1, b2, b3, b4, b5⟩ := g'
 simp only [parked, Goroutine.mk.injEq, Option.some.injEq, Prod.mk.injEq] at h
 obtain ⟨rfl, rfl, _, rfl, rfl, rfl⟩ := h
 exact ⟨rfl, rfl, rfl, fun v => rfl⟩
section
variable {P : Program} {ty : TypeId} {Post : Value → World → Prop} {gs : Array Goroutine} {w : World} {t : Trace} {γ : Gh} {i : Nat} {g g' : Goroutine} {w' : World} {es : Array Event} {sl : Option (Nat × Nat)}
theorem GI.foot (h : GI P ty Post gs w t γ) {m : Nat} (hm : m < gs.size) (ha : γ.acc m = m) (hf : Foot (γ.cx m) w w es) (fn : FuncId) (pos : String) :
  TI gs.size w.heap.size γ.M γ.R (ShOf γ.grp) (TchOf γ.grp γ.dec) γ.acc (t ++ MemOp.ofEvents m fn pos es) ∧
  (∀ op ∈ MemOp.ofEvents m fn pos es, op.g = m ∧ ∀ x, op.act.touch? = some x → OkT (fun b => γ.M m b ∨ (w.heap.size ≤ b ∧ b < w.heap.size)) (γ.R m) (ShOf γ.grp) (TchOf γ.grp γ.dec) m x) := by
 have hui : ∀ op ∈ MemOp.ofEvents m fn pos es, op.g = m ∧ ∀ x, op.act.touch? = some x → OkT (fun b => γ.M m b ∨ (w.heap.size ≤ b ∧ b < w.heap.size)) (γ.R m) (ShOf γ.grp) (TchOf γ.grp γ.dec) m x := fun op ho => by
  obtain ⟨h1, e, he, h2⟩ := mem_ops ho
  exact ⟨h1, fun x hx => (hf e he x (h2 ▸ hx)).imp id fun y => .inl y⟩
 exact ⟨(h.ti.step h.lie hm (Nat.le_refl _) (.inl ha) hui).freeze (fun _ _ hb => .inl hb) (fun _ _ => .inl) (fun _ _ _ a b => .inl ⟨a, b⟩), hui⟩
theorem GI.meet (h : GI P ty Post gs w t γ) {j p m : Nat} (hm : m = j ∨ m = p) {sp : Spec} {G : Grp} {Rm : Addr → Prop} (hj : γ.snd j = some (G.ch, sp)) (hp : γ.par j = p) (hG : γ.grp p = some G) (hgj : γ.grp j = none) (hcap : G.cap = 0)
  (hdj : γ.d j = 0) (hdp : γ.d p = 0) (hRm : ∀ a, Rm a → a.block < w.heap.size ∧ (γ.R j a ∨ γ.M j a.block)) {fn : FuncId} {pos : String} (hf : Foot (γ.cx m) w w es) (hde : deafBehind 0 es = 0)
  {gs' : Array Goroutine} (hsz : gs'.size = gs.size) {gj gp : Goroutine} (h1 : gs'[j]? = some gj) (h2 : gs'[p]? = some gp) (h3 : ∀ q, q ≠ j → q ≠ p → gs'[q]? = gs[q]?) (fr : Fr w w' (fun b => b = G.ch)) {s r : Nat}
  (hch : w.heap[G.ch]? = some (.chan 0 #[] false s r false)) (hch' : w'.heap[G.ch]? = some (.chan 0 #[] false (s + 1) (r + 1) false)) {x1 x2 x3 x4 : MemOp} (e1 : x1.g = j ∧ x1.act = .send G.ch s) (e2 : x2.g = p ∧ x2.act = .recv G.ch r 0) (e3 : x3.g = j ∧ x3.act = .sendDone G.ch s) (e4 : x4.g = p ∧ x4.act = .recvDone G.ch r)
  {nj np : Nat} (kj : W P ty Post false nj { γ.cx j with M := fun _ => False, R := fun a => γ.R j a ∨ Rm a, send := none } gj w)
  (kp : ∀ k, G.kids[k]? = some sp → W P ty Post (p == 0) np { γ.cx p with R := fun a => γ.R p a ∨ Rm a, grp := some (G.drop k) } gp w') :
  ∃ γ', GI P ty Post gs' w' (t ++ (MemOp.ofEvents m fn pos es ++ #[x1, x2, x3, x4])) γ' ∧ γ'.nn = upd (upd γ.nn j nj) p np ∧ γ'.ps = upd (upd γ.ps j .run) p .run := by
 subst hp
 obtain ⟨k, G', o1, o2, o3, o4, o5, o6, o7, o8, o9⟩ := h.li.owes hj
 rw [hG] at o2; cases o2
 obtain ⟨q1, q2, q3, q4, q5, q6, q7, q8⟩ := h.li.gn _ G hG
 have hpj : γ.par j ≠ j := by omega
 have wgn : G.wg = none := by
  cases e : G.wg with
  | none => rfl
  | some x => have := q6.1 (by rw [e]; rfl); omega
 have hdec : γ.dec j = none := by rw [o9, wgn]; rfl
 have nfp : γ.fly (γ.par j) = none := by
  cases e : γ.fly (γ.par j) with
  | none => rfl
  | some f =>
   obtain ⟨_, _, _, _, _, _, _, _, _, hg⟩ := h.li.flies e
   rw [hG] at hg; cases hg
 have hmlt : m < gs.size := by rcases hm with rfl | rfl <;> assumption
 have hma : γ.acc m = m := by rcases hm with rfl | rfl <;> assumption
 have hmf : γ.fly m = none := by rcases hm with rfl | rfl <;> assumption
 have hmd : γ.d m = 0 := by rcases hm with rfl | rfl <;> assumption
 obtain ⟨T1, hui⟩ := h.foot hmlt hma hf fn pos
 have D1 : ∀ q, q < gs.size → γ.d q = 0 → Deaf (t ++ MemOp.ofEvents m fn pos es) q = 0 := fun q hq hq0 => by
  by_cases e : q = m
  ·subst e; rw [Deaf_own, h.df q hq, hq0]; exact hde
  ·rw [Deaf_other t (fun x => e x.symm) _ (fun op ho => (mem_ops ho).1), h.df q hq, hq0]
 have srq : s = r := by
  obtain ⟨buf, s', r', hc⟩ := h.ch _ G hG
  have := hc.at_
  rw [hch] at this
  simp only [Option.some.injEq, Obj.chan.injEq] at this
  have h1 := hc.un hcap
  have h2 := hc.sum
  omega
 subst srq
 have F1 := FT.new T1 e1 (D1 j o6 hdj) (Rm := Rm) (fun a ha => (hRm a ha).2)
 have T2 := (T1.freeze (M' := upd γ.M j fun _ => False) (R' := upd γ.R j fun a => γ.R j a ∨ Rm a) (S' := ShOf γ.grp) (T' := TchOf γ.grp γ.dec) (fun q b hb => by
  by_cases e : q = j
  ·subst e; rw [upd_same] at hb; exact hb.elim
  ·rw [upd_ne _ _ e] at hb; exact hb) (fun q a ha => by
  by_cases e : q = j
  ·subst e; rw [upd_same] at ha; exact ha.elim .inl fun x => (hRm a x).2
  ·rw [upd_ne _ _ e] at ha; exact .inl ha) (fun _ _ _ a b => .inl ⟨a, b⟩)).quiet (u := #[x1]) o6 (by intro op ho; simp at ho; subst ho; exact ⟨e1.1, by rw [e1.2]; rfl⟩)
 have nt : ∀ {u : Trace} {x : MemOp}, x.act.touch? = none → ∀ op ∈ (#[x] : Trace), op.act.touch? = none := fun hx op ho => by simp at ho; subst ho; exact hx
 have fq : ∀ {acc : Nat → Nat} {u : Trace} {x : MemOp} {j' ch s' q : Nat} {R' : Addr → Prop}, x.act.touch? = none → FT acc u j' ch s' q R' → FT acc (u ++ #[x]) j' ch s' q R' := fun hx F => F.app (fun k g hk hg _ hc => by
  obtain ⟨y, hy, _⟩ := hc
  obtain ⟨op, ho, hoy⟩ := touch_of hy
  rcases getElem?_append_cases ho with ⟨hk', _⟩ | ⟨_, hou⟩
  ·omega
  ·simp at hou; subst hou; rw [hx] at hoy; cases hoy) (fun op ho y hy => by simp at ho; subst ho; rw [hx] at hy; cases hy)
 have n1 : x1.act.touch? = none := by rw [e1.2]; rfl
 have n2 : x2.act.touch? = none := by rw [e2.2]; rfl
 have n3 : x3.act.touch? = none := by rw [e3.2]; rfl
 have n4 : x4.act.touch? = none := by rw [e4.2]; rfl
 have T3 := (T2.quiet (u := #[x2]) q1 (by intro op ho; simp at ho; subst ho; exact ⟨e2.1, n2⟩)).quiet (u := #[x3]) o6 (by intro op ho; simp at ho; subst ho; exact ⟨e3.1, n3⟩)
 have F3 := fq n3 (fq n2 F1)
 have D3 : ∀ q, q < gs.size → γ.d q = 0 → Deaf (t ++ MemOp.ofEvents m fn pos es ++ #[x1] ++ #[x2] ++ #[x3]) q = 0 := fun q hq hq0 => by
  rw [Deaf_push, Deaf_push, Deaf_push]
  simp only [deafStep, e1.2, e2.2, e3.2]
  exact D1 q hq hq0
 let acc' : Nat → Nat := fun g => if γ.acc g = j then γ.par j else γ.acc g
 have T4 := T3.absorb F3 q1 e4 (D3 _ q1 hdp) (acc' := acc') (fun _ => rfl) (R' := upd (upd γ.R j fun a => γ.R j a ∨ Rm a) (γ.par j) fun a => γ.R (γ.par j) a ∨ Rm a) (fun q a ha => by
  by_cases e : q = γ.par j
  ·subst e; rw [upd_same] at ha; exact ha.imp (fun x => by rw [upd_ne _ _ hpj]; exact x) fun x => ⟨rfl, x⟩
  ·rw [upd_ne _ _ e] at ha; exact .inl ha)
 have eops : t ++ (MemOp.ofEvents m fn pos es ++ #[x1, x2, x3, x4]) = t ++ MemOp.ofEvents m fn pos es ++ #[x1] ++ #[x2] ++ #[x3] ++ #[x4] := by apply Array.ext'; simp
 have hS := sh_ph (G' := G.drop k) hG rfl rfl
 have L0 := h.li.sent hj hgj (f := ⟨sp, undef, Rm, s, 0⟩) rfl
 have L1 := L0.absorb (k := k) (f := ⟨sp, undef, Rm, s, 0⟩) o1 (upd_same _ _ _) hdec hG
 have efly : upd (upd γ.fly j (some ⟨sp, undef, Rm, s, 0⟩)) j none = γ.fly := by
  funext q
  by_cases e : q = j
  ·subst e; rw [upd_same, o8]
  ·rw [upd_ne _ _ e, upd_ne _ _ e]
 rw [efly] at L1
 let γ' : Gh := { M := upd γ.M j fun _ => False, R := upd (upd γ.R j fun a => γ.R j a ∨ Rm a) (γ.par j) fun a => γ.R (γ.par j) a ∨ Rm a, d := γ.d, snd := upd γ.snd j none, dec := γ.dec, grp := upd γ.grp (γ.par j) (some (G.drop k)), par := γ.par, acc := acc', ids := upd γ.ids (γ.par j) ((γ.ids (γ.par j)).eraseIdx k), fly := γ.fly, nn := upd (upd γ.nn j nj) (γ.par j) np, ps := upd (upd γ.ps j .run) (γ.par j) .run }
 have Rup : ∀ q a, γ.R q a → γ'.R q a := fun q a ha => by
  show upd (upd γ.R j fun a => γ.R j a ∨ Rm a) (γ.par j) (fun a => γ.R (γ.par j) a ∨ Rm a) q a
  by_cases e : q = γ.par j
  ·subst e; rw [upd_same]; exact .inl ha
  ·rw [upd_ne _ _ e]
   by_cases e' : q = j
   ·subst e'; rw [upd_same]; exact .inl ha
   ·rw [upd_ne _ _ e']; exact ha
 have hX : ∀ b, b = G.ch → ∀ q, γ.M q b ∨ ∃ p, ShOf γ.grp p b := fun b hb q => .inr ⟨_, G, hG, .inl hb⟩
 have hrl : ∀ q, Rely (γ.cx q) w w' := fun q => h.rely (i := q + 1) fr (fun b hb => hX b hb _) (by omega)
 refine ⟨γ', ⟨by rw [hsz]; exact L1, ?_, ?_, ?_, ?_, ?_, ?_, ?_, ?_, ?_⟩, rfl, rfl⟩
 ·have A := h.lie.turn (i := j) (Mi := fun _ => False) (Ri := fun a => γ.R j a ∨ Rm a) fr.size (fun b hb => hb.elim) (fun a ha => ha.elim .inl fun x => (hRm a x).2.imp id fun y => ⟨Nat.lt_of_lt_of_le (hRm a x).1 fr.size, .inl y, fun z => z.elim⟩) (S' := ShOf γ'.grp) (T' := TchOf γ'.grp γ'.dec) (fun q b => (hS q b).1) (fun q b hb => ⟨hb.imp (hS q b).1 id, by
    obtain ⟨q', hq'⟩ := h.lie.ts q b (hb.imp (hS q b).1 id)
    exact ⟨q', (hS q' b).2 hq'⟩⟩)
  exact A.share (fun q a ha => by
   have ha : upd (upd γ.R j fun a => γ.R j a ∨ Rm a) (γ.par j) (fun a => γ.R (γ.par j) a ∨ Rm a) q a := ha
   by_cases e : q = γ.par j
   ·subst e
    rw [upd_same] at ha
    rcases ha with ha | ha
    ·exact ⟨γ.par j, by rw [upd_ne _ _ hpj]; exact ha⟩
    ·exact ⟨j, by rw [upd_same]; exact .inr ha⟩
   ·rw [upd_ne _ _ e] at ha; exact ⟨q, ha⟩)
 ·rw [eops, hsz]
  exact (T4.grow fr.size).freeze (fun _ _ => id) (fun _ _ => .inl) (fun q b p' hb hp' => .inl ⟨hb.imp (hS q b).1 id, (hS p' b).1 hp'⟩)
 ·intro q b hb
  rw [hsz]
  have hb : upd γ.M j (fun _ => False) q b := hb
  by_cases e : q = j
  ·subst e; rw [upd_same] at hb; exact hb.elim
  ·rw [upd_ne _ _ e] at hb; exact h.mz q b hb
 ·intro q hq
  rw [hsz] at hq
  rw [eops, Deaf_push, Deaf_push, Deaf_push, Deaf_push]
  simp only [deafStep, e1.2, e2.2, e3.2, e4.2]
  show _ = γ.d q
  by_cases e : q = m
  ·subst e; rw [Deaf_own, h.df q hq, hmd]; exact hde
  ·rw [Deaf_other t (fun x => e x.symm) _ (fun op ho => (mem_ops ho).1), h.df q hq]
 ·intro q f hq
  have hq : γ.fly q = some f := hq
  obtain ⟨G', g1, g2, g3, g4⟩ := h.ft q f hq
  refine ⟨if γ.par q = γ.par j then G.drop k else G', ?_, ?_, fun a ha => Rup q a (g3 a ha), h.ok_kept (i := m) fr (fun b hb => hX b hb m) g3 g4⟩
  ·show upd γ.grp (γ.par j) (some (G.drop k)) (γ.par q) = _
   by_cases e : γ.par q = γ.par j
   ·rw [if_pos e, e, upd_same]
   ·rw [if_neg e, upd_ne _ _ e]; exact g1
  ·have ec : (if γ.par q = γ.par j then G.drop k else G').ch = G'.ch := by
    by_cases e : γ.par q = γ.par j
    ·rw [if_pos e]
     rw [e, hG] at g1; cases g1; rfl
    ·rw [if_neg e]
   rw [ec, eops]
   have := fq n4 (fq n3 (fq n2 (fq n1 (h.fts hma hmf (sz' := w.heap.size) (u := MemOp.ofEvents m fn pos es) (fun op ho x hx => ⟨(hui op ho).1, (hui op ho).2 x hx⟩) hq g2 g3))))
   refine this.reck fun g hg => ?_
   have hg : (if γ.acc g = j then γ.par j else γ.acc g) = q := hg
   by_cases e : γ.acc g = j
   ·rw [if_pos e] at hg; subst hg; rw [nfp] at hq; cases hq
   ·rw [if_neg e] at hg; exact hg
 ·intro p' G' hG'
  have hG' : upd γ.grp (γ.par j) (some (G.drop k)) p' = some G' := hG'
  by_cases e : p' = γ.par j
  ·subst e
   rw [upd_same] at hG'; cases hG'
   obtain ⟨buf, s', r', hc⟩ := h.ch _ G hG
   have hb0 : buf.size = 0 := hc.un hcap
   refine ⟨#[], s + 1, s + 1, ?_, fun _ => rfl, by simp, ?_, fun q v hq => by simp at hq⟩
   ·show w'.heap[G.ch]? = some (.chan G.cap #[] G.closed (s + 1) (s + 1) false)
    have hcl : G.closed = false := by
     have := hc.at_
     rw [hch] at this
     simp only [Option.some.injEq, Obj.chan.injEq] at this
     exact this.2.2.1.symm
    rw [hch', hcap, hcl]
   ·show (upd γ.ids (γ.par j) ((γ.ids (γ.par j)).eraseIdx k) (γ.par j)).countP (isFly γ.fly) = 0
    rw [upd_same]
    have := (List.eraseIdx_sublist (γ.ids (γ.par j)) k).countP_le (p := isFly γ.fly)
    have := hc.cnt
    omega
  ·rw [upd_ne _ _ e] at hG'
   obtain ⟨buf, s', r', hc⟩ := h.ch_kept fr hG' (fun x => e (h.lie.ss _ _ _ ⟨G', hG', .inl x.symm⟩ ⟨G, hG, .inl rfl⟩))
   refine ⟨buf, s', r', ?_⟩
   have : γ'.ids p' = γ.ids p' := upd_ne _ _ e
   rw [this]; exact hc
 ·intro p' G' a φ hG' ha
  have hG' : upd γ.grp (γ.par j) (some (G.drop k)) p' = some G' := hG'
  rw [hsz]
  by_cases e : p' = γ.par j
  ·subst e
   rw [upd_same] at hG'; cases hG'
   have : G.wg = some (a, φ) := ha
   rw [wgn] at this; cases this
  ·rw [upd_ne _ _ e] at hG'
   refine (h.wg p' G' a φ hG' ha).mono (fr.keep a (h.lie.sl p' a ⟨G', hG', .inr ⟨φ, ha⟩⟩) fun x => e (h.lie.ss p' _ a ⟨G', hG', .inr ⟨φ, ha⟩⟩ ⟨G, hG, .inl x⟩)) fun hs => ?_
   have hs : upd (upd γ.ps j .run) (γ.par j) .run p' = .sem := hs
   rw [upd_ne _ _ e] at hs
   by_cases e' : p' = j
   ·subst e'; rw [upd_same] at hs; cases hs
   ·rwa [upd_ne _ _ e'] at hs
 ·intro q gq hq
  show Sit P ty Post (q == 0) (upd (upd γ.nn j nj) (γ.par j) np q) _ _ _ (upd (upd γ.ps j .run) (γ.par j) .run q)
  by_cases e : q = γ.par j
  ·subst e
   rw [h2] at hq; cases hq
   rw [upd_same, upd_same]
   refine .run ?_
   have : γ'.cx (γ.par j) = { γ.cx (γ.par j) with R := fun a => γ.R (γ.par j) a ∨ Rm a, grp := some (G.drop k) } := by simp [γ', Gh.cx, upd_same, upd_ne _ _ hpj]
   rw [this]; exact kp k o4
  ·rw [upd_ne _ _ e, upd_ne _ _ e]
   by_cases e' : q = j
   ·subst e'
    rw [h1] at hq; cases hq
    rw [upd_same, upd_same]
    have e0 : (q == 0) = false := by
     have : q ≠ 0 := by omega
     simpa using this
    rw [e0]
    refine .run ?_
    have : γ'.cx q = { γ.cx q with M := fun _ => False, R := fun a => γ.R q a ∨ Rm a, send := none } := by simp [γ', Gh.cx, upd_same, upd_ne _ _ e]
    rw [this]
    refine kj.rely (fr.rely (fun b hb => hb.elim) fun a ha => ?_)
    have ha : γ.R q a ∨ Rm a := ha
    have : γ.R q a ∨ γ.M q a.block := ha.elim .inl fun x => (hRm a x).2
    rcases this with y | y
    ·exact ⟨h.lie.rl q a y, fun z => h.lie.rs q _ a y ⟨G, hG, .inl z⟩⟩
    ·exact ⟨h.lie.ml q _ y, fun z => h.lie.ms q _ _ y ⟨G, hG, .inl z⟩⟩
   ·rw [upd_ne _ _ e', upd_ne _ _ e']
    rw [h3 q e' e] at hq
    have : γ'.cx q = γ.cx q := by simp [γ', Gh.cx, upd_ne _ _ e, upd_ne _ _ e']
    rw [this]
    exact (h.sit q gq hq).rely (hrl q)
 ·intro p' hp' j' hj' hs
  have aux : ∀ {q : Nat} {x : PS}, upd (upd γ.ps j .run) (γ.par j) .run q = x → x ≠ .run → γ.ps q = x ∧ q ≠ γ.par j := by
   intro q x hq hx
   by_cases e : q = γ.par j
   ·subst e; rw [upd_same] at hq; exact absurd hq.symm hx
   ·rw [upd_ne _ _ e] at hq
    by_cases e' : q = j
    ·subst e'; rw [upd_same] at hq; exact absurd hq.symm hx
    ·rw [upd_ne _ _ e'] at hq; exact ⟨hq, e⟩
  obtain ⟨a1, a2⟩ := aux hp' (by simp)
  have : j' ∈ γ.ids p' := by
   have hj' : j' ∈ upd γ.ids (γ.par j) ((γ.ids (γ.par j)).eraseIdx k) p' := hj'
   rwa [upd_ne _ _ a2] at hj'
  exact h.nr p' a1 j' this (aux hs (by simp)).1
end
end Go.Gw
namespace Go.Gw
open Go Go.Conc Go.ConcN
open Go.ConcR (KK wgBlock WgAt stA smA)
section
variable {P : Program} {ty : TypeId} {Post : Value → World → Prop} {gs : Array Goroutine} {w : World} {t : Trace} {γ : Gh} {i : Nat} {g g' : Goroutine} {w' : World} {es : Array Event} {sl : Option (Nat × Nat)}
theorem nt_quiet {acc : Nat → Nat} {u : Trace} {x : MemOp} {j' ch s' q : Nat} {R' : Addr → Prop} (hx : x.act.touch? = none) (F : FT acc u j' ch s' q R') : FT acc (u ++ #[x]) j' ch s' q R' :=
 F.app (fun k g hk hg _ hc => by
  obtain ⟨y, hy, _⟩ := hc
  obtain ⟨op, ho, hoy⟩ := touch_of hy
  rcases getElem?_append_cases ho with ⟨hk', _⟩ | ⟨_, hou⟩
  ·omega
  ·simp at hou; subst hou; rw [hx] at hoy; cases hoy) (fun op ho y hy => by simp at ho; subst ho; rw [hx] at hy; cases hy)
theorem W.nb {main : Bool} {n : Nat} {c : Ctx} (h : W P ty Post main n c g w) : g.status ≠ .blocked := by
 rcases h.status with e | e
 ·rw [e]; simp
 ·rw [e.1]; simp
theorem GI.send_room (h : GI P ty Post gs w t γ) (hi : gs[i]? = some g) {g₂ : Goroutine} {sp : Spec} {v z : Value} {Rm : Addr → Prop} {G : Grp} {n' : Nat} (hst : stepG P (i == 0) g w = .comm g₂ #[scase G.ch v z] true .send w es) (hn : n' < γ.nn i)
  (hs : γ.snd i = some (G.ch, sp)) (hG : γ.grp (γ.par i) = some G) (hgi : γ.grp i = none) (hcap : 0 < G.cap) (hd : γ.d i = 0) (hf : Foot (γ.cx i) w w es) (hde : deafBehind 0 es = 0) (hok : sp.ok v Rm w) (hRm : ∀ a, Rm a → a.block < w.heap.size ∧ (γ.R i a ∨ γ.M i a.block))
  (hW : W P ty Post false n' { γ.cx i with M := fun _ => False, R := fun a => γ.R i a ∨ Rm a, send := none } (Conc.served g₂ undef) w) : Nxt P ty Post gs w t γ sl i := by
 have hlt : i < gs.size := (Array.getElem?_eq_some_iff.1 hi).1
 obtain ⟨k, G', o1, o2, o3, o4, o5, o6, o7, o8, o9⟩ := h.li.owes hs
 rw [hG] at o2; cases o2
 obtain ⟨q1, q2, q3, q4, q5, q6, q7, q8⟩ := h.li.gn _ G hG
 obtain ⟨buf, s, r, hc⟩ := h.ch _ G hG
 have hcl := owing_open h.li h.wg hs hG
 have mem : i ∈ γ.ids (γ.par i) := List.mem_of_getElem? o1
 have hroom : buf.size < G.cap := by
  have h1 : (γ.ids (γ.par i)).countP (isFly γ.fly) < (γ.ids (γ.par i)).length := by
   have h2 := List.countP_le_length (p := isFly γ.fly) (l := γ.ids (γ.par i))
   rcases Nat.lt_or_ge ((γ.ids (γ.par i)).countP (isFly γ.fly)) (γ.ids (γ.par i)).length with h3 | h3
   ·exact h3
   ·have h4 := List.countP_eq_length.1 (Nat.le_antisymm h2 h3) i mem
    simp [isFly, o8] at h4
  have := hc.cnt
  have := q7 hcap
  omega
 have hat : w.heap[G.ch]? = some (.chan G.cap buf false s r false) := by rw [hc.at_, hcl]
 have hp : partners (gs.setIfInBounds i ph) G.ch false = [] := partners_nil fun j o hj => by
  rcases getElem?_stand gs i j o hj with ⟨_, rfl⟩ | ⟨_, hj⟩
  ·exact offersAt_ph _ _
  ·by_cases e : offersAt o G.ch false = []
   ·exact e
   ·obtain ⟨_, _, G', g₀, z', okb, r1, r2, r3, _⟩ := h.offers_rcv hj e
    have := h.lie.ss j _ G.ch ⟨G', r1, .inl r2.symm⟩ ⟨G, hG, .inl rfl⟩
    rw [this, hG] at r1; cases r1
    omega
 have hrun := crowd_send_room (sl := sl) hi hst hat hroom hp
 rw [finishComm_send] at hrun
 have fr := Fr.setChan hat G.cap (buf.push v) false (s + 1) r false
 have hat' := setChan_at hat G.cap (buf.push v) false (s + 1) r false
 generalize w.setChan G.ch G.cap (buf.push v) false (s + 1) r false = w' at hrun fr hat'
 generalize hx1 : ({ g := i, fn := g₂.frame.fn, pos := g₂.frame.place, act := .send G.ch s } : MemOp) = x1 at hrun
 generalize hx2 : ({ g := i, fn := g₂.frame.fn, pos := g₂.frame.place, act := .sendDone G.ch s } : MemOp) = x2 at hrun
 have e1 : x1.g = i ∧ x1.act = .send G.ch s := by subst hx1; exact ⟨rfl, rfl⟩
 have e2 : x2.g = i ∧ x2.act = .sendDone G.ch s := by subst hx2; exact ⟨rfl, rfl⟩
 have n1 : x1.act.touch? = none := by rw [e1.2]; rfl
 have n2 : x2.act.touch? = none := by rw [e2.2]; rfl
 obtain ⟨T1, hui⟩ := h.foot hlt o7 hf g.frame.fn g.frame.place
 generalize hE : MemOp.ofEvents i g.frame.fn g.frame.place es = E at hrun T1 hui
 have D1 : Deaf (t ++ E) i = 0 := by rw [← hE, Deaf_own, h.df i hlt, hd]; exact hde
 have F1 := FT.new T1 e1 D1 (Rm := Rm) (fun a ha => (hRm a ha).2)
 have T2 := ((T1.freeze (M' := upd γ.M i fun _ => False) (R' := upd γ.R i fun a => γ.R i a ∨ Rm a) (S' := ShOf γ.grp) (T' := TchOf γ.grp γ.dec) (fun q b hb => by
  by_cases e : q = i
  ·subst e; rw [upd_same] at hb; exact hb.elim
  ·rw [upd_ne _ _ e] at hb; exact hb) (fun q a ha => by
  by_cases e : q = i
  ·subst e; rw [upd_same] at ha; exact ha.elim .inl fun x => (hRm a x).2
  ·rw [upd_ne _ _ e] at ha; exact .inl ha) (fun _ _ _ a b => .inl ⟨a, b⟩)).quiet (u := #[x1]) hlt (by intro op ho; simp at ho; subst ho; exact ⟨e1.1, n1⟩)).quiet (u := #[x2]) hlt (by intro op ho; simp at ho; subst ho; exact ⟨e2.1, n2⟩)
 have eops : t ++ (E ++ #[x1, x2]) = t ++ E ++ #[x1] ++ #[x2] := by apply Array.ext'; simp
 let f0 : Fly := ⟨sp, v, Rm, s, (t ++ E).size⟩
 let γ' : Gh := { M := upd γ.M i fun _ => False, R := upd γ.R i fun a => γ.R i a ∨ Rm a, d := γ.d, snd := upd γ.snd i none, dec := γ.dec, grp := γ.grp, par := γ.par, acc := γ.acc, ids := γ.ids, fly := upd γ.fly i (some f0), nn := upd γ.nn i n', ps := upd γ.ps i .run }
 have hX : ∀ b, b = G.ch → ∀ q, γ.M q b ∨ ∃ p, ShOf γ.grp p b := fun b hb q => .inr ⟨_, G, hG, .inl hb⟩
 have hsz : (gs.setIfInBounds i (Conc.served g₂ undef)).size = gs.size := by simp
 refine ⟨_, _, _, hrun, ?_, gs.setIfInBounds i (Conc.served g₂ undef), w', sl, γ', rfl, ⟨by rw [hsz]; exact h.li.sent hs hgi rfl, ?_, ?_, ?_, ?_, ?_, ?_, ?_, ?_, ?_⟩, rfl⟩
 ·refine .left _ _ ?_
  have : sumTo gs.size (upd γ.nn i n') + γ.nn i = sumTo gs.size γ.nn + n' := sumTo_upd γ.nn n' (fun x => x) hlt
  rw [hsz]
  show sumTo gs.size (upd γ.nn i n') < _
  omega
 ·exact h.lie.turn fr.size (fun b hb => hb.elim) (fun a ha => ha.elim .inl fun x => (hRm a x).2.imp id fun y => ⟨Nat.lt_of_lt_of_le (hRm a x).1 fr.size, .inl y, fun z => z.elim⟩) (fun _ _ => id) (fun q b hb => ⟨hb, h.lie.ts q b hb⟩)
 ·rw [eops, hsz]; exact T2.grow fr.size
 ·intro q b hb
  rw [hsz]
  have hb : upd γ.M i (fun _ => False) q b := hb
  by_cases e : q = i
  ·subst e; rw [upd_same] at hb; exact hb.elim
  ·rw [upd_ne _ _ e] at hb; exact h.mz q b hb
 ·intro q hq
  rw [hsz] at hq
  rw [eops, Deaf_push, Deaf_push]
  simp only [deafStep, e1.2, e2.2]
  show _ = γ.d q
  by_cases e : q = i
  ·subst e; rw [D1, hd]
  ·rw [← hE, Deaf_other t (fun x => e x.symm) _ (fun op ho => (mem_ops ho).1), h.df q hq]
 ·intro q f hq
  have hq : upd γ.fly i (some f0) q = some f := hq
  by_cases e : q = i
  ·subst e
   rw [upd_same] at hq; cases hq
   refine ⟨G, hG, ?_, fun a ha => ?_, ?_⟩
   ·rw [eops]; exact nt_quiet n2 F1
   ·show upd γ.R q (fun a => γ.R q a ∨ Rm a) q a
    rw [upd_same]; exact .inr ha
   ·refine sp.keep v Rm w w' (fun a ha => ?_) hok
    have hb : a.block < w.heap.size ∧ a.block ≠ G.ch := by
     refine ⟨(hRm a ha).1, fun z => ?_⟩
     rcases (hRm a ha).2 with y | y
     ·exact h.lie.rs q _ a y ⟨G, hG, .inl z⟩
     ·exact h.lie.ms q _ _ y ⟨G, hG, .inl z⟩
    have hk := fr.keep _ hb.1 hb.2
    exact ⟨by simp only [World.cell?, hk], fr.shape _ hb.1⟩
  ·rw [upd_ne _ _ e] at hq
   obtain ⟨G', g1, g2, g3, g4⟩ := h.ft q f hq
   refine ⟨G', g1, ?_, fun a ha => ?_, h.ok_kept (i := i) fr (fun b hb => hX b hb i) g3 g4⟩
   ·rw [eops]
    exact nt_quiet n2 (nt_quiet n1 (h.fts o7 o8 (sz' := w.heap.size) (fun op ho x hx => ⟨(hui op ho).1, (hui op ho).2 x hx⟩) hq g2 g3))
   ·show upd γ.R i (fun a => γ.R i a ∨ Rm a) q a
    rw [upd_ne _ _ e]; exact g3 a ha
 ·intro p G' hG'
  by_cases e : p = γ.par i
  ·subst e
   have hG'' : γ.grp (γ.par i) = some G' := hG'
   rw [hG] at hG''; cases hG''
   refine ⟨buf.push v, s + 1, r, by rw [hcl]; exact hat', fun hc0 => by omega, by have := hc.sum; simp; omega, ?_, fun q u hq => ?_⟩
   ·show (γ.ids (γ.par i)).countP (isFly (upd γ.fly i (some f0))) = (buf.push v).size
    rw [countP_fly o8 q4 mem, hc.cnt]; simp
   ·rw [Array.getElem?_push] at hq
    by_cases e : q = buf.size
    ·subst e
     rw [if_pos rfl] at hq
     cases hq
     exact ⟨i, f0, mem, upd_same _ _ _, rfl, by have := hc.sum; simp only [f0]; omega⟩
    ·rw [if_neg e] at hq
     obtain ⟨j, f, r1, r2, r3⟩ := hc.msg q u hq
     have hne : j ≠ i := fun e => by rw [e, o8] at r2; cases r2
     exact ⟨j, f, r1, (upd_ne _ _ hne).trans r2, r3⟩
  ·have hG'' : γ.grp p = some G' := hG'
   obtain ⟨buf', s', r', hc'⟩ := h.ch_kept fr hG'' (fun x => e (h.lie.ss _ _ _ ⟨G', hG'', .inl x.symm⟩ ⟨G, hG, .inl rfl⟩))
   have hni : i ∉ γ.ids p := fun hm => by
    obtain ⟨_, _, _, _, _, _, _, _, _, hp', _⟩ := h.li.kid_of hm
    exact e hp'.symm
   refine ⟨buf', s', r', hc'.at_, hc'.un, hc'.sum, ?_, fun q u hq => ?_⟩
   ·show (γ.ids p).countP (isFly (upd γ.fly i (some f0))) = buf'.size
    rw [countP_upd hni]; exact hc'.cnt
   ·obtain ⟨j, f, r1, r2, r3⟩ := hc'.msg q u hq
    have hne : j ≠ i := fun e => by rw [e, o8] at r2; cases r2
    exact ⟨j, f, r1, (upd_ne _ _ hne).trans r2, r3⟩
 ·intro p G' a φ hG' ha
  have hG'' : γ.grp p = some G' := hG'
  rw [hsz]
  have hne : ¬ a = G.ch := fun x => by
   have := h.lie.ss p _ a ⟨G', hG'', .inr ⟨φ, ha⟩⟩ ⟨G, hG, .inl x⟩
   rw [this, hG] at hG''; cases hG''
   exact q8 a φ ha x
  refine (h.wg p G' a φ hG'' ha).mono (fr.keep a (h.lie.sl p a ⟨G', hG'', .inr ⟨φ, ha⟩⟩) hne) fun hs => ?_
  have hs : upd γ.ps i .run p = .sem := hs
  by_cases e' : p = i
  ·subst e'; rw [upd_same] at hs; cases hs
  ·rwa [upd_ne _ _ e'] at hs
 ·intro q gq hq
  show Sit P ty Post (q == 0) (upd γ.nn i n' q) _ _ _ (upd γ.ps i .run q)
  by_cases e : q = i
  ·subst e
   rw [Array.getElem?_setIfInBounds_self_of_lt hlt] at hq
   cases hq
   rw [upd_same, upd_same]
   have e0 : (q == 0) = false := by
    have : q ≠ 0 := by omega
    simpa using this
   rw [e0]
   refine .run ?_
   have : γ'.cx q = { γ.cx q with M := fun _ => False, R := fun a => γ.R q a ∨ Rm a, send := none } := by simp [γ', Gh.cx, upd_same]
   rw [this]
   refine hW.rely (fr.rely (fun b hb => hb.elim) fun a ha => ?_)
   have ha : γ.R q a ∨ Rm a := ha
   have : γ.R q a ∨ γ.M q a.block := ha.elim .inl fun x => (hRm a x).2
   rcases this with y | y
   ·exact ⟨h.lie.rl q a y, fun z => h.lie.rs q _ a y ⟨G, hG, .inl z⟩⟩
   ·exact ⟨h.lie.ml q _ y, fun z => h.lie.ms q _ _ y ⟨G, hG, .inl z⟩⟩
  ·rw [Array.getElem?_setIfInBounds_ne (fun x => e x.symm)] at hq
   rw [upd_ne _ _ e, upd_ne _ _ e]
   have : γ'.cx q = γ.cx q := by simp [γ', Gh.cx, upd_ne _ _ e]
   rw [this]
   exact (h.sit q gq hq).rely (h.rely (i := i) fr (fun b hb => hX b hb i) e)
 ·intro p' hp' j' hj' hs
  have aux : ∀ {q : Nat} {x : PS}, upd γ.ps i .run q = x → x ≠ .run → γ.ps q = x := by
   intro q x hq hx
   by_cases e : q = i
   ·subst e; rw [upd_same] at hq; exact absurd hq.symm hx
   ·rwa [upd_ne _ _ e] at hq
  exact h.nr p' (aux hp' (by simp)) j' hj' (aux hs (by simp))
theorem GI.park (h : GI P ty Post gs w t γ) (hi : gs[i]? = some g) {gk : Goroutine} {s : PS} {n' : Nat} (hn : n' < γ.nn i) (hs0 : s ≠ .sem) (ha : γ.acc i = i) (hfl : γ.fly i = none) (hf : Foot (γ.cx i) w w es) (hde : deafBehind (γ.d i) es = γ.d i)
  (hsit : Sit P ty Post (i == 0) n' (γ.cx i) gk w s) (hnr : s = .rcv → ∀ j ∈ γ.ids i, γ.ps j ≠ .snd) (hns : s = .snd → γ.ps (γ.par i) ≠ .rcv)
  (hrun : runT P (crowd gs w sl) i = (.next (crowd (gs.setIfInBounds i gk) w sl), MemOp.ofEvents i g.frame.fn g.frame.place es)) : Nxt P ty Post gs w t γ sl i := by
 have hlt : i < gs.size := (Array.getElem?_eq_some_iff.1 hi).1
 obtain ⟨T1, hui⟩ := h.foot hlt ha hf g.frame.fn g.frame.place
 have hsz : (gs.setIfInBounds i gk).size = gs.size := by simp
 refine ⟨_, _, _, hrun, ?_, gs.setIfInBounds i gk, w, sl, { γ with nn := upd γ.nn i n', ps := upd γ.ps i s }, rfl, ⟨by rw [hsz]; exact h.li, h.lie, by rw [hsz]; exact T1, fun q b hb => by rw [hsz]; exact h.mz q b hb, fun q hq => ?_, fun q f hq => ?_, h.ch, fun p G' a φ hG' ha' => ?_, fun q gq hq => ?_, fun p' hp' j' hj' hs => ?_⟩, rfl⟩
 ·refine .left _ _ ?_
  have : sumTo gs.size (upd γ.nn i n') + γ.nn i = sumTo gs.size γ.nn + n' := sumTo_upd γ.nn n' (fun x => x) hlt
  rw [hsz]
  show sumTo gs.size (upd γ.nn i n') < _
  omega
 ·rw [hsz] at hq
  show _ = γ.d q
  by_cases e : q = i
  ·subst e; rw [Deaf_own, h.df q hlt, hde]
  ·rw [Deaf_other t (fun x => e x.symm) _ (fun op ho => (mem_ops ho).1), h.df q hq]
 ·obtain ⟨G', g1, g2, g3, g4⟩ := h.ft q f hq
  exact ⟨G', g1, h.fts ha hfl (sz' := w.heap.size) (fun op ho x hx => ⟨(hui op ho).1, (hui op ho).2 x hx⟩) hq g2 g3, g3, g4⟩
 ·rw [hsz]
  refine (h.wg p G' a φ hG' ha').mono rfl fun hs => ?_
  have hs : upd γ.ps i s p = .sem := hs
  by_cases e' : p = i
  ·subst e'; rw [upd_same] at hs; exact absurd hs hs0
  ·rwa [upd_ne _ _ e'] at hs
 ·show Sit P ty Post (q == 0) (upd γ.nn i n' q) (γ.cx q) _ _ (upd γ.ps i s q)
  by_cases e : q = i
  ·subst e
   rw [Array.getElem?_setIfInBounds_self_of_lt hlt] at hq
   cases hq
   rw [upd_same, upd_same]; exact hsit
  ·rw [Array.getElem?_setIfInBounds_ne (fun x => e x.symm)] at hq
   rw [upd_ne _ _ e, upd_ne _ _ e]; exact h.sit q gq hq
 ·have hp2 : upd γ.ps i s p' = .rcv := hp'
  have hs2 : upd γ.ps i s j' = .snd := hs
  have hj2 : j' ∈ γ.ids p' := hj'
  clear hp' hs hj'
  obtain ⟨_, _, _, _, _, _, hlt', _, _, hpar, _⟩ := h.li.kid_of hj2
  by_cases e : p' = i
  ·subst e
   rw [upd_same] at hp2
   by_cases e' : j' = p'
   ·omega
   ·rw [upd_ne _ _ e'] at hs2
    exact hnr hp2 j' hj2 hs2
  ·rw [upd_ne _ _ e] at hp2
   by_cases e' : j' = i
   ·subst e'
    rw [upd_same] at hs2
    exact hns hs2 (by rw [hpar]; exact hp2)
   ·rw [upd_ne _ _ e'] at hs2
    exact h.nr p' hp2 j' hj2 hs2
theorem GI.send (h : GI P ty Post gs w t γ) (hi : gs[i]? = some g) {g₂ : Goroutine} {sp : Spec} {v z : Value} {Rm : Addr → Prop} {ch n' : Nat} (hst : stepG P (i == 0) g w = .comm g₂ #[scase ch v z] true .send w es) (hn : n' < γ.nn i)
  (hs : γ.snd i = some (ch, sp)) (hgi : γ.grp i = none) (hd : γ.d i = 0) (hf : Foot (γ.cx i) w w es) (hde : deafBehind 0 es = 0) (hok : sp.ok v Rm w) (hRm : ∀ a, Rm a → a.block < w.heap.size ∧ (γ.R i a ∨ γ.M i a.block))
  (hW : W P ty Post false n' { γ.cx i with M := fun _ => False, R := fun a => γ.R i a ∨ Rm a, send := none } (Conc.served g₂ undef) w) : Nxt P ty Post gs w t γ sl i := by
 have hlt : i < gs.size := (Array.getElem?_eq_some_iff.1 hi).1
 obtain ⟨k, G, o1, o2, o3, o4, o5, o6, o7, o8, o9⟩ := h.li.owes hs
 subst o3
 rcases Nat.eq_zero_or_pos G.cap with hcap | hcap
 rotate_left
 ·exact h.send_room hi hst hn hs o2 hgi hcap hd hf hde hok hRm hW
 obtain ⟨buf, s, r, hc⟩ := h.ch _ G o2
 have hcl := owing_open h.li h.wg hs o2
 have hb0 : buf = #[] := Array.eq_empty_of_size_eq_zero (hc.un hcap)
 have hat : w.heap[G.ch]? = some (.chan 0 #[] false s r false) := by rw [hc.at_, hcl, hcap, hb0]
 obtain ⟨q1, _, _, _, _, q6, _⟩ := h.li.gn _ G o2
 have hdn : γ.dec i = none := by
  rw [o9]
  cases e : G.wg with
  | none => rfl
  | some x => have := q6.1 (by rw [e]; rfl); omega
 obtain ⟨gp, hgp⟩ : ∃ gp, gs[γ.par i]? = some gp := ⟨_, Array.getElem?_eq_getElem q1⟩
 have hne : γ.par i ≠ i := by omega
 have others : ∀ j o, j ≠ γ.par i → gs[j]? = some o → offersAt o G.ch false = [] := fun j o hj hjo => by
  by_cases e : offersAt o G.ch false = []
  ·exact e
  ·obtain ⟨_, _, G', g₀, z', okb, r1, r2, r3, _⟩ := h.offers_rcv hjo e
   exact absurd (h.lie.ss j _ G.ch ⟨G', r1, .inl r2.symm⟩ ⟨G, o2, .inl rfl⟩) hj
 have hsp := h.sit _ gp hgp
 generalize hps : γ.ps (γ.par i) = x at hsp
 have waits : offersAt gp G.ch false = [] → x ≠ .rcv → Nxt P ty Post gs w t γ sl i := fun ho hx => by
  have hp : partners (gs.setIfInBounds i ph) G.ch false = [] := partners_nil fun j o hj => by
   rcases getElem?_stand gs i j o hj with ⟨_, rfl⟩ | ⟨_, hj⟩
   ·exact offersAt_ph _ _
   ·by_cases e : j = γ.par i
    ·subst e; rw [hgp] at hj; cases hj; exact ho
    ·exact others j o e hj
  have hw : ∀ cc ∈ #[scase G.ch v z], NoWays w (gs.setIfInBounds i ph) cc := fun cc hcc => by
   simp at hcc; subst hcc
   exact ways_send_none hat (Nat.zero_le _) hp
  have e0 : (i == 0) = false := by
   have : i ≠ 0 := by omega
   simpa using this
  refine h.park hi (s := .snd) hn (by simp) o7 o8 hf (by rw [hd]; exact hde) (.snd e0 rfl hs hgi hdn hd hok hRm hW) (fun e => by cases e) (fun _ => by rw [hps]; exact hx) (crowd_waits hi hst hw)
 cases hsp with
 | run hw => exact waits (offersAt_of_not_blocked hw.nb _ _) (by simp)
 | snd hm hg hc' hG' hdc hd' hok' hR' k' => exact waits (by rw [hg, offersAt_parked_send']) (by simp)
 | sem hG' hwg hst' ho' hw => exact waits (by simp [offersAt, hst', ho']) (by simp)
 | rcv hg hG' hkk hcap' hcl' hd' kk =>
  rename_i g₀ G' z' okb
  have hG'' : γ.grp (γ.par i) = some G' := hG'
  rw [o2] at hG''; cases hG''
  have hd' : γ.d (γ.par i) = 0 := hd'
  have hps1 := partners_one (gs := gs.setIfInBounds i ph) (r := G.ch) (send := false) (stand_get hne hgp) fun j o hj hjo => by
   rcases getElem?_stand gs i j o hjo with ⟨_, rfl⟩ | ⟨_, hjo⟩
   ·exact offersAt_ph _ _
   ·exact others j o hj hjo
  rw [hg, offersAt_parked_recv, if_pos rfl] at hps1
  rw [hg] at hgp
  have hrun := crowd_send_meets (sl := sl) hi hst hat hne hgp (by simpa using hps1)
  rw [finishComm_send, finishComm_recv] at hrun
  have fr := Fr.setChan hat 0 #[] false (s + 1) (r + 1) false
  have hat' := setChan_at hat 0 #[] false (s + 1) (r + 1) false
  generalize w.setChan G.ch 0 #[] false (s + 1) (r + 1) false = w' at hrun fr hat'
  have hsz : ((gs.setIfInBounds (γ.par i) (Conc.served g₀ (recvd okb v true))).setIfInBounds i (Conc.served g₂ undef)).size = gs.size := by simp
  have hok' : sp.ok v Rm w' := by
   refine sp.keep v Rm w w' (fun a ha => ?_) hok
   have hb : a.block < w.heap.size ∧ a.block ≠ G.ch := by
    refine ⟨(hRm a ha).1, fun z => ?_⟩
    rcases (hRm a ha).2 with y | y
    ·exact h.lie.rs i _ a y ⟨G, o2, .inl z⟩
    ·exact h.lie.ms i _ _ y ⟨G, o2, .inl z⟩
   have hk := fr.keep _ hb.1 hb.2
   exact ⟨by simp only [World.cell?, hk], fr.shape _ hb.1⟩
  obtain ⟨γ', hγ, hnn, hpp⟩ := h.meet (m := i) (.inl rfl) hs rfl o2 hgi hcap hd hd' hRm (fn := g.frame.fn) (pos := g.frame.place) hf hde hsz
   (gj := Conc.served g₂ undef) (gp := Conc.served g₀ (recvd okb v true)) (by rw [Array.getElem?_setIfInBounds_self_of_lt (by simpa using hlt)])
   (by rw [Array.getElem?_setIfInBounds_ne (fun e => hne e.symm), Array.getElem?_setIfInBounds_self_of_lt q1])
   (fun q e1 e2 => by rw [Array.getElem?_setIfInBounds_ne (fun e => e1 e.symm), Array.getElem?_setIfInBounds_ne (fun e => e2 e.symm)]) fr hat hat'
   (x1 := { g := i, fn := g₂.frame.fn, pos := g₂.frame.place, act := .send G.ch s }) (x2 := { g := γ.par i, fn := g₀.frame.fn, pos := g₀.frame.place, act := .recv G.ch r 0 })
   (x3 := { g := i, fn := g₂.frame.fn, pos := g₂.frame.place, act := .sendDone G.ch s }) (x4 := { g := γ.par i, fn := g₀.frame.fn, pos := g₀.frame.place, act := .recvDone G.ch r }) ⟨rfl, rfl⟩ ⟨rfl, rfl⟩ ⟨rfl, rfl⟩ ⟨rfl, rfl⟩
   (nj := n') (np := γ.nn (γ.par i)) hW (fun k sp' => kk k sp sp' v Rm w' (h.rely (i := γ.par i + 1) fr (fun b hb => .inr ⟨_, G, o2, .inl hb⟩) (by omega)) hok' (fun a ha => ⟨Nat.lt_of_lt_of_le (hRm a ha).1 fr.size, (hRm a ha).2.elim (h.lie.rm _ _ _) fun m m' => hne (h.lie.mm _ _ _ m' m)⟩))
  refine ⟨_, _, _, hrun, ?_, _, w', sl, γ', rfl, hγ, rfl⟩
  refine .left _ _ ?_
  rw [hsz, hnn]
  have h1 : sumTo gs.size (upd γ.nn i n') + γ.nn i = sumTo gs.size γ.nn + n' := sumTo_upd γ.nn n' (fun x => x) hlt
  have h2 : sumTo gs.size (upd (upd γ.nn i n') (γ.par i) (γ.nn (γ.par i))) + upd γ.nn i n' (γ.par i) = sumTo gs.size (upd γ.nn i n') + γ.nn (γ.par i) := sumTo_upd (upd γ.nn i n') _ (fun x => x) q1
  rw [upd_ne _ _ hne] at h2
  omega
end
end Go.Gw
namespace Go.Gw
open Go Go.Conc Go.ConcN
open Go.ConcR (KK wgBlock WgAt stA smA)
section
variable {P : Program} {ty : TypeId} {Post : Value → World → Prop} {gs : Array Goroutine} {w : World} {t : Trace} {γ : Gh} {i : Nat} {g g' : Goroutine} {w' : World} {es : Array Event} {sl : Option (Nat × Nat)}
theorem GI.no_senders (h : GI P ty Post gs w t γ) {G : Grp} (hG : γ.grp i = some G) (hn : ∀ j ∈ γ.ids i, γ.ps j ≠ .snd) : partners (gs.setIfInBounds i ph) G.ch true = [] := partners_nil fun j o hj => by
 rcases getElem?_stand gs i j o hj with ⟨_, rfl⟩ | ⟨_, hj⟩
 ·exact offersAt_ph _ _
 ·by_cases e : offersAt o G.ch true = []
  ·exact e
  ·obtain ⟨_, r1, sp, g₀, v, z, r2, _⟩ := h.offers_snd hj e
   obtain ⟨k, G', o1, o2, o3, _⟩ := h.li.owes r2
   have hp := h.lie.ss i _ G.ch ⟨G, hG, .inl rfl⟩ ⟨G', o2, .inl o3.symm⟩
   exact absurd r1 (hn j (hp ▸ List.mem_of_getElem? o1))
theorem GI.all_fly (h : GI P ty Post gs w t γ) {G : Grp} (hG : γ.grp i = some G) (hcl : G.closed = true) : ∀ j ∈ γ.ids i, γ.snd j = none ∧ ∃ f, γ.fly j = some f := by
 intro j hj
 obtain ⟨a, ha⟩ := (h.li.gn i G hG).2.2.2.2.1 hcl
 obtain ⟨k, G', sp, o1, o2, o3, o4, o5, o6, o7, o8⟩ := h.li.kid_of hj
 rw [hG] at o2; cases o2
 rcases o8 with ⟨s1, s2, s3⟩ | ⟨s1, _, f, s3, _⟩
 ·have hv := (h.wg i G a _ hG ha).1
  rw [ha] at s3
  have := cw_le_cntOf o5 (by simpa using s3)
  omega
 ·exact ⟨s1, f, s3⟩
theorem GI.par_fly (h : GI P ty Post gs w t γ) {G : Grp} (hG : γ.grp i = some G) : γ.fly i = none := by
 cases e : γ.fly i with
 | none => rfl
 | some f =>
  obtain ⟨_, _, _, _, _, _, _, _, _, hg⟩ := h.li.flies e
  rw [hG] at hg; cases hg
theorem GI.recv_buf (h : GI P ty Post gs w t γ) (hi : gs[i]? = some g) {g₂ : Goroutine} {z : Value} {okb : Bool} {G : Grp} {n' : Nat} (hst : stepG P (i == 0) g w = .comm g₂ #[rcase G.ch z] true (.recv okb) w es) (hn : n' < γ.nn i)
  (hG : γ.grp i = some G) (hk : G.kids ≠ []) (hcap : 0 < G.cap) (hcl : G.closed = true) (hd : γ.d i = 0) (hf : Foot (γ.cx i) w w es) (hde : deafBehind 0 es = 0)
  (hW : ∀ (k : Nat) (sp : Spec), G.kids[k]? = some sp → ∀ (v : Value) (Rm : Addr → Prop) (w₂ : World), Rely (γ.cx i) w w₂ → sp.ok v Rm w₂ → (∀ a, Rm a → a.block < w₂.heap.size ∧ ¬ γ.M i a.block) → W P ty Post (i == 0) n' { γ.cx i with R := fun a => γ.R i a ∨ Rm a, grp := some (G.drop k) } (Conc.served g₂ (Conc.recvd okb v true)) w₂) :
  Nxt P ty Post gs w t γ sl i := by
 have hlt : i < gs.size := (Array.getElem?_eq_some_iff.1 hi).1
 obtain ⟨q1, q2, q3, q4, q5, q6, q7, q8⟩ := h.li.gn _ G hG
 have nfi := h.par_fly hG
 have hall := h.all_fly hG hcl
 obtain ⟨buf, s, r, hc⟩ := h.ch _ G hG
 have hsome : 0 < buf.size := by
  rw [← hc.cnt]
  have : (γ.ids i).countP (isFly γ.fly) = (γ.ids i).length := List.countP_eq_length.2 fun j hj => by
   obtain ⟨_, f, hf⟩ := hall j hj
   simp [isFly, hf]
  rw [this, q3]
  exact List.length_pos_iff.2 hk
 have hat : w.heap[G.ch]? = some (.chan G.cap buf true s r false) := by rw [hc.at_, hcl]
 have hp := h.no_senders hG fun j hj e => by
  have hlt' : j < gs.size := by
   obtain ⟨_, _, _, _, _, _, _, h5, _⟩ := h.li.kid_of hj
   exact h5
  have hs := h.sit j _ (Array.getElem?_eq_getElem hlt')
  rw [e] at hs
  cases hs with
  | snd hm hg hc' hG' hdc hd' hok' hR' k' =>
   have : γ.snd j = _ := hc'
   rw [(hall j hj).1] at this; cases this
 obtain ⟨v, hv⟩ : ∃ v, buf[0]? = some v := ⟨buf[0], Array.getElem?_eq_getElem hsome⟩
 obtain ⟨j, f, hj, hjf, hfv, hfs⟩ := hc.msg 0 v hv
 obtain ⟨k, G', sp, o1, o2, o3, o4, o5, o6, o7, o8⟩ := h.li.kid_of hj
 rw [hG] at o2; cases o2
 obtain ⟨snj, hgj, f', hf', hfsp⟩ : γ.snd j = none ∧ γ.grp j = none ∧ ∃ f, γ.fly j = some f ∧ f.sp = sp := by
  rcases o8 with ⟨_, s2, _⟩ | s
  ·rw [hjf] at s2; cases s2
  ·exact s
 rw [hjf] at hf'; cases hf'
 have hdec : γ.dec j = none := by
  cases e : γ.dec j with
  | none => rfl
  | some x =>
   obtain ⟨a, φ⟩ := x
   obtain ⟨r1, r2, r3, G'', ψ, r4, r5⟩ := h.li.decs j a φ e
   rw [o7, hG] at r4; cases r4
   obtain ⟨a', ha'⟩ := q5 hcl
   rw [ha'] at r5
   simp only [Option.some.injEq, Prod.mk.injEq] at r5
   obtain ⟨rfl, rfl⟩ := r5
   have hv' := h.wg i G _ _ hG ha'
   have := hv'.2 j φ e
   subst this
   have := cw_le_cntOf o5 e
   have := hv'.1
   omega
 obtain ⟨G'', g1, g2, g3, g4⟩ := h.ft j f hjf
 rw [o7, hG] at g1; cases g1
 have hrun := crowd_recv_buf (sl := sl) hi hst hat hsome hp
 rw [finishComm_recv, show buf.getD 0 undef = v by rw [Array.getD_eq_getD_getElem?, hv]; rfl] at hrun
 have fr := Fr.setChan hat G.cap (buf.extract 1 buf.size) true s (r + 1) false
 have hat' := setChan_at hat G.cap (buf.extract 1 buf.size) true s (r + 1) false
 generalize w.setChan G.ch G.cap (buf.extract 1 buf.size) true s (r + 1) false = w' at hrun fr hat'
 generalize hx1 : ({ g := i, fn := g₂.frame.fn, pos := g₂.frame.place, act := .recv G.ch r G.cap } : MemOp) = x1 at hrun
 generalize hx2 : ({ g := i, fn := g₂.frame.fn, pos := g₂.frame.place, act := .recvDone G.ch r } : MemOp) = x2 at hrun
 have e1 : x1.g = i ∧ x1.act = .recv G.ch r G.cap := by subst hx1; exact ⟨rfl, rfl⟩
 have e2 : x2.g = i ∧ x2.act = .recvDone G.ch r := by subst hx2; exact ⟨rfl, rfl⟩
 have n1 : x1.act.touch? = none := by rw [e1.2]; rfl
 have n2 : x2.act.touch? = none := by rw [e2.2]; rfl
 obtain ⟨T1, hui⟩ := h.foot hlt q2 hf g.frame.fn g.frame.place
 generalize hE : MemOp.ofEvents i g.frame.fn g.frame.place es = E at hrun T1 hui
 have D1 : Deaf (t ++ E) i = 0 := by rw [← hE, Deaf_own, h.df i hlt, hd]; exact hde
 have D2 : Deaf (t ++ E ++ #[x1]) i = 0 := by rw [Deaf_push]; simp only [deafStep, e1.2]; exact D1
 have hft : ∀ {j' : Nat} {f' : Fly} {ch : Nat}, γ.fly j' = some f' → FT γ.acc t j' ch f'.s f'.q f'.R → (∀ a, f'.R a → γ.R j' a) → FT γ.acc (t ++ E ++ #[x1]) j' ch f'.s f'.q f'.R := fun hf' F hR => nt_quiet n1 (h.fts q2 nfi (sz' := w.heap.size) (fun op ho x hx => ⟨(hui op ho).1, (hui op ho).2 x hx⟩) hf' F hR)
 have F2 := hft hjf g2 g3
 have hfr : f.s = r := by omega
 rw [hfr] at F2
 let acc' : Nat → Nat := fun g => if γ.acc g = j then i else γ.acc g
 have T2 := (T1.quiet (u := #[x1]) hlt (by intro op ho; simp at ho; subst ho; exact ⟨e1.1, n1⟩)).absorb F2 hlt e2 D2 (acc' := acc') (fun _ => rfl) (R' := upd γ.R i fun a => γ.R i a ∨ f.R a) (fun q a ha => by
  by_cases e : q = i
  ·subst e; rw [upd_same] at ha; exact ha.imp id fun x => ⟨rfl, x⟩
  ·rw [upd_ne _ _ e] at ha; exact .inl ha)
 have eops : t ++ (E ++ #[x1, x2]) = t ++ E ++ #[x1] ++ #[x2] := by apply Array.ext'; simp
 have hS := sh_ph (G' := G.drop k) hG rfl rfl
 have L1 := h.li.absorb (k := k) o1 hjf hdec hG
 let γ' : Gh := { M := γ.M, R := upd γ.R i fun a => γ.R i a ∨ f.R a, d := γ.d, snd := γ.snd, dec := γ.dec, grp := upd γ.grp i (some (G.drop k)), par := γ.par, acc := acc', ids := upd γ.ids i ((γ.ids i).eraseIdx k), fly := upd γ.fly j none, nn := upd γ.nn i n', ps := upd γ.ps i .run }
 have Rup : ∀ q a, γ.R q a → γ'.R q a := fun q a ha => by
  show upd γ.R i (fun a => γ.R i a ∨ f.R a) q a
  by_cases e : q = i
  ·subst e; rw [upd_same]; exact .inl ha
  ·rw [upd_ne _ _ e]; exact ha
 have hX : ∀ b, b = G.ch → ∀ q, γ.M q b ∨ ∃ p, ShOf γ.grp p b := fun b hb q => .inr ⟨_, G, hG, .inl hb⟩
 have hsz : (gs.setIfInBounds i (Conc.served g₂ (recvd okb v true))).size = gs.size := by simp
 have hij : i ≠ j := by omega
 refine ⟨_, _, _, hrun, ?_, gs.setIfInBounds i (Conc.served g₂ (recvd okb v true)), w', sl, γ', rfl, ⟨by rw [hsz]; exact L1, ?_, ?_, fun q b hb => by rw [hsz]; exact h.mz q b hb, ?_, ?_, ?_, ?_, ?_, ?_⟩, rfl⟩
 ·refine .left _ _ ?_
  have : sumTo gs.size (upd γ.nn i n') + γ.nn i = sumTo gs.size γ.nn + n' := sumTo_upd γ.nn n' (fun x => x) hlt
  rw [hsz]
  show sumTo gs.size (upd γ.nn i n') < _
  omega
 ·have A := h.lie.turn (i := i) (Mi := γ.M i) (Ri := γ.R i) fr.size (fun b hb => ⟨Nat.lt_of_lt_of_le (h.lie.ml i b hb) fr.size, .inl hb⟩) (fun a ha => .inl ha) (S' := ShOf γ'.grp) (T' := TchOf γ'.grp γ'.dec) (fun q b => (hS q b).1) (fun q b hb => ⟨hb.imp (hS q b).1 id, by
    obtain ⟨q', hq'⟩ := h.lie.ts q b (hb.imp (hS q b).1 id)
    exact ⟨q', (hS q' b).2 hq'⟩⟩)
  rw [upd_self, upd_self] at A
  exact A.share (fun q a ha => by
   have ha : upd γ.R i (fun a => γ.R i a ∨ f.R a) q a := ha
   by_cases e : q = i
   ·subst e
    rw [upd_same] at ha
    exact ha.elim (fun x => ⟨q, x⟩) fun x => ⟨j, g3 a x⟩
   ·rw [upd_ne _ _ e] at ha; exact ⟨q, ha⟩)
 ·rw [eops, hsz]
  exact (T2.grow fr.size).freeze (fun _ _ => id) (fun _ _ => .inl) (fun q b p' hb hp' => .inl ⟨hb.imp (hS q b).1 id, (hS p' b).1 hp'⟩)
 ·intro q hq
  rw [hsz] at hq
  rw [eops, Deaf_push, Deaf_push]
  simp only [deafStep, e1.2, e2.2]
  show _ = γ.d q
  by_cases e : q = i
  ·subst e; rw [D1, hd]
  ·rw [← hE, Deaf_other t (fun x => e x.symm) _ (fun op ho => (mem_ops ho).1), h.df q hq]
 ·intro q f' hq
  have hq : upd γ.fly j none q = some f' := hq
  have hqj : q ≠ j := fun e => by rw [e, upd_same] at hq; cases hq
  rw [upd_ne _ _ hqj] at hq
  obtain ⟨G', r1, r2, r3, r4⟩ := h.ft q f' hq
  refine ⟨if γ.par q = i then G.drop k else G', ?_, ?_, fun a ha => Rup q a (r3 a ha), h.ok_kept (i := i) fr (fun b hb => hX b hb i) r3 r4⟩
  ·show upd γ.grp i (some (G.drop k)) (γ.par q) = _
   by_cases e : γ.par q = i
   ·rw [if_pos e, e, upd_same]
   ·rw [if_neg e, upd_ne _ _ e]; exact r1
  ·have ec : (if γ.par q = i then G.drop k else G').ch = G'.ch := by
    by_cases e : γ.par q = i
    ·rw [if_pos e]
     rw [e, hG] at r1; cases r1; rfl
    ·rw [if_neg e]
   rw [ec, eops]
   refine (nt_quiet n2 (hft hq r2 r3)).reck fun g hg => ?_
   have hg : (if γ.acc g = j then i else γ.acc g) = q := hg
   by_cases e : γ.acc g = j
   ·rw [if_pos e] at hg; subst hg; rw [nfi] at hq; cases hq
   ·rw [if_neg e] at hg; exact hg
 ·intro p' G' hG'
  have hG' : upd γ.grp i (some (G.drop k)) p' = some G' := hG'
  by_cases e : p' = i
  ·subst e
   rw [upd_same] at hG'; cases hG'
   have nj : j ∉ (γ.ids p').eraseIdx k := fun hm => by
    obtain ⟨k', hk'⟩ := List.getElem?_of_mem hm
    have := (L1.kid p' k' j (by rw [upd_same]; exact hk'))
    obtain ⟨_, _, _, _, _, _, _, _, h8⟩ := this
    rcases h8 with ⟨s1, _⟩ | ⟨_, _, f'', s3, _⟩
    ·rw [snj] at s1; cases s1
    ·rw [upd_same] at s3; cases s3
   have hce := countP_erase (p := isFly γ.fly) o1 (by simp [isFly, hjf])
   refine ⟨buf.extract 1 buf.size, s, r + 1, ?_, fun hc0 => ?_, ?_, ?_, fun q u hq => ?_⟩
   ·show w'.heap[G.ch]? = some (.chan G.cap (buf.extract 1 buf.size) G.closed s (r + 1) false)
    rw [hat', hcl]
   ·have : G.cap = 0 := hc0
    omega
   ·have := hc.sum; simp; omega
   ·show (upd γ.ids p' ((γ.ids p').eraseIdx k) p').countP (isFly (upd γ.fly j none)) = _
    rw [upd_same, countP_upd nj]
    have := hc.cnt
    simp; omega
   ·have hq' : buf[q + 1]? = some u := by
     rw [Array.getElem?_extract] at hq
     split at hq
     ·rw [Nat.add_comm]; exact hq
     ·cases hq
    obtain ⟨j', f', t1, t2, t3, t4⟩ := hc.msg (q + 1) u hq'
    have hne : j' ≠ j := fun e => by rw [e, hjf] at t2; cases t2; omega
    refine ⟨j', f', ?_, (upd_ne _ _ hne).trans t2, t3, by omega⟩
    have := L1.own j' (.inr (by rw [upd_ne _ _ hne, t2]; simp))
    have hpar : γ.par j' = p' := by
     obtain ⟨_, _, _, _, _, _, _, _, _, h7, _⟩ := h.li.kid_of t1
     exact h7
    rwa [hpar] at this
  ·rw [upd_ne _ _ e] at hG'
   obtain ⟨buf', s', r', hc'⟩ := h.ch_kept fr hG' (fun x => e (h.lie.ss _ _ _ ⟨G', hG', .inl x.symm⟩ ⟨G, hG, .inl rfl⟩))
   have hni : j ∉ γ.ids p' := fun hm => by
    obtain ⟨_, _, _, _, _, _, _, _, _, hp', _⟩ := h.li.kid_of hm
    exact e (hp'.symm.trans o7)
   have hids : γ'.ids p' = γ.ids p' := upd_ne _ _ e
   rw [hids]
   refine ⟨buf', s', r', hc'.at_, hc'.un, hc'.sum, ?_, fun q u hq => ?_⟩
   ·show (γ.ids p').countP (isFly (upd γ.fly j none)) = buf'.size
    rw [countP_upd hni]; exact hc'.cnt
   ·obtain ⟨j', f', t1, t2, t3⟩ := hc'.msg q u hq
    have hne : j' ≠ j := fun e' => hni (e' ▸ t1)
    exact ⟨j', f', t1, (upd_ne _ _ hne).trans t2, t3⟩
 ·intro p' G' a φ hG' ha
  have hG' : upd γ.grp i (some (G.drop k)) p' = some G' := hG'
  rw [hsz]
  have hps : upd γ.ps i .run p' = .sem → γ.ps p' = .sem := fun hs => by
   by_cases e' : p' = i
   ·subst e'; rw [upd_same] at hs; cases hs
   ·rwa [upd_ne _ _ e'] at hs
  by_cases e : p' = i
  ·subst e
   rw [upd_same] at hG'; cases hG'
   have ha' : G.wg = some (a, φ) := ha
   exact (h.wg p' G a φ hG ha').mono (fr.keep a (h.lie.sl p' a ⟨G, hG, .inr ⟨φ, ha'⟩⟩) (q8 a φ ha')) hps
  ·rw [upd_ne _ _ e] at hG'
   exact (h.wg p' G' a φ hG' ha).mono (fr.keep a (h.lie.sl p' a ⟨G', hG', .inr ⟨φ, ha⟩⟩) fun x => e (h.lie.ss p' _ a ⟨G', hG', .inr ⟨φ, ha⟩⟩ ⟨G, hG, .inl x⟩)) hps
 ·intro q gq hq
  show Sit P ty Post (q == 0) (upd γ.nn i n' q) _ _ _ (upd γ.ps i .run q)
  by_cases e : q = i
  ·subst e
   rw [Array.getElem?_setIfInBounds_self_of_lt hlt] at hq
   cases hq
   rw [upd_same, upd_same]
   refine .run ?_
   have : γ'.cx q = { γ.cx q with R := fun a => γ.R q a ∨ f.R a, grp := some (G.drop k) } := by simp [γ', Gh.cx, upd_same]
   rw [this, ← hfv]
   exact hW k f.sp (by rw [hfsp]; exact o3) f.v f.R w' (h.rely (i := q + 1) fr (fun b hb => hX b hb _) (by omega)) (h.ok_kept (i := q) fr (fun b hb => hX b hb q) g3 g4) (fun a ha => ⟨Nat.lt_of_lt_of_le (h.lie.rl _ _ (g3 a ha)) fr.size, h.lie.rm _ _ _ (g3 a ha)⟩)
  ·rw [Array.getElem?_setIfInBounds_ne (fun x => e x.symm)] at hq
   rw [upd_ne _ _ e, upd_ne _ _ e]
   have : γ'.cx q = γ.cx q := by simp [γ', Gh.cx, upd_ne _ _ e]
   rw [this]
   exact (h.sit q gq hq).rely (h.rely (i := i) fr (fun b hb => hX b hb i) e)
 ·intro p' hp' j' hj' hs
  have aux : ∀ {q : Nat} {x : PS}, upd γ.ps i .run q = x → x ≠ .run → γ.ps q = x ∧ q ≠ i := by
   intro q x hq hx
   by_cases e : q = i
   ·subst e; rw [upd_same] at hq; exact absurd hq.symm hx
   ·rw [upd_ne _ _ e] at hq; exact ⟨hq, e⟩
  obtain ⟨a1, a2⟩ := aux hp' (by simp)
  have : j' ∈ γ.ids p' := by
   have hj' : j' ∈ upd γ.ids i ((γ.ids i).eraseIdx k) p' := hj'
   rwa [upd_ne _ _ a2] at hj'
  exact h.nr p' a1 j' this (aux hs (by simp)).1
theorem GI.recv (h : GI P ty Post gs w t γ) (hi : gs[i]? = some g) {g₂ : Goroutine} {z : Value} {okb : Bool} {G : Grp} {n' : Nat} (hst : stepG P (i == 0) g w = .comm g₂ #[rcase G.ch z] true (.recv okb) w es) (hn : n' < γ.nn i)
  (hG : γ.grp i = some G) (hk : G.kids ≠ []) (hcap : G.cap = 0 ∧ G.closed = false ∨ 0 < G.cap ∧ G.closed = true) (hd : γ.d i = 0) (hf : Foot (γ.cx i) w w es) (hde : deafBehind 0 es = 0)
  (hW : ∀ (k : Nat) (sp : Spec), G.kids[k]? = some sp → ∀ (v : Value) (Rm : Addr → Prop) (w₂ : World), Rely (γ.cx i) w w₂ → sp.ok v Rm w₂ → (∀ a, Rm a → a.block < w₂.heap.size ∧ ¬ γ.M i a.block) → W P ty Post (i == 0) n' { γ.cx i with R := fun a => γ.R i a ∨ Rm a, grp := some (G.drop k) } (Conc.served g₂ (Conc.recvd okb v true)) w₂) :
  Nxt P ty Post gs w t γ sl i := by
 rcases hcap with ⟨hcap, hcl⟩ | ⟨hcap, hcl⟩
 rotate_left
 ·exact h.recv_buf hi hst hn hG hk hcap hcl hd hf hde hW
 have hlt : i < gs.size := (Array.getElem?_eq_some_iff.1 hi).1
 obtain ⟨q1, q2, q3, q4, q5, q6, q7, q8⟩ := h.li.gn _ G hG
 have nfi := h.par_fly hG
 obtain ⟨buf, s, r, hc⟩ := h.ch _ G hG
 have hb0 : buf = #[] := Array.eq_empty_of_size_eq_zero (hc.un hcap)
 have hat : w.heap[G.ch]? = some (.chan 0 #[] false s r false) := by rw [hc.at_, hcl, hcap, hb0]
 by_cases hany : ∃ j ∈ γ.ids i, γ.ps j = .snd
 rotate_left
 ·have hnr : ∀ j ∈ γ.ids i, γ.ps j ≠ .snd := fun j hj e => hany ⟨j, hj, e⟩
  have hp := h.no_senders hG hnr
  have hw : ∀ cc ∈ #[rcase G.ch z], NoWays w (gs.setIfInBounds i ph) cc := fun cc hcc => by
   simp at hcc; subst hcc
   exact ways_recv_none hat hp
  exact h.park hi (s := .rcv) hn (by simp) q2 nfi hf (by rw [hd]; exact hde) (.rcv rfl hG hk hcap hcl hd hW) (fun _ => hnr) (fun e => by cases e) (crowd_waits hi hst hw)
 have info : ∀ {j : Nat} {o : Goroutine}, (gs.setIfInBounds i ph)[j]? = some o → offersAt o G.ch true ≠ [] → j ≠ i ∧ gs[j]? = some o ∧ offersAt o G.ch true = [0] ∧ γ.ps j = .snd ∧ γ.par j = i ∧ ∃ sp g₀ v z, γ.snd j = some (G.ch, sp) ∧ o = parked g₀ #[scase G.ch v z] .send := by
  intro j o hj ho
  rcases getElem?_stand gs i j o hj with ⟨_, rfl⟩ | ⟨hne, hj⟩
  ·exact absurd (offersAt_ph _ _) ho
  ·obtain ⟨r0, r1, sp, g₀, v, z, r2, r3⟩ := h.offers_snd hj ho
   obtain ⟨k, G', o1, o2, o3, _⟩ := h.li.owes r2
   exact ⟨hne, hj, r0, r1, (h.lie.ss i _ G.ch ⟨G, hG, .inl rfl⟩ ⟨G', o2, .inl o3.symm⟩).symm, sp, g₀, v, z, r2, r3⟩
 have hne : partners (gs.setIfInBounds i ph) G.ch true ≠ [] := by
  obtain ⟨j, hj, hps⟩ := hany
  obtain ⟨k, G', sp, o1, o2, o3, o4, o5, _⟩ := h.li.kid_of hj
  have hjg := Array.getElem?_eq_getElem o5
  have hs := h.sit j _ hjg
  rw [hps] at hs
  cases hs with
  | snd hm hg hc' hG' hdc hd' hok' hR' k' =>
   rename_i g₀ ch' sp' v' z' Rm'
   have hc' : γ.snd j = some (ch', sp') := hc'
   obtain ⟨_, G'', _, p2, p3, _⟩ := h.li.owes hc'
   have hpar : γ.par j = i := by
    obtain ⟨_, _, _, _, _, _, _, _, _, h7, _⟩ := h.li.kid_of hj
    exact h7
   rw [hpar, hG] at p2; cases p2
   subst p3
   have : (j, 0) ∈ partners (gs.setIfInBounds i ph) G.ch true := mem_partners.2 ⟨gs[j], stand_get (by omega) hjg, by rw [hg, offersAt_parked_send, if_pos rfl]; simp⟩
   intro e
   rw [e] at this; cases this
 obtain ⟨j, gj, vj, zj, shj, d, hji, hj, hrun⟩ := crowd_recv_meets_some (sl := sl) hi hst hat hne (fun j k hjk => by
  obtain ⟨o, ho, hk⟩ := mem_partners.1 hjk
  obtain ⟨r1, r2, r3, r4, r5, sp, g₀, v, z, r6, r7⟩ := info ho (fun e => by rw [e] at hk; cases hk)
  rw [r3] at hk
  simp at hk
  exact ⟨hk, r1, g₀, v, z, .send, by rw [r2, r7]⟩)
 have hs := h.sit j _ hj
 have hoff : offersAt (parked gj #[scase G.ch vj zj] shj) G.ch true ≠ [] := by rw [offersAt_parked_send, if_pos rfl]; simp
 obtain ⟨_, _, _, hps, hpar, sp, _, _, _, hsnd, _⟩ := info (stand_get hji hj) hoff
 rw [hps] at hs
 cases hs with
 | snd hm hg hc' hG' hdc hd' hok' hR' k' =>
  rename_i g₀ ch' sp' v' z' Rm'
  have hc' : γ.snd j = some (ch', sp') := hc'
  rw [hsnd] at hc'
  simp only [Option.some.injEq, Prod.mk.injEq] at hc'
  obtain ⟨rfl, rfl⟩ := hc'
  obtain ⟨c1, c2, c3, c4⟩ := parked_inj hg
  subst c2
  have hv : vj = v' ∧ zj = z' := by simpa [scase] using c1
  obtain ⟨rfl, rfl⟩ := hv
  rw [finishComm_recv, finishComm_send] at hrun
  obtain ⟨k, G', o1, o2, o3, o4, o5, o6, o7, o8, o9⟩ := h.li.owes hsnd
  have fr : Fr w ((w.at d).setChan G.ch 0 #[] false (s + 1) (r + 1) false) (fun b => b = G.ch) := by
   have f := Fr.setChan (w := w.at d) (show (w.at d).heap[G.ch]? = _ from hat) 0 #[] false (s + 1) (r + 1) false
   exact ⟨f.tape, f.os, f.output, f.size, f.shape, f.keep⟩
  have hat' := setChan_at (w := w.at d) (show (w.at d).heap[G.ch]? = _ from hat) 0 #[] false (s + 1) (r + 1) false
  generalize (w.at d).setChan G.ch 0 #[] false (s + 1) (r + 1) false = w' at hrun fr hat'
  have hsz : ((gs.setIfInBounds j (Conc.served gj undef)).setIfInBounds i (Conc.served g₂ (recvd okb vj true))).size = gs.size := by simp
  have hok2 : sp.ok vj Rm' w' := by
   refine sp.keep vj Rm' w w' (fun a ha => ?_) hok'
   have hb : a.block < w.heap.size ∧ a.block ≠ G.ch := by
    refine ⟨(hR' a ha).1, fun z => ?_⟩
    rcases (hR' a ha).2 with y | y
    ·exact h.lie.rs j _ a y ⟨G, hG, .inl z⟩
    ·exact h.lie.ms j _ _ y ⟨G, hG, .inl z⟩
   have hk := fr.keep _ hb.1 hb.2
   exact ⟨by simp only [World.cell?, hk], fr.shape _ hb.1⟩
  subst hpar
  obtain ⟨γ', hγ, hnn, hpp⟩ := h.meet (m := γ.par j) (.inr rfl) hsnd rfl hG hG' hcap hd' hd hR' (fn := g.frame.fn) (pos := g.frame.place) hf hde hsz
   (gj := Conc.served gj undef) (gp := Conc.served g₂ (recvd okb vj true)) (by rw [Array.getElem?_setIfInBounds_ne (fun e => hji e.symm), Array.getElem?_setIfInBounds_self_of_lt o6])
   (by rw [Array.getElem?_setIfInBounds_self_of_lt (by simpa using hlt)])
   (fun q e1 e2 => by rw [Array.getElem?_setIfInBounds_ne (fun e => e2 e.symm), Array.getElem?_setIfInBounds_ne (fun e => e1 e.symm)]) fr hat hat'
   (x1 := { g := j, fn := gj.frame.fn, pos := gj.frame.place, act := .send G.ch s }) (x2 := { g := γ.par j, fn := g₂.frame.fn, pos := g₂.frame.place, act := .recv G.ch r 0 })
   (x3 := { g := j, fn := gj.frame.fn, pos := gj.frame.place, act := .sendDone G.ch s }) (x4 := { g := γ.par j, fn := g₂.frame.fn, pos := g₂.frame.place, act := .recvDone G.ch r }) ⟨rfl, rfl⟩ ⟨rfl, rfl⟩ ⟨rfl, rfl⟩ ⟨rfl, rfl⟩
   (nj := γ.nn j) (np := n') (by rw [c4]; exact k') (fun k sp' => hW k sp sp' vj Rm' w' (h.rely (i := γ.par j + 1) fr (fun b hb => .inr ⟨_, G, hG, .inl hb⟩) (by omega)) hok2 (fun a ha => ⟨Nat.lt_of_lt_of_le (hR' a ha).1 fr.size, (hR' a ha).2.elim (h.lie.rm _ _ _) fun m m' => hji (h.lie.mm _ _ _ m m')⟩))
  refine ⟨_, _, _, hrun, ?_, _, w', sl, γ', rfl, hγ, rfl⟩
  refine .left _ _ ?_
  rw [hsz, hnn, upd_self]
  have h2 : sumTo gs.size (upd γ.nn (γ.par j) n') + γ.nn (γ.par j) = sumTo gs.size γ.nn + n' := sumTo_upd γ.nn n' (fun x => x) q1
  omega
end
end Go.Gw
namespace Go.Gw
open Go Go.Conc Go.ConcN
open Go.ConcR (KK wgBlock WgAt stA smA)
section
variable {P : Program} {ty : TypeId} {Post : Value → World → Prop} {gs : Array Goroutine} {w : World} {t : Trace} {γ : Gh} {i : Nat} {g g' : Goroutine} {w' : World} {es : Array Event} {sl : Option (Nat × Nat)}
theorem GI.over (h : GI P ty Post gs w t γ) (hi : gs[i]? = some g) {g₂ : Goroutine} {z : Value} {okb : Bool} {G : Grp} {n' : Nat} (hst : stepG P (i == 0) g w = .comm g₂ #[rcase G.ch z] true (.recv okb) w es) (hn : n' < γ.nn i)
  (hG : γ.grp i = some G) (hk : G.kids = []) (hcl : G.closed = true) (hd : γ.d i = 0) (hf : Foot (γ.cx i) w w es) (hde : deafBehind 0 es = 0)
  (hW : W P ty Post (i == 0) n' (γ.cx i) (Conc.served g₂ (Conc.recvd okb z false)) w) : Nxt P ty Post gs w t γ sl i := by
 have hlt : i < gs.size := (Array.getElem?_eq_some_iff.1 hi).1
 obtain ⟨q1, q2, q3, q4, q5, q6, q7, q8⟩ := h.li.gn _ G hG
 have nfi := h.par_fly hG
 obtain ⟨buf, s, r, hc⟩ := h.ch _ G hG
 have hids : γ.ids i = [] := List.length_eq_zero_iff.1 (by rw [q3, hk]; rfl)
 have hb0 : buf = #[] := Array.eq_empty_of_size_eq_zero (by rw [← hc.cnt, hids]; rfl)
 have hat : w.heap[G.ch]? = some (.chan G.cap #[] true s r false) := by rw [hc.at_, hcl, hb0]
 have hp := h.no_senders hG fun j hj => by rw [hids] at hj; cases hj
 have hrun := crowd_recv_closed (sl := sl) hi hst hat hp
 rw [finishComm_recv] at hrun
 generalize hx1 : ({ g := i, fn := g₂.frame.fn, pos := g₂.frame.place, act := .recvClosed G.ch } : MemOp) = x1 at hrun
 have e1 : x1.g = i ∧ x1.act = .recvClosed G.ch := by subst hx1; exact ⟨rfl, rfl⟩
 have n1 : x1.act.touch? = none := by rw [e1.2]; rfl
 obtain ⟨T1, hui⟩ := h.foot hlt q2 hf g.frame.fn g.frame.place
 generalize hE : MemOp.ofEvents i g.frame.fn g.frame.place es = E at hrun T1 hui
 have T2 := T1.quiet (u := #[x1]) hlt (by intro op ho; simp at ho; subst ho; exact ⟨e1.1, n1⟩)
 have hsz : (gs.setIfInBounds i (Conc.served g₂ (recvd okb z false))).size = gs.size := by simp
 refine ⟨_, _, _, hrun, ?_, gs.setIfInBounds i (Conc.served g₂ (recvd okb z false)), w, sl, { γ with nn := upd γ.nn i n', ps := upd γ.ps i .run }, rfl, ⟨by rw [hsz]; exact h.li, h.lie, by rw [hsz, ← Array.append_assoc]; exact T2, fun q b hb => by rw [hsz]; exact h.mz q b hb, fun q hq => ?_, fun q f hq => ?_, h.ch, fun p G' a φ hG' ha' => ?_, fun q gq hq => ?_, fun p' hp' j' hj' hs => ?_⟩, rfl⟩
 ·refine .left _ _ ?_
  have : sumTo gs.size (upd γ.nn i n') + γ.nn i = sumTo gs.size γ.nn + n' := sumTo_upd γ.nn n' (fun x => x) hlt
  rw [hsz]
  show sumTo gs.size (upd γ.nn i n') < _
  omega
 ·rw [hsz] at hq
  rw [← Array.append_assoc, Deaf_push]
  simp only [deafStep, e1.2]
  show _ = γ.d q
  by_cases e : q = i
  ·subst e; rw [← hE, Deaf_own, h.df q hlt, hd, hde]
  ·rw [← hE, Deaf_other t (fun x => e x.symm) _ (fun op ho => (mem_ops ho).1), h.df q hq]
 ·obtain ⟨G', g1, g2, g3, g4⟩ := h.ft q f hq
  refine ⟨G', g1, ?_, g3, g4⟩
  rw [← Array.append_assoc]
  exact nt_quiet n1 (h.fts q2 nfi (sz' := w.heap.size) (fun op ho x hx => ⟨(hui op ho).1, (hui op ho).2 x hx⟩) hq g2 g3)
 ·rw [hsz]
  refine (h.wg p G' a φ hG' ha').mono rfl fun hs => ?_
  have hs : upd γ.ps i .run p = .sem := hs
  by_cases e' : p = i
  ·subst e'; rw [upd_same] at hs; cases hs
  ·rwa [upd_ne _ _ e'] at hs
 ·show Sit P ty Post (q == 0) (upd γ.nn i n' q) (γ.cx q) _ _ (upd γ.ps i .run q)
  by_cases e : q = i
  ·subst e
   rw [Array.getElem?_setIfInBounds_self_of_lt hlt] at hq
   cases hq
   rw [upd_same, upd_same]; exact .run hW
  ·rw [Array.getElem?_setIfInBounds_ne (fun x => e x.symm)] at hq
   rw [upd_ne _ _ e, upd_ne _ _ e]; exact h.sit q gq hq
 ·have aux : ∀ {q : Nat} {x : PS}, upd γ.ps i .run q = x → x ≠ .run → γ.ps q = x := by
   intro q x hq hx
   by_cases e : q = i
   ·subst e; rw [upd_same] at hq; exact absurd hq.symm hx
   ·rwa [upd_ne _ _ e] at hq
  exact h.nr p' (aux hp' (by simp)) j' hj' (aux hs (by simp))
theorem GI.close (h : GI P ty Post gs w t γ) (hi : gs[i]? = some g) {G : Grp} {a n' s r : Nat} {buf : Array Value} (hn : n' < γ.nn i) (hG : γ.grp i = some G) (hwg : G.wg = some (a, .fin))
  (hat : w.heap[G.ch]? = some (.chan G.cap buf false s r false)) (hc0 : ChOk G (γ.ids i) γ.fly w buf s r) (hst : stepG P (i == 0) g w = .go g' (w.setChan G.ch G.cap buf true s r false) es) (hr : g'.status = .running) (hbk : Book G.ch es) (hd : deafBehind (γ.d i) es = γ.d i)
  (hW : W P ty Post (i == 0) n' { γ.cx i with grp := some { G with closed := true } } g' (w.setChan G.ch G.cap buf true s r false)) : Nxt P ty Post gs w t γ sl i := by
 obtain ⟨q1, q2, q3, q4, q5, q6, q7, q8⟩ := h.li.gn i G hG
 have hS := sh_ph (G' := { G with closed := true }) hG rfl rfl
 have own : ShOf γ.grp i G.ch := ⟨G, hG, .inl rfl⟩
 have nf := h.par_fly hG
 have fr := Fr.setChan hat G.cap buf true s r false
 have hat' := setChan_at hat G.cap buf true s r false
 generalize w.setChan G.ch G.cap buf true s r false = w' at hst hW fr hat'
 refine h.go hi hst (.inl hr) fr (fun b hb => .inr ⟨i, by rw [hb]; exact own⟩) (Mi := γ.M i) (Ri := γ.R i) hn (fun b hb => ⟨Nat.lt_of_lt_of_le (h.lie.ml i b hb) fr.size, .inl hb⟩) (fun _ => id) (fun _ => .inl) (fun e he x hx => .inr (.inr ⟨G.ch, (hbk e he x hx).1, .inl own, (hbk e he x hx).2, fun _ => own⟩)) (.inl q2) (fun f hf => by rw [nf] at hf; cases hf)
  (h.li.ph (G' := { G with closed := true }) hG rfl rfl rfl rfl (fun _ => ⟨a, hwg⟩)) hS
  (fun j b hb => hb.imp (hS j b).1 id) (fun p G' hG' => ?_) (fun _ _ => rfl) (fun j hj => upd_ne _ _ hj) (fun p G' hG' => ?_) (fun p G' a' φ'' hG' ha' => ?_) (by simp only [hd, upd_same]; exact hW)
 ·by_cases e : p = i
  ·subst e; rw [hG] at hG'; cases hG'; exact ⟨_, upd_same _ _ _, rfl⟩
  ·exact ⟨G', by rw [upd_ne _ _ e]; exact hG', rfl⟩
 ·by_cases e : p = i
  ·subst e
   rw [upd_same] at hG'; cases hG'
   exact ⟨buf, s, r, hat', hc0.un, hc0.sum, hc0.cnt, hc0.msg⟩
  ·rw [upd_ne _ _ e] at hG'
   exact h.ch_kept fr hG' fun x => e (h.lie.ss p i G.ch ⟨G', hG', .inl x.symm⟩ own)
 ·by_cases e : p = i
  ·subst e
   rw [upd_same] at hG'; cases hG'
   have ha'' : G.wg = some (a', φ'') := ha'
   exact h.wg_kept fr _ hG ha'' (q8 a' φ'' ha'')
  ·rw [upd_ne _ _ e] at hG'
   exact h.wg_kept fr _ hG' ha' fun x => e (h.lie.ss p i G.ch ⟨G', hG', .inr ⟨φ'', by rw [← x]; exact ha'⟩⟩ own)
theorem GI.leave (h : GI P ty Post gs w t γ) (hi : gs[i]? = some g) {n' : Nat} (h0 : i ≠ 0) (hsn : γ.snd i = none) (hde : γ.dec i = none) (hgr : γ.grp i = none) (hn : n' < γ.nn i) (hst : ∀ w, stepG P false g w = .go g' w es) (hm : ∀ e ∈ es, Event.mute e = true) (hq : QuitsD P n' (deafBehind (γ.d i) es) g') : Nxt P ty Post gs w t γ sl i := by
 have e0 : (i == 0) = false := by simpa using h0
 have nt : ∀ e ∈ es, (MemAct.ofEvent e).touch? = none := fun e he => by
  have := hm e he
  obtain ⟨loc, wr, sy⟩ := e
  cases loc with
  | mark m => cases m <;> simp [Event.mute] at this <;> rfl
  | _ => simp [Event.mute] at this
 have fr := Fr.refl w (fun _ => False)
 refine h.go hi (by rw [e0]; exact hst w) hq.status fr (fun b hb => hb.elim) (Mi := γ.M i) (Ri := γ.R i) hn (fun b hb => ⟨h.lie.ml i b hb, .inl hb⟩) (fun _ => id) (fun _ => .inl) (fun e he x hx => by rw [nt e he] at hx; cases hx) (.inr nt) (fun f _ => Unc.none nt) h.li (fun _ _ => Iff.rfl) (fun _ _ => id) (fun p G hG => ⟨G, hG, rfl⟩) (fun _ _ => rfl) (fun _ _ => rfl)
  (fun p G hG => h.ch_kept fr hG id) (fun p G a φ hG ha => h.wg_kept fr _ hG ha id) (by rw [e0]; exact .leave hsn hde hgr hq)
theorem GI.done (h : GI P ty Post gs w t γ) (hi : gs[0]? = some g) {v : Value} (hG : γ.grp 0 = none) (hst : stepG P true g w = .ended (.done v) w' es) (hf : Foot (γ.cx 0) w w' es) (hsz : w.heap.size ≤ w'.heap.size) (hP : Post v w') :
  ∃ o w' ops, runT P (crowd gs w sl) 0 = (.ended o w', ops) ∧ ∀ w₀ sl₀, Good P Post (crowd gs w₀ sl₀) o w' (t ++ ops) := by
 have hlt : 0 < gs.size := h.li.pos
 have hrun : runT P (crowd gs w sl) 0 = (.ended (.done v) w', MemOp.ofEvents 0 g.frame.fn g.frame.place es) := by
  obtain ⟨hlt, rfl⟩ := Array.getElem?_eq_some_iff.1 hi
  have hsw := swapAt_of_lt hlt { (default : Goroutine) with status := .finished }
  show runT P { world := w, gs := gs, rest := { timers := #[], alone := none, slice := sl } } 0 = _
  unfold runT
  simp only [hsw, beq_self_eq_true, hst, GStep.es]
 have noself : ∀ m j, j < m → j ≠ 0 → γ.acc j ≠ j ∨ gs.size ≤ j := by
  intro m
  induction m with
  | zero => intro j hj; omega
  | succ m ih =>
   intro j hj h0
   rcases Nat.lt_or_ge j gs.size with hjs | hjs
   ·refine .inl fun ha => ?_
    obtain ⟨k, G, sp, o1, o2, o3, o4, o5, o6, o7, o8⟩ := h.li.kid_of (h.li.self j hjs ha h0)
    have hp0 : γ.par j ≠ 0 := fun e => by rw [e, hG] at o2; cases o2
    rcases ih (γ.par j) (by omega) hp0 with e | e
    ·exact e (h.li.gn _ G o2).2.1
    ·omega
   ·exact .inr hjs
 have others : ∀ j, j < gs.size → j ≠ 0 → γ.acc j ≠ j := fun j hj h0 => by
  rcases noself (j + 1) j (by omega) h0 with e | e
  ·exact e
  ·omega
 have acc0 : ∀ j, j < gs.size → γ.acc j = 0 := fun j hj => by
  by_cases e : γ.acc j = 0
  ·exact e
  ·exact absurd (h.li.accs j) (others _ (h.li.accn j hj) e)
 have quit : ∀ (j : Nat) (o : Goroutine), gs[j]? = some o → j ≠ 0 → ∃ m, QuitsD P m (γ.d j) o := fun j o hj h0 => by
  have hjs : j < gs.size := (Array.getElem?_eq_some_iff.1 hj).1
  obtain ⟨r1, r2, r3, r4⟩ := h.li.gone j (others j hjs h0)
  have hs := h.sit j o hj
  have e0 : (j == 0) = false := by simpa using h0
  rw [e0] at hs
  generalize γ.ps j = x at hs
  cases hs with
  | run hw => exact hw.quits rfl r1 r2 r3
  | snd hm hg hc hG hdc hd hok hR k => have : γ.snd j = _ := hc; rw [r1] at this; cases this
  | rcv hg hG hk hcap hcl hd k => have : γ.grp j = _ := hG; rw [r3] at this; cases this
  | sem hG hwg hst ho hw => have : γ.grp j = _ := hG; rw [r3] at this; cases this
 have hui : ∀ op ∈ MemOp.ofEvents 0 g.frame.fn g.frame.place es, op.g = 0 ∧ ∀ x, op.act.touch? = some x → OkT (fun b => γ.M 0 b ∨ (w.heap.size ≤ b ∧ b < w'.heap.size)) (γ.R 0) (ShOf γ.grp) (TchOf γ.grp γ.dec) 0 x := fun op ho => by
  obtain ⟨h1, e, he, h2⟩ := mem_ops ho
  exact ⟨h1, fun x hx => (hf e he x (h2 ▸ hx)).imp id fun y => .inl y⟩
 have T := h.ti.step h.lie hlt hsz (.inl h.li.za) hui
 refine ⟨_, _, _, hrun, fun w₀ sl₀ => ⟨v, rfl, hP, T.nr, fun k gk hk hne hc => ?_, ⟨fun o ho => ?_, rfl⟩, fun j o hj hne => ?_⟩⟩
 ·obtain ⟨op, ho, hog⟩ := Option.map_eq_some_iff.1 hk
  have hgk : gk < gs.size := by rw [← hog]; exact T.gs k op ho
  have kn := T.tot k gk hk hc
  rw [acc0 gk hgk] at kn
  obtain ⟨q, z, h1, h2, h3⟩ := kn
  rcases h3 with rfl | h3
  ·rw [ho] at h1; cases h1
   exact absurd (hog.symm.trans h2) hne
  ·exact ⟨q, by simp [Trace.g?, h1, h2], h3⟩
 ·obtain ⟨j, hj⟩ := List.getElem?_of_mem ho
  rw [List.getElem?_drop] at hj
  have hj' : gs[1 + j]? = some o := by simpa [crowd] using hj
  obtain ⟨m, hq⟩ := quit (1 + j) o hj' (by omega)
  exact ⟨m, hq.leaves⟩
 ·have hj' : gs[j]? = some o := hj
  have hjs : j < gs.size := (Array.getElem?_eq_some_iff.1 hj').1
  obtain ⟨m, hq⟩ := quit j o hj' hne
  refine ⟨m, ?_⟩
  have : (t ++ MemOp.ofEvents 0 g.frame.fn g.frame.place es).deaf j (t ++ MemOp.ofEvents 0 g.frame.fn g.frame.place es).size = γ.d j := by
   show Deaf _ j = _
   rw [Deaf_other t (fun x => hne x.symm) _ (fun op ho => (mem_ops ho).1), h.df j hjs]
  rw [this]
  exact hq.hears _
theorem GI.at (h : GI P ty Post gs w t γ) (d : Nat) : GI P ty Post gs (w.at d) t γ := by
 refine ⟨h.li, h.lie, h.ti, h.mz, h.df, fun j f hf => ?_, fun p G hG => ?_, fun p G a φ hG ha => (h.wg p G a φ hG ha).mono rfl id, fun j o hj => (h.sit j o hj).rely (Rely.at _ _ _), h.nr⟩
 ·obtain ⟨G, h1, h2, h3, h4⟩ := h.ft j f hf
  exact ⟨G, h1, h2, h3, f.sp.keep _ _ w (w.at d) (fun _ _ => ⟨rfl, rfl⟩) h4⟩
 ·obtain ⟨buf, s, r, hc⟩ := h.ch p G hG
  exact ⟨buf, s, r, hc.mono rfl⟩
end
section
variable {P : Program} {ty : TypeId} {Post : Value → World → Prop}
def Stp (P : Program) (ty : TypeId) (Post : Value → World → Prop) (gs : Array Goroutine) (w : World) (t : Trace) (γ : Gh) (sl : Option (Nat × Nat)) (i : Nat) : Prop :=
 (∃ o w' ops, runT P (crowd gs w sl) i = (.ended o w', ops) ∧ ∀ w₀ sl₀, Good P Post (crowd gs w₀ sl₀) o w' (t ++ ops)) ∨ Nxt P ty Post gs w t γ sl i
theorem lt2_le {a b c b' : Nat × Nat} (h : Lt2 a b') (h1 : b'.1 ≤ b.1) (h2 : b'.2 = b.2) (_ : c = b) : Lt2 a b := by
 obtain ⟨a1, a2⟩ := a
 obtain ⟨b1, b2⟩ := b
 obtain ⟨c1, c2⟩ := b'
 simp only at h1 h2
 subst h2
 cases h with
 | left _ _ h => exact .left _ _ (by omega)
 | right _ h =>
  rcases Nat.lt_or_ge a1 b1 with e | e
  ·exact .left _ _ e
  ·obtain rfl : a1 = b1 := by omega
   exact .right _ h
theorem Stp.of {gs : Array Goroutine} {w : World} {t : Trace} {γ γ' : Gh} {sl : Option (Nat × Nat)} {i : Nat} (h : Stp P ty Post gs w t γ' sl i) (h1 : sumTo gs.size γ'.nn ≤ sumTo gs.size γ.nn) (h2 : γ'.ps = γ.ps) : Stp P ty Post gs w t γ sl i := by
 rcases h with h | ⟨m', ops, μ', r1, r2, r3⟩
 ·exact .inl h
 ·refine .inr ⟨m', ops, μ', r1, lt2_le r2 h1 ?_ rfl, r3⟩
  rw [h2]
theorem GI.step {main : Bool} {n : Nat} {c : Ctx} {g : Goroutine} {w : World} (hW : W P ty Post main n c g w) : ∀ {gs : Array Goroutine} {t : Trace} {γ : Gh} {sl : Option (Nat × Nat)} {i : Nat}, GI P ty Post gs w t γ → gs[i]? = some g → g.status = .running → γ.ps i = .run → γ.cx i = c → γ.nn i = n → main = (i == 0) → Stp P ty Post gs w t γ sl i := by
 induction hW with
 | @priv main n c g w N hs hb hh k ih =>
  intro gs t γ sl i h hi hst hps hc hn hm
  subst hc hm
  obtain ⟨h1, h2, h3, h4⟩ := hh w (Rely.refl _ _)
  refine .inr (h.priv hi h1 h2 (n' := n) (by omega) h3 h4 ?_ (k w (Rely.refl _ _)))
  rcases hb with hb | hb | hb
  ·exact .inl (by simpa using hb)
  ·exact .inr (.inl hb)
  ·exact .inr (.inr ⟨hb.1, hb.2 w (Rely.refl _ _)⟩)
 | @spawn main n n₁ n₂ c g w N G wg' hs hle hd hG hcl hcap hwg hh k₁ k₂ _ _ =>
  intro gs t γ sl i h hi hst hps hc hn hm
  subst hc hm
  obtain ⟨h1, h2, h3, h4, h5, h6⟩ := hh w (Rely.refl _ _)
  exact .inr (h.spawn hi h1 (n₁ := n₁) (n₂ := n₂) (by omega) hd hG hcl hcap hwg h4 h5 h6 (k₁ w (Rely.refl _ _)) (k₂ w (Rely.refl _ _)))
 | @send n c g w N ch sp hs hd hsend hG hh k ih =>
  intro gs t γ sl i h hi hst hps hc hn hm
  subst hc
  obtain ⟨h1, h2, h3, h4, h5⟩ := hh w (Rely.refl _ _)
  exact .inr (h.send hi (by rw [← hm]; exact h1) (n' := n) (by omega) hsend hG hd h2 h3 h4 h5 (k w (Rely.refl _ _)))
 | @recv main n c g w N G hs hd hG hk hcap hh k ih =>
  intro gs t γ sl i h hi hst hps hc hn hm
  subst hc hm
  obtain ⟨h1, h2, h3⟩ := hh w (Rely.refl _ _)
  exact .inr (h.recv hi h1 (n' := n) (by omega) hG hk hcap hd h2 h3 (k w (Rely.refl _ _)))
 | @close main n c g w N G a hs hd hG hcap hwg hcl hh k ih =>
  intro gs t γ sl i h hi hst hps hc hn hm
  subst hc hm
  obtain ⟨buf, s, r, hc⟩ := h.ch i G hG
  have hat : w.heap[G.ch]? = some (.chan G.cap buf false s r false) := by rw [hc.at_, hcl]
  obtain ⟨h1, h2, h3, h4⟩ := hh w (Rely.refl _ _) buf s r hat
  have hd' : γ.d i = 0 := hd
  have hap : Apart (γ.cx i) G.ch := ⟨fun m => h.lie.ms i i _ m ⟨G, hG, .inl rfl⟩, fun x hx e => h.lie.rs i i x hx ⟨G, hG, .inl e⟩⟩
  exact .inr (h.close hi (n' := n) (by omega) hG hwg hat hc h1 h2 h3 (by rw [hd']; exact h4) (k w (Rely.refl _ _) hap buf s r hat))
 | @over main n c g w N G hs hd hG hk hcl hh k ih =>
  intro gs t γ sl i h hi hst hps hc hn hm
  subst hc hm
  obtain ⟨h1, h2, h3⟩ := hh w (Rely.refl _ _)
  exact .inr (h.over hi h1 (n' := n) (by omega) hG hk hcl hd h2 h3 (k w (Rely.refl _ _)))
 | @wadd main n c g w N G a mx hs hG hwg hd hmx hh k ih =>
  intro gs t γ sl i h hi hst hps hc hn hm
  subst hc hm
  obtain ⟨v1, v2, v3, v4⟩ := h.wg i G a _ hG hwg
  obtain ⟨h1, h2, h3, h4⟩ := hh w (Rely.refl _ _) _ v1 v4
  exact .inr (h.wgs hi h1 h2 hG hwg (by simp) (Fr.setCell w (stA a) _) h3 h4 (n' := n) (by omega) (φ' := .pend (mx + 1)) ⟨by omega, by omega, v3, v4.setSt _⟩ (k w (Rely.refl _ _) ⟨fun m => h.lie.ms i i _ m ⟨G, hG, .inr ⟨_, hwg⟩⟩, fun x hx e => h.lie.rs i i x hx ⟨G, hG, .inr ⟨_, by rw [e]; exact hwg⟩⟩⟩ _ v1 v4))
 | @wsay main n c g w N G a φ hs hG hwg hφ hh k ih =>
  intro gs t γ sl i h hi hst hps hc hn hm
  subst hc hm
  have hv := h.wg i G a _ hG hwg
  obtain ⟨h1, h2, h3, h4⟩ := hh w (Rely.refl _ _)
  rw [hps] at hv
  exact .inr (h.wgs hi h1 h2 hG hwg hφ (Fr.refl w _) h3 h4 (n' := n) (by omega) (φ' := φ) hv (k w (Rely.refl _ _)))
 | @wload main n c g w N G a mx hs hG hwg hd hh k ih =>
  intro gs t γ sl i h hi hst hps hc hn hm
  subst hc hm
  obtain ⟨v1, v2, v3, v4⟩ := h.wg i G a _ hG hwg
  obtain ⟨h1, h2, h3, h4⟩ := hh w (Rely.refl _ _) _ v1 v4
  have hk := k w (Rely.refl _ _) _ v1 v4
  by_cases e : cntOf gs.size γ.dec a = 0
  ·rw [if_pos e] at hk
   exact .inr (h.wgs hi h1 h2 hG hwg (by simp) (Fr.refl w _) h3 h4 (n' := n) (by omega) (φ' := .fin) ⟨e, v3⟩ hk)
  ·rw [if_neg e] at hk
   exact .inr (h.wgs hi h1 h2 hG hwg (by simp) (Fr.refl w _) h3 h4 (n' := n) (by omega) (φ' := .w2 _) ⟨Nat.le_refl _, by omega, v3, v4⟩ hk)
 | @wcas main n c g w N N' G a vs hs hG hwg hd hvs hh k hh' k' ih ih' =>
  intro gs t γ sl i h hi hst hps hc hn hm
  subst hc hm
  obtain ⟨v1, v2, v3, v4⟩ := h.wg i G a _ hG hwg
  by_cases e : cntOf gs.size γ.dec a = vs
  ·rw [e] at v4
   obtain ⟨h1, h2, h3, h4⟩ := hh w (Rely.refl _ _) v4
   exact .inr (h.wgs hi h1 h2 hG hwg (by simp) (Fr.setCell w (stA a) _) h3 h4 (n' := n) (by omega) (φ' := .reg) ⟨by omega, .inl ⟨by omega, v3, by rw [e]; exact v4.setSt _⟩⟩ (k w (Rely.refl _ _) ⟨fun m => h.lie.ms i i _ m ⟨G, hG, .inr ⟨_, hwg⟩⟩, fun x hx e => h.lie.rs i i x hx ⟨G, hG, .inr ⟨_, by rw [e]; exact hwg⟩⟩⟩ v4))
  ·obtain ⟨h1, h2, h3, h4⟩ := hh' w (Rely.refl _ _) _ (by omega) v4
   exact .inr (h.wgs hi h1 h2 hG hwg (by simp) (Fr.refl w _) h3 h4 (n' := n) (by omega) (φ' := .idle _) ⟨Nat.le_refl _, by omega, v3, v4⟩ (k' w (Rely.refl _ _) _ (by omega) v4))
 | @wacq main n c g w N G a hs hG hwg hd ho h0 hh k ih =>
  intro gs t γ sl i h hi hst hps hc hn hm
  subst hc hm
  obtain ⟨v1, v2⟩ := h.wg i G a _ hG hwg
  have blk : ∀ st, WgAt ty a w st 0 → Stp P ty Post gs w t γ sl i := fun st hst' =>
   .inr (h.block hi hps (h0 w (Rely.refl _ _) st hst') hG hwg ho hs (fun st' sm hsm => (hsm.unique hst').2) (by rw [hn]; exact .wacq N hs hG hwg hd ho h0 hh k))
  rcases v2 with ⟨u1, u2, u3⟩ | ⟨u1, L, φ, u2, u3, u4, u5 | u5⟩ | ⟨u1, u2, u3, u4⟩
  ·exact blk _ u3
  ·exact blk _ u5.2
  ·exact blk _ u5.2
  ·obtain ⟨h1, h2, h3, h4⟩ := hh w (Rely.refl _ _) u3
   exact .inr (h.wgs hi h1 h2 hG hwg (by simp) (Fr.setCell w (smA a) _) h3 h4 (n' := n) (by omega) (φ' := .w4) ⟨u1, u2, u3.setSm _⟩ (k w (Rely.refl _ _) ⟨fun m => h.lie.ms i i _ m ⟨G, hG, .inr ⟨_, hwg⟩⟩, fun x hx e => h.lie.rs i i x hx ⟨G, hG, .inr ⟨_, by rw [e]; exact hwg⟩⟩⟩ u3))
 | @wend main n c g w N G a hs hG hwg hd hh k ih =>
  intro gs t γ sl i h hi hst hps hc hn hm
  subst hc hm
  obtain ⟨v1, v2, v3⟩ := h.wg i G a _ hG hwg
  obtain ⟨h1, h2, h3, h4⟩ := hh w (Rely.refl _ _) v3
  exact .inr (h.wgs hi h1 h2 hG hwg (by simp) (Fr.refl w _) h3 h4 (n' := n) (by omega) (φ' := .fin) ⟨v1, v2⟩ (k w (Rely.refl _ _) v3))
 | @kdec n c g w N a hs hdec hsend hG hd hh k ih =>
  intro gs t γ sl i h hi hst hps hc hn hm
  subst hc
  have hdec : γ.dec i = some (a, .cnt) := hdec
  have hsend : γ.snd i = none := hsend
  obtain ⟨q1, q2, q3, G, ψ, q4, q5⟩ := h.li.decs i a _ hdec
  have hv := h.wg _ G a _ q4 q5
  have hpos := cw_le_cntOf q1 hdec
  have go : ∀ (V wt : Nat), wt ≤ 1 → V < 2 → cntOf gs.size γ.dec a = V + 1 → WgAt ty a w ((V + 1) * KK + wt) 0 → (∀ x : Option (Nat × KPh), x = (if V = 0 ∧ wt = 1 then some (a, .k1) else none) → ∀ w' : World, WgAt ty a w' (V * KK + wt) 0 → cntOf gs.size (upd γ.dec i x) a = V → WgOk ty V (upd γ.dec i x) (wps γ i (mayWake P g) (γ.par i)) a w' ψ) → Stp P ty Post gs w t γ sl i := by
   intro V wt hwt hV hcV hat hfin
   obtain ⟨h1, h2, h3, h4⟩ := hh w (Rely.refl _ _) V wt hwt hV hat
   refine .inr (h.wgk hi (by rw [← hm]; exact h1) h2 hdec hsend (x := if V = 0 ∧ wt = 1 then some (a, .k1) else none) (fun b ψ' e => ?_) (Fr.setCell w (stA a) _) h3 h4 (n' := n) (by omega) (fun G' ψ' g1 g2 => ?_) (by rw [← hm]; exact k w (Rely.refl _ _) V wt hwt hV hat))
   ·split at e
    ·cases e; rfl
    ·cases e
   ·rw [q4] at g1; cases g1
    rw [q5] at g2
    simp only [Option.some.injEq, Prod.mk.injEq, true_and] at g2
    subst g2
    have hcu := cntOf_upd (dec := γ.dec) q1 (if V = 0 ∧ wt = 1 then some (a, .k1) else none) a
    have e1 : cw a (γ.dec i) = 1 := by rw [hdec]; simp [cw]
    have e2 : cw a (if V = 0 ∧ wt = 1 then some (a, KPh.k1) else none) = 0 := by split <;> rfl
    have e3 : cntOf gs.size (upd γ.dec i (if V = 0 ∧ wt = 1 then some (a, .k1) else none)) a = V := by omega
    rw [e3]
    exact hfin _ rfl _ (hat.setSt _) e3
  have nl : NoLast γ.dec a → ∀ x : Option (Nat × KPh), (∀ b φ, x = some (b, φ) → φ = .cnt) → NoLast (upd γ.dec i x) a := fun hnl x hx j φ e => by
   by_cases ej : j = i
   ·subst ej; rw [upd_same] at e; exact hx a φ e
   ·rw [upd_ne _ _ ej] at e; exact hnl j φ e
  obtain ⟨V, hV⟩ : ∃ V, cntOf gs.size γ.dec a = V + 1 := ⟨cntOf gs.size γ.dec a - 1, by omega⟩
  cases ψ with
  | idle mx =>
   obtain ⟨v1, v2, v3, v4⟩ := hv
   refine go V 0 (by omega) (by omega) hV (by rw [hV] at v4; simpa using v4) fun x hx w' hw' _ => ?_
   simp only [Nat.zero_ne_one, and_false, if_false] at hx
   subst hx
   exact ⟨by omega, v2, nl v3 _ (fun b φ e => by cases e), by simpa using hw'⟩
  | pend mx =>
   obtain ⟨v1, v2, v3, v4⟩ := hv
   refine .inr (?_ : Nxt P ty Post gs w t γ sl i)
   have e : γ.par i ≠ i := by
    intro e
    rw [e] at q4
    have : γ.grp i = none := hG
    rw [this] at q4; cases q4
   obtain ⟨h1, h2, h3, h4⟩ := hh w (Rely.refl _ _) (V + 1) 0 (by omega) (by omega) (by rw [hV] at v4; simpa using v4)
   refine h.wgk hi (by rw [← hm]; exact h1) h2 hdec hsend (x := if V + 1 = 0 ∧ (0 : Nat) = 1 then some (a, .k1) else none) (fun b ψ' e => ?_) (Fr.setCell w (stA a) _) h3 h4 (n' := n) (by omega) (fun G' ψ' g1 g2 => ?_) (by rw [← hm]; exact k w (Rely.refl _ _) (V + 1) 0 (by omega) (by omega) (by rw [hV] at v4; simpa using v4))
   ·split at e
    ·cases e; rfl
    ·cases e
   ·rw [q4] at g1; cases g1
    rw [q5] at g2
    simp only [Option.some.injEq, Prod.mk.injEq, true_and] at g2
    subst g2
    have hx : (if V + 1 = 0 ∧ (0 : Nat) = 1 then some (a, KPh.k1) else none) = none := by simp
    rw [hx]
    have hcu := cntOf_upd (dec := γ.dec) q1 none a
    have e1 : cw a (γ.dec i) = 1 := by rw [hdec]; simp [cw]
    have e2 : cw a none = 0 := rfl
    have e3 : cntOf gs.size (upd γ.dec i none) a = V := by omega
    rw [e3]
    have hat : WgAt ty a w ((((V + 1 : Nat) : Int) + 1) * KK + ((0 : Nat) : Int)) 0 := by rw [hV] at v4; simpa using v4
    have := hat.setSt (((V + 1 : Nat) : Int) * KK + ((0 : Nat) : Int))
    exact ⟨by omega, v2, nl v3 _ (fun b φ e => by cases e), by simpa using this⟩
  | w2 vs =>
   obtain ⟨v1, v2, v3, v4⟩ := hv
   refine go V 0 (by omega) (by omega) hV (by rw [hV] at v4; simpa using v4) fun x hx w' hw' _ => ?_
   simp only [Nat.zero_ne_one, and_false, if_false] at hx
   subst hx
   exact ⟨by omega, v2, nl v3 _ (fun b φ e => by cases e), by simpa using hw'⟩
  | reg =>
   obtain ⟨v1, ⟨u1, u2, u3⟩ | ⟨u1, _⟩ | ⟨u1, _⟩⟩ := hv
   ·refine go V 1 (by omega) (by omega) hV (by rw [hV] at u3; simpa using u3) fun x hx w' hw' _ => ?_
    by_cases e : V = 0
    ·rw [if_pos ⟨e, rfl⟩] at hx
     subst hx
     refine ⟨by omega, .inr (.inl ⟨e, i, .k1, upd_same _ _ _, by simp, fun j ψ hj => ?_, .inl ⟨by simp, by rw [e] at hw'; simpa using hw'⟩⟩)⟩
     by_cases ej : j = i
     ·exact ej
     ·exfalso
      rw [upd_ne _ _ ej] at hj
      have := u2 j ψ hj
      subst this
      obtain ⟨j1, j2⟩ := h.li.decs j a _ hj
      have hcu := cntOf_upd (dec := γ.dec) q1 none a
      have e1 : cw a (γ.dec i) = 1 := by rw [hdec]; simp [cw]
      have e2 : cw a none = 0 := rfl
      have := cw_le_cntOf (dec := upd γ.dec i none) (a := a) j1 (by rw [upd_ne _ _ ej]; exact hj)
      omega
    ·rw [if_neg (fun x => e x.1)] at hx
     subst hx
     exact ⟨by omega, .inl ⟨by omega, nl u2 _ (fun b φ e => by cases e), by simpa using hw'⟩⟩
   ·omega
   ·omega
  | w4 => have := hv.1; omega
  | fin => have := hv.1; omega
 | @kload n c g w N a hs hdec hsend hG hd hh k ih =>
  intro gs t γ sl i h hi hst hps hc hn hm
  subst hc
  have hdec : γ.dec i = some (a, .k1) := hdec
  have hsend : γ.snd i = none := hsend
  obtain ⟨q1, q2, q3, G, ψ, q4, q5⟩ := h.li.decs i a _ hdec
  have hv := h.wg _ G a _ q4 q5
  cases ψ with
  | reg =>
   obtain ⟨v1, ⟨u1, u2, u3⟩ | ⟨u1, L, φ, u2, u3, u4, u5⟩ | ⟨u1, u2, u3, u4⟩⟩ := hv
   ·have := u2 i _ hdec; cases this
   ·have hL := u4 i _ hdec
    subst hL
    rw [hdec] at u2; cases u2
    have hat : WgAt ty a w 1 0 := (u5.resolve_right fun x => by have := x.1; cases this).2
    obtain ⟨h1, h2, h3, h4⟩ := hh w (Rely.refl _ _) hat
    refine .inr (h.wgk hi (by rw [← hm]; exact h1) h2 hdec hsend (x := some (a, .k2)) (fun b ψ' e => by cases e; rfl) (Fr.refl w _) h3 h4 (n' := n) (by omega) (fun G' ψ' g1 g2 => ?_) (by rw [← hm]; exact k w (Rely.refl _ _) hat))
    rw [q4] at g1; cases g1
    rw [q5] at g2
    simp only [Option.some.injEq, Prod.mk.injEq, true_and] at g2
    subst g2
    have hcu := cntOf_upd (dec := γ.dec) q1 (some (a, .k2)) a
    have e1 : cw a (γ.dec i) = 0 := by rw [hdec]; rfl
    have e2 : cw a (some (a, KPh.k2)) = 0 := rfl
    refine ⟨by omega, .inr (.inl ⟨by omega, i, .k2, upd_same _ _ _, by simp, fun j ψ hj => ?_, .inl ⟨by simp, hat⟩⟩)⟩
    by_cases ej : j = i
    ·exact ej
    ·rw [upd_ne _ _ ej] at hj; exact u4 j ψ hj
   ·have := u2 i _ hdec; cases this
  | idle mx => have := hv.2.2.1 i _ hdec; cases this
  | pend mx => have := hv.2.2.1 i _ hdec; cases this
  | w2 mx => have := hv.2.2.1 i _ hdec; cases this
  | w4 => have := hv.2.1 i _ hdec; cases this
  | fin => have := hv.2 i _ hdec; cases this
 | @kstore n c g w N a hs hdec hsend hG hd hh k ih =>
  intro gs t γ sl i h hi hst hps hc hn hm
  subst hc
  have hdec : γ.dec i = some (a, .k2) := hdec
  have hsend : γ.snd i = none := hsend
  obtain ⟨q1, q2, q3, G, ψ, q4, q5⟩ := h.li.decs i a _ hdec
  have hv := h.wg _ G a _ q4 q5
  cases ψ with
  | reg =>
   obtain ⟨v1, ⟨u1, u2, u3⟩ | ⟨u1, L, φ, u2, u3, u4, u5⟩ | ⟨u1, u2, u3, u4⟩⟩ := hv
   ·have := u2 i _ hdec; cases this
   ·have hL := u4 i _ hdec
    subst hL
    rw [hdec] at u2; cases u2
    have hat : WgAt ty a w 1 0 := (u5.resolve_right fun x => by have := x.1; cases this).2
    obtain ⟨h1, h2, h3, h4⟩ := hh w (Rely.refl _ _) hat
    refine .inr (h.wgk hi (by rw [← hm]; exact h1) h2 hdec hsend (x := some (a, .k3)) (fun b ψ' e => by cases e; rfl) (Fr.setCell w (stA a) _) h3 h4 (n' := n) (by omega) (fun G' ψ' g1 g2 => ?_) (by rw [← hm]; exact k w (Rely.refl _ _) hat))
    rw [q4] at g1; cases g1
    rw [q5] at g2
    simp only [Option.some.injEq, Prod.mk.injEq, true_and] at g2
    subst g2
    have hcu := cntOf_upd (dec := γ.dec) q1 (some (a, .k3)) a
    have e1 : cw a (γ.dec i) = 0 := by rw [hdec]; rfl
    have e2 : cw a (some (a, KPh.k3)) = 0 := rfl
    refine ⟨by omega, .inr (.inl ⟨by omega, i, .k3, upd_same _ _ _, by simp, fun j ψ hj => ?_, .inr ⟨rfl, hat.setSt _⟩⟩)⟩
    by_cases ej : j = i
    ·exact ej
    ·rw [upd_ne _ _ ej] at hj; exact u4 j ψ hj
   ·have := u2 i _ hdec; cases this
  | idle mx => have := hv.2.2.1 i _ hdec; cases this
  | pend mx => have := hv.2.2.1 i _ hdec; cases this
  | w2 mx => have := hv.2.2.1 i _ hdec; cases this
  | w4 => have := hv.2.1 i _ hdec; cases this
  | fin => have := hv.2 i _ hdec; cases this
 | @kraise n c g w N a hs hdec hsend hG hd hw hh k ih =>
  intro gs t γ sl i h hi hst hps hc hn hm
  subst hc
  have hdec : γ.dec i = some (a, .k3) := hdec
  have hsend : γ.snd i = none := hsend
  obtain ⟨q1, q2, q3, G, ψ, q4, q5⟩ := h.li.decs i a _ hdec
  have hv := h.wg _ G a _ q4 q5
  cases ψ with
  | reg =>
   obtain ⟨v1, ⟨u1, u2, u3⟩ | ⟨u1, L, φ, u2, u3, u4, u5⟩ | ⟨u1, u2, u3, u4⟩⟩ := hv
   ·have := u2 i _ hdec; cases this
   ·have hL := u4 i _ hdec
    subst hL
    rw [hdec] at u2; cases u2
    have hat : WgAt ty a w 0 0 := (u5.resolve_left fun x => x.1 rfl).2
    obtain ⟨h1, h2, h3, h4⟩ := hh w (Rely.refl _ _) hat
    refine .inr (h.wgk hi (by rw [← hm]; exact h1) h2 hdec hsend (x := none) (fun b ψ' e => by cases e) (Fr.setCell w (smA a) _) h3 h4 (n' := n) (by omega) (fun G' ψ' g1 g2 => ?_) (by rw [← hm]; exact k w (Rely.refl _ _) hat))
    rw [q4] at g1; cases g1
    rw [q5] at g2
    simp only [Option.some.injEq, Prod.mk.injEq, true_and] at g2
    subst g2
    have hcu := cntOf_upd (dec := γ.dec) q1 none a
    have e1 : cw a (γ.dec i) = 0 := by rw [hdec]; rfl
    have e2 : cw a none = 0 := rfl
    refine ⟨by omega, .inr (.inr ⟨by omega, fun j ψ hj => ?_, hat.setSm _, fun e => ?_⟩)⟩
    ·by_cases ej : j = i
     ·subst ej; rw [upd_same] at hj; cases hj
     ·rw [upd_ne _ _ ej] at hj; exact absurd (u4 j ψ hj) ej
    ·have := (wps_sem e).2.2
     rw [hw] at this; cases this
   ·have := u2 i _ hdec; cases this
  | idle mx => have := hv.2.2.1 i _ hdec; cases this
  | pend mx => have := hv.2.2.1 i _ hdec; cases this
  | w2 mx => have := hv.2.2.1 i _ hdec; cases this
  | w4 => have := hv.2.1 i _ hdec; cases this
  | fin => have := hv.2 i _ hdec; cases this
 | @leave n c g w hsend hdec hG hq =>
  intro gs t γ sl i h hi hst hps hc hn hm
  subst hc
  have h0 : i ≠ 0 := by
   intro e; subst e; simp at hm
  cases n with
  | zero => rw [hq.1] at hst; cases hst
  | succ n =>
   rcases hq with hq | ⟨_, g', es, hm', hstep, hq'⟩
   ·rw [hq.1] at hst; cases hst
   ·exact .inr (h.leave hi h0 hsend hdec hG (n' := n) (by omega) hstep hm' hq')
 | @done n c g w N hs hd hG hh =>
  intro gs t γ sl i h hi hst hps hc hn hm
  subst hc
  have h0 : i = 0 := by simpa using hm.symm
  subst h0
  obtain ⟨h1, h2, h3, h4⟩ := hh w (Rely.refl _ _)
  exact .inl (h.done hi hG h1 h2 h3 h4)
 | @found main n c g w ch cap wg hb hG hch hw hwg hcw hk ih =>
  intro gs t γ sl i h hi hst hps hc hn hm
  subst hc hm
  have hb' : i = 0 ∨ γ.snd i ≠ none := hb.imp (fun e => by simpa using e) id
  have h' := h.found hi hps (n' := n) hb' hG hch hw hwg hcw hk
  refine (ih (sl := sl) h' hi hst hps (by simp [Gh.cx, upd_same]) (upd_same _ _ _) rfl).of ?_ rfl
  show sumTo gs.size (upd γ.nn i n) ≤ _
  rw [← hn, upd_self]
  exact Nat.le_refl _
 | @free main n c g w G hb hG hk hwg hk' ih =>
  intro gs t γ sl i h hi hst hps hc hn hm
  subst hc hm
  have h' := h.free hi hps (n' := n) hG hk hwg hk'
  refine (ih (sl := sl) h' hi hst hps (by simp [Gh.cx, upd_same]) (upd_same _ _ _) rfl).of ?_ rfl
  show sumTo gs.size (upd γ.nn i n) ≤ _
  rw [← hn, upd_self]
  exact Nat.le_refl _
 | @freeze main n c g w M' R' hb hM hR hro hk ih =>
  intro gs t γ sl i h hi hst hps hc hn hm
  subst hc hm
  have h' := h.freeze hi hps (n' := n) hM hR hro hk
  refine (ih (sl := sl) h' hi hst hps (by simp [Gh.cx, upd_same]) (upd_same _ _ _) rfl).of ?_ rfl
  show sumTo gs.size (upd γ.nn i n) ≤ _
  rw [← hn, upd_self]
  exact Nat.le_refl _
 | @more main n c g w hk ih =>
  intro gs t γ sl i h hi hst hps hc hn hm
  subst hc hm
  have h' := h.more hi hps (n' := n) hk
  refine (ih (sl := sl) h' hi hst hps rfl (upd_same _ _ _) rfl).of ?_ rfl
  have hlt : i < gs.size := (Array.getElem?_eq_some_iff.1 hi).1
  have : sumTo gs.size (upd γ.nn i n) + γ.nn i = sumTo gs.size γ.nn + n := sumTo_upd γ.nn n (fun x => x) hlt
  show sumTo gs.size (upd γ.nn i n) ≤ _
  omega
theorem exists_cnt {dec : Nat → Option (Nat × KPh)} {a : Nat} : ∀ {n : Nat}, 0 < cntOf n dec a → ∃ j, j < n ∧ dec j = some (a, .cnt)
 | 0, h => by simp [cntOf, sumTo] at h
 | n + 1, h => by
  by_cases e : dec n = some (a, .cnt)
  ·exact ⟨n, by omega, e⟩
  ·have h0 : cw a (dec n) = 0 := by
    cases e1 : dec n with
    | none => rfl
    | some x =>
     obtain ⟨b, φ⟩ := x
     cases φ <;> simp only [cw]
     by_cases e2 : b = a
     ·exact absurd (by rw [e1, e2]) e
     ·rw [if_neg e2]
   have : 0 < cntOf n dec a := by simp only [cntOf, sumTo, h0] at h ⊢; simpa using h
   obtain ⟨j, h1, h2⟩ := exists_cnt this
   exact ⟨j, by omega, h2⟩
theorem GI.someone {gs : Array Goroutine} {w : World} {t : Trace} {γ : Gh} (h : GI P ty Post gs w t γ) : ∀ (m i : Nat), gs.size - i ≤ m → i < gs.size → (i = 0 ∨ γ.snd i ≠ none ∨ γ.dec i ≠ none) → ∃ (k : Nat) (g : Goroutine), gs[k]? = some g ∧ g.status = .running := by
 intro m
 induction m with
 | zero => intro i h1 h2; omega
 | succ m ih =>
  intro i h1 h2 how
  have hg := Array.getElem?_eq_getElem h2
  have kid : ∀ j, j ∈ γ.ids i → (γ.snd j ≠ none ∨ γ.dec j ≠ none) → ∃ (k : Nat) (g : Goroutine), gs[k]? = some g ∧ g.status = .running := by
   intro j hj how
   obtain ⟨_, _, _, _, _, _, o4, o5, _⟩ := h.li.kid_of hj
   exact ih j (by omega) o5 (.inr how)
  have hs := h.sit i _ hg
  generalize hp : γ.ps i = s at hs
  cases hs with
  | run hw =>
   rcases hw.status with e | ⟨_, e0, e1, e2, _⟩
   ·exact ⟨i, _, hg, e⟩
   ·rcases how with e | e | e
    ·subst e; cases e0
    ·exact absurd e1 e
    ·exact absurd e2 e
  | snd hm hg' hc hG hdc hd hok hR k =>
   have hc : γ.snd i = some _ := hc
   obtain ⟨k, G, o1, o2, o3, o4, o5, _, _, _, o9⟩ := h.li.owes hc
   have hpl := (h.li.gn _ G o2).1
   have hgp := Array.getElem?_eq_getElem hpl
   have hsp := h.sit _ _ hgp
   generalize hpp : γ.ps (γ.par i) = x at hsp
   cases hsp with
   | run hw =>
    rcases hw.status with e | ⟨_, _, _, _, e⟩
    ·exact ⟨_, _, hgp, e⟩
    ·have e : γ.grp (γ.par i) = none := e
     rw [o2] at e; cases e
   | snd hm' hg'' hc' hG' hdc hd' hok' hR' k' =>
    have hG' : γ.grp (γ.par i) = none := hG'
    rw [o2] at hG'; cases hG'
   | rcv hg'' hG' hk' hcap hcl hd' k' => exact absurd hp (h.nr _ hpp i (List.mem_of_getElem? o1))
   | sem hG' hwg hst ho hw =>
    rename_i G' a
    have hG' : γ.grp (γ.par i) = some G' := hG'
    rw [o2] at hG'; cases hG'
    have hdc : γ.dec i = none := hdc
    rw [o9, hwg] at hdc; cases hdc
  | rcv hg' hG hk hcap hcl hd k =>
   rename_i g₀ G z okb
   have hG : γ.grp i = some G := hG
   obtain ⟨q1, q2, q3, _⟩ := h.li.gn i G hG
   obtain ⟨buf, s, r, hc⟩ := h.ch i G hG
   cases e : γ.ids i with
   | nil =>
    rw [e] at q3
    exact absurd (List.length_eq_zero_iff.1 q3.symm) hk
   | cons j l =>
    have hj : j ∈ γ.ids i := by rw [e]; simp
    obtain ⟨_, _, _, _, _, _, _, _, _, _, o8⟩ := h.li.kid_of hj
    refine kid j hj (.inl ?_)
    rcases o8 with ⟨s1, _⟩ | ⟨_, _, f, s3, _⟩
    ·rw [s1]; simp
    ·exfalso
     have h0 : (γ.ids i).countP (isFly γ.fly) = 0 := by rw [hc.cnt]; exact hc.un hcap
     have := List.countP_eq_zero.1 h0 j hj
     simp [isFly, s3] at this
  | sem hG hwg hst ho hw =>
   rename_i G a
   have hG : γ.grp i = some G := hG
   have hmem : ∀ j φ, γ.dec j = some (a, φ) → j ∈ γ.ids i := fun j φ hj => by
    obtain ⟨r1, r2, r3, G'', ψ, r4, r5⟩ := h.li.decs j a φ hj
    have e := h.lie.ss _ _ a ⟨G'', r4, .inr ⟨ψ, r5⟩⟩ ⟨G, hG, .inr ⟨_, hwg⟩⟩
    have hj0 : j ≠ 0 := fun e => by rw [e, h.li.zd] at hj; cases hj
    have hm := h.li.self j r1 r2 hj0
    rwa [e] at hm
   obtain ⟨v1, ⟨u1, _⟩ | ⟨_, L, φ, u2, _⟩ | ⟨_, _, _, u4⟩⟩ := h.wg i G a _ hG hwg
   ·obtain ⟨j, _, hj⟩ := exists_cnt u1
    exact kid j (hmem j _ hj) (.inr (by rw [hj]; simp))
   ·exact kid L (hmem L _ u2) (.inr (by rw [u2]; simp))
   ·exact absurd hp u4
theorem Sit.awake {main : Bool} {n : Nat} {c : Ctx} {g : Goroutine} {w : World} {s : PS} (h : Sit P ty Post main n c g w s) : awake g := by
 intro tm
 cases h with
 | run hw =>
  rcases hw.status with e | e
  ·rw [e]; simp
  ·rw [e.1]; simp
 | snd hm hg hc hG hdc hd hok hR k => rw [hg]; simp [parked]
 | rcv hg hG hk hcap hcl hd k => rw [hg]; simp [parked]
 | sem hG hwg hst ho hw => rw [hst]; simp
theorem Inv.step {μ : Nat × Nat} {m : Machine} {t : Trace} (h : Inv P ty Post μ m t) :
  (∃ o w ops, stepT P m = (.ended o w, ops) ∧ Good P Post m o w (t ++ ops)) ∨ (∃ m' ops μ', stepT P m = (.next m', ops) ∧ Lt2 μ' μ ∧ Inv P ty Post μ' m' (t ++ ops)) := by
 obtain ⟨gs, w, sl, γ, rfl, h, rfl⟩ := h
 obtain ⟨i, g, d, sl', hg, hrun, hstep⟩ := crowd_pick (P := P) (w := w) (sl := sl) (fun g hg => by
  obtain ⟨j, hj⟩ := Array.mem_iff_getElem?.1 hg
  exact (h.sit j g hj).awake) (h.someone gs.size 0 (by omega) h.li.pos (.inl rfl))
 rw [hstep]
 have h' := h.at d
 have hps : γ.ps i = .run := by
  have hs := h.sit i g hg
  generalize γ.ps i = x at hs
  cases hs with
  | run hw => rfl
  | snd hm hg' hc hG hdc hd hok hR k => rw [hg'] at hrun; cases hrun
  | rcv hg' hG hk hcap hcl hd k => rw [hg'] at hrun; cases hrun
  | sem hG hwg hst ho hw => rw [hst] at hrun; cases hrun
 have hs := h'.sit i g hg
 rw [hps] at hs
 cases hs with
 | run hw =>
  rcases GI.step hw (sl := sl') h' hg hrun hps rfl rfl rfl with ⟨o, w', ops, h1, h2⟩ | h1
  ·exact .inl ⟨o, w', ops, h1, h2 _ _⟩
  ·exact .inr h1
theorem W.runs {n : Nat} {M : Nat → Prop} {R : Addr → Prop} {a : Goroutine} {w : World} (hW : W P ty Post true n ⟨M, R, 0, none, none, none⟩ a w) (hM : ∀ b, M b → b < w.heap.size) (hR : ∀ x, R x → x.block < w.heap.size ∧ ¬ M x.block) :
  ∃ N last o w' t', runNT P (N + 1) (solo a w) #[] = (.ended o w', t') ∧ runN P N (solo a w) = .next last ∧ step P last = .ended o w' ∧ Good P Post last o w' t' := by
 refine run_of_inv (r := Lt2) (Prod.lex Nat.lt_wfRel Nat.lt_wfRel).wf (Inv P ty Post) (Good P Post) (fun μ m t h => h.step) _ (solo a w) #[] ⟨#[a], w, none,
  { M := fun i b => i = 0 ∧ M b, R := fun i x => i = 0 ∧ R x, d := fun _ => 0, snd := fun _ => none, dec := fun _ => none, grp := fun _ => none, par := fun _ => 0, acc := fun i => i, ids := fun _ => [], fly := fun _ => none, nn := fun _ => n, ps := fun _ => .run }, rfl, ?_, rfl⟩
 refine ⟨⟨by simp, rfl, rfl, rfl, fun p G h => by simp at h, fun p k j h => by simp at h, fun j h => by simp at h, fun j a φ h => by simp at h, fun j h1 _ h3 => by simp at h1; exact absurd h1 h3, fun j h => absurd rfl h, fun _ => rfl, fun j h => h, fun j _ => ⟨rfl, rfl⟩⟩, ?_, ?_, ?_, ?_, ?_, ?_, ?_, ?_, ?_⟩
 ·refine ⟨fun i j b h1 h2 => h1.1.trans h2.1.symm, fun i b h => hM b h.2, fun i p b _ h => ?_, fun i x h => (hR x h.2).1, fun i j x h1 h2 => (hR x h1.2).2 h2.2, fun i p x _ h => ?_, fun p q b h => ?_, fun p b h => ?_, fun i b h => ?_⟩
  ·obtain ⟨G, h, _⟩ := h; simp at h
  ·obtain ⟨G, h, _⟩ := h; simp at h
  ·obtain ⟨G, h, _⟩ := h; simp at h
  ·obtain ⟨G, h, _⟩ := h; simp at h
  ·rcases h with ⟨G, h, _⟩ | ⟨φ, h⟩ <;> simp at h
 ·refine ⟨fun i b _ k x h => by simp [touchAt, Trace.act?] at h, fun i a _ k x h => by simp [touchAt, Trace.act?] at h, fun i b p _ _ k x h => by simp [touchAt, Trace.act?] at h, noRace_nil, fun k op h => by simp at h, fun k x b h => by simp [touchAt, Trace.act?] at h, fun k g h => by simp [Trace.g?] at h⟩
 ·intro j b h; simp [h.1]
 ·intro j _; rfl
 ·intro j f h; simp at h
 ·intro p G h; simp at h
 ·intro p G a φ h; simp at h
 ·intro i g h
  have : i = 0 := by
   have := (Array.getElem?_eq_some_iff.1 h).1
   simp at this; exact this
  subst this
  simp at h
  subst h
  refine .run ?_
  simpa [Gh.cx] using hW
 ·intro p h; cases h
end
end Go.Gw
namespace Go.Gd
inductive T (α : Type) where
 | nil
 | node (l : T α) (v : Option α) (r : T α)
namespace T
variable {α : Type}
def get (t : T α) : Nat → Option α :=
 T.rec (motive := fun _ => Nat → Option α) (fun _ => none)
  (fun _ v _ ihl ihr n => Bool.rec (Bool.rec (ihr (Nat.sub (Nat.div n (nat_lit 2)) (nat_lit 1))) (ihl (Nat.div n (nat_lit 2))) (Nat.beq (Nat.mod n (nat_lit 2)) (nat_lit 1))) v (Nat.beq n (nat_lit 0))) t
def single (v : α) (f : Nat) : Nat → T α :=
 Nat.rec (motive := fun _ => Nat → T α) (fun _ => .node .nil (some v) .nil)
  (fun _ ih n => Bool.rec (Bool.rec (.node .nil none (ih (Nat.sub (Nat.div n (nat_lit 2)) (nat_lit 1)))) (.node (ih (Nat.div n (nat_lit 2))) none .nil) (Nat.beq (Nat.mod n (nat_lit 2)) (nat_lit 1))) (.node .nil (some v) .nil) (Nat.beq n (nat_lit 0))) f
def deep : Nat := 40
def set (t : T α) : Nat → α → T α :=
 T.rec (motive := fun _ => Nat → α → T α) (fun n v => single v deep n)
  (fun l v₀ r ihl ihr n v => Bool.rec (Bool.rec (.node l v₀ (ihr (Nat.sub (Nat.div n (nat_lit 2)) (nat_lit 1)) v)) (.node (ihl (Nat.div n (nat_lit 2)) v) v₀ r) (Nat.beq (Nat.mod n (nat_lit 2)) (nat_lit 1))) (.node l (some v) r) (Nat.beq n (nat_lit 0))) t
theorem pick3 {β : Type} (n : Nat) (x y z : β) : (Bool.rec (motive := fun _ => β) (Bool.rec (motive := fun _ => β) z y (Nat.beq (Nat.mod n 2) 1)) x (Nat.beq n 0)) = if n = 0 then x else if n % 2 = 1 then y else z := by
 have e : ∀ a b : Nat, Nat.beq a b = decide (a = b) := fun a b => by
  cases h : Nat.beq a b
  ·exact (decide_eq_false (Nat.ne_of_beq_eq_false h)).symm
  ·exact (decide_eq_true (Nat.eq_of_beq_eq_true h)).symm
 rw [e, e]
 show _ = if n = 0 then x else if Nat.mod n 2 = 1 then y else z
 by_cases h : n = 0
 ·simp [h]
 ·by_cases h' : Nat.mod n 2 = 1 <;> simp [h, h']
theorem get_nil (n : Nat) : (nil : T α).get n = none := rfl
theorem get_node (l r : T α) (v : Option α) (n : Nat) : (node l v r).get n = if n = 0 then v else if n % 2 = 1 then l.get (n / 2) else r.get (n / 2 - 1) := by
 refine (pick3 n v (l.get (n / 2)) (r.get (n / 2 - 1))).trans ?_
 by_cases h : n = 0
 ·simp [h]
 ·by_cases h' : n % 2 = 1 <;> simp [h, h']
theorem set_node (l r : T α) (v : Option α) (n : Nat) (x : α) : (node l v r).set n x = if n = 0 then node l (some x) r else if n % 2 = 1 then node (l.set (n / 2) x) v r else node l v (r.set (n / 2 - 1) x) := by
 refine (pick3 n (node l (some x) r) (node (l.set (n / 2) x) v r) (node l v (r.set (n / 2 - 1) x))).trans ?_
 by_cases h : n = 0
 ·simp [h]
 ·by_cases h' : n % 2 = 1 <;> simp [h, h']
theorem single_succ (v : α) (f n : Nat) : single v (f + 1) n = if n = 0 then node nil (some v) nil else if n % 2 = 1 then node (single v f (n / 2)) none nil else node nil none (single v f (n / 2 - 1)) := by
 refine (pick3 n (node nil (some v) nil) (node (single v f (n / 2)) none nil) (node nil none (single v f (n / 2 - 1)))).trans ?_
 by_cases h : n = 0
 ·simp [h]
 ·by_cases h' : n % 2 = 1 <;> simp [h, h']
theorem get_single (v : α) : ∀ (f n m : Nat), n < 2 ^ f → (single v f n).get m = if m = n then some v else none
 | 0, n, m, h => by
  have : n = 0 := by omega
  subst this
  show (node nil (some v) nil).get m = _
  rw [get_node]
  by_cases e : m = 0
  ·simp [e]
  ·by_cases e' : m % 2 = 1 <;> simp [e, e', get_nil]
 | f + 1, n, m, h => by
  have hp : 2 ^ (f + 1) = 2 * 2 ^ f := by rw [Nat.pow_succ, Nat.mul_comm]
  rw [single_succ]
  by_cases e : n = 0
  ·subst e
   rw [if_pos rfl, get_node]
   by_cases e : m = 0
   ·simp [e]
   ·by_cases e' : m % 2 = 1 <;> simp [e, e', get_nil]
  ·rw [if_neg e]
   by_cases e1 : n % 2 = 1
   ·rw [if_pos e1, get_node, get_single v f (n / 2) (m / 2) (by omega)]
    by_cases e2 : m = 0
    ·simp [e2, Ne.symm e]
    ·rw [if_neg e2]
     by_cases e3 : m % 2 = 1
     ·rw [if_pos e3]
      by_cases e4 : m = n
      ·simp [e4]
      ·rw [if_neg (by omega), if_neg e4]
     ·rw [if_neg e3, if_neg (by intro x; subst x; exact e3 e1)]
      rfl
   ·rw [if_neg e1, get_node, get_single v f (n / 2 - 1) (m / 2 - 1) (by omega)]
    by_cases e2 : m = 0
    ·simp [e2, Ne.symm e]
    ·rw [if_neg e2]
     by_cases e3 : m % 2 = 1
     ·rw [if_pos e3, if_neg (by intro x; subst x; exact e1 e3)]
      rfl
     ·rw [if_neg e3]
      by_cases e4 : m = n
      ·simp [e4]
      ·rw [if_neg (by omega), if_neg e4]
theorem get_set (v : α) : ∀ (t : T α) (n m : Nat), n < 2 ^ deep → (t.set n v).get m = if m = n then some v else t.get m
 | .nil, n, m, h => by
  show (single v deep n).get m = _
  rw [get_single v deep n m h]; rfl
 | .node l v₀ r, n, m, h => by
  rw [set_node]
  by_cases e : n = 0
  ·subst e
   rw [if_pos rfl, get_node, get_node]
   by_cases e : m = 0
   ·simp [e]
   ·simp [e]
  ·rw [if_neg e]
   by_cases e1 : n % 2 = 1
   ·rw [if_pos e1, get_node, get_node, get_set v l (n / 2) (m / 2) (by omega)]
    by_cases e2 : m = 0
    ·simp [e2, Ne.symm e]
    ·rw [if_neg e2, if_neg e2]
     by_cases e3 : m % 2 = 1
     ·rw [if_pos e3, if_pos e3]
      by_cases e4 : m = n
      ·simp [e4]
      ·rw [if_neg (by omega), if_neg e4]
     ·rw [if_neg e3, if_neg e3, if_neg (by intro x; subst x; exact e3 e1)]
   ·rw [if_neg e1, get_node, get_node, get_set v r (n / 2 - 1) (m / 2 - 1) (by omega)]
    by_cases e2 : m = 0
    ·simp [e2, Ne.symm e]
    ·rw [if_neg e2, if_neg e2]
     by_cases e3 : m % 2 = 1
     ·rw [if_pos e3, if_pos e3, if_neg (by intro x; subst x; exact e1 e3)]
     ·rw [if_neg e3, if_neg e3]
      by_cases e4 : m = n
      ·simp [e4]
      ·rw [if_neg (by omega), if_neg e4]
end T
end Go.Gd
namespace Go.Gd
open Go
structure RB where
 blk : Nat
 size : Nat
 es : Nat
abbrev Ren := Nat → Option RB
def Ren.le (ρ ρ' : Ren) : Prop := ∀ b B, ρ b = some B → ρ' b = some B
theorem Ren.le.refl (ρ : Ren) : ρ.le ρ := fun _ _ h => h
theorem Ren.le.trans {ρ ρ' ρ'' : Ren} (h : ρ.le ρ') (h' : ρ'.le ρ'') : ρ.le ρ'' := fun b B x => h' b B (h b B x)
def big : Nat := 2 ^ 63
inductive FR (ρ : Ren) : Fn → Fn → Prop where
 | func (f : FuncId) : FR ρ (.func f) (.func f)
 | method (n : String) : FR ρ (.method n) (.method n)
 | methodOf (t : TypeId) (n : String) : FR ρ (.methodOf t n) (.methodOf t n)
 | via (t : TypeId) (p : Array FieldStep) (f : FuncId) (b : Bool) : FR ρ (.via t p f b) (.via t p f b)
 | yield {l : Nat} {B : RB} (h : ρ l = some B) : FR ρ (.yield l) (.yield B.blk)
mutual
inductive VR (ρ : Ren) : Value → Value → Prop where
 | bool (b : Bool) : VR ρ (.bool b) (.bool b)
 | int (k : IntKind) (n : Int) : VR ρ (.int k n) (.int k n)
 | float (k : FloatKind) (n : Nat) : VR ρ (.float k n) (.float k n)
 | complex (k : FloatKind) (n m : Nat) : VR ρ (.complex k n m) (.complex k n m)
 | string (s : ByteArray) : VR ρ (.string s) (.string s)
 | ptr0 : VR ρ (.pointer none) (.pointer none)
 | ptr {a : Addr} {B : RB} (h : ρ a.block = some B) : VR ρ (.pointer (some a)) (.pointer (some { a with block := B.blk }))
 | sl0 (n c : Nat) : VR ρ (.slice none n c) (.slice none n c)
 | sl {a : Addr} {B : RB} {n c c' : Nat} (h : ρ a.block = some B) (hc : (c ≠ big ∧ c' = c) ∨ (c = big ∧ n ≤ c' ∧ a.off + c' * B.es ≤ B.size)) : VR ρ (.slice (some a) n c) (.slice (some { a with block := B.blk }) n c')
 | map0 : VR ρ (.map none) (.map none)
 | map {r : Nat} {B : RB} (h : ρ r = some B) : VR ρ (.map (some r)) (.map (some B.blk))
 | chan0 : VR ρ (.chan none) (.chan none)
 | chan {r : Nat} {B : RB} (h : ρ r = some B) : VR ρ (.chan (some r)) (.chan (some B.blk))
 | func {fn fn' : Fn} {xs xs' ys ys' : Array Value} (h : FR ρ fn fn') (hx : VRL ρ xs.toList xs'.toList) (hy : VRL ρ ys.toList ys'.toList) : VR ρ (.func fn xs ys) (.func fn' xs' ys')
 | nilFunc : VR ρ .nilFunc .nilFunc
 | iface {t : TypeId} {v v' : Value} (h : VR ρ v v') : VR ρ (.iface t v) (.iface t v')
 | nilIface : VR ρ .nilIface .nilIface
 | agg {xs xs' : Array Value} (h : VRL ρ xs.toList xs'.toList) : VR ρ (.agg xs) (.agg xs')
 | tuple {xs xs' : Array Value} (h : VRL ρ xs.toList xs'.toList) : VR ρ (.tuple xs) (.tuple xs')
inductive VRL (ρ : Ren) : List Value → List Value → Prop where
 | nil : VRL ρ [] []
 | cons {v v' : Value} {l l' : List Value} (h : VR ρ v v') (t : VRL ρ l l') : VRL ρ (v :: l) (v' :: l')
end
theorem FR.mono {ρ ρ' : Ren} (hρ : ρ.le ρ') {f f' : Fn} (h : FR ρ f f') : FR ρ' f f' := by
 cases h with
 | func => exact .func _
 | method => exact .method _
 | methodOf => exact .methodOf _ _
 | via => exact .via _ _ _ _
 | yield h => exact .yield (hρ _ _ h)
mutual
theorem VR.mono {ρ ρ' : Ren} (hρ : ρ.le ρ') : ∀ {v v' : Value}, VR ρ v v' → VR ρ' v v'
 | _, _, .bool b => .bool b
 | _, _, .int k n => .int k n
 | _, _, .float k n => .float k n
 | _, _, .complex k n m => .complex k n m
 | _, _, .string s => .string s
 | _, _, .ptr0 => .ptr0
 | _, _, .ptr h => .ptr (hρ _ _ h)
 | _, _, .sl0 n c => .sl0 n c
 | _, _, .sl h hc => .sl (hρ _ _ h) hc
 | _, _, .map0 => .map0
 | _, _, .map h => .map (hρ _ _ h)
 | _, _, .chan0 => .chan0
 | _, _, .chan h => .chan (hρ _ _ h)
 | _, _, .func h hx hy => .func (h.mono hρ) (VRL.mono hρ hx) (VRL.mono hρ hy)
 | _, _, .nilFunc => .nilFunc
 | _, _, .iface h => .iface (VR.mono hρ h)
 | _, _, .nilIface => .nilIface
 | _, _, .agg h => .agg (VRL.mono hρ h)
 | _, _, .tuple h => .tuple (VRL.mono hρ h)
theorem VRL.mono {ρ ρ' : Ren} (hρ : ρ.le ρ') : ∀ {l l' : List Value}, VRL ρ l l' → VRL ρ' l l'
 | _, _, .nil => .nil
 | _, _, .cons h t => .cons (VR.mono hρ h) (VRL.mono hρ t)
end
section
variable {ρ : Ren}
theorem VRL.length : ∀ {l l' : List Value}, VRL ρ l l' → l.length = l'.length
 | _, _, .nil => rfl
 | _, _, .cons _ t => by simp [VRL.length t]
theorem VRL.get : ∀ {l l' : List Value}, VRL ρ l l' → ∀ (k : Nat) (v : Value), l[k]? = some v → ∃ v', l'[k]? = some v' ∧ VR ρ v v'
 | _, _, .nil, k, v, h => by simp at h
 | _, _, .cons h t, 0, v, e => by
  simp only [List.getElem?_cons_zero, Option.some.injEq] at e
  subst e
  exact ⟨_, rfl, h⟩
 | _, _, .cons h t, k + 1, v, e => by simpa using VRL.get t k v (by simpa using e)
theorem VRL.append : ∀ {l l' m m' : List Value}, VRL ρ l l' → VRL ρ m m' → VRL ρ (l ++ m) (l' ++ m')
 | _, _, _, _, .nil, h => h
 | _, _, _, _, .cons h t, h' => .cons h (VRL.append t h')
theorem VRL.set : ∀ {l l' : List Value}, VRL ρ l l' → ∀ (k : Nat) {v v' : Value}, VR ρ v v' → VRL ρ (l.set k v) (l'.set k v')
 | _, _, .nil, _, _, _, _ => .nil
 | _, _, .cons _ t, 0, _, _, h' => .cons h' t
 | _, _, .cons h t, k + 1, _, _, h' => .cons h (VRL.set t k h')
theorem VRL.take : ∀ {l l' : List Value}, VRL ρ l l' → ∀ (k : Nat), VRL ρ (l.take k) (l'.take k)
 | _, _, .nil, k => by simp; exact .nil
 | _, _, .cons _ _, 0 => .nil
 | _, _, .cons h t, k + 1 => .cons h (VRL.take t k)
theorem VRL.drop : ∀ {l l' : List Value}, VRL ρ l l' → ∀ (k : Nat), VRL ρ (l.drop k) (l'.drop k)
 | _, _, .nil, k => by simp; exact .nil
 | _, _, .cons h t, 0 => .cons h t
 | _, _, .cons _ t, k + 1 => VRL.drop t k
theorem VRL.of : ∀ {l l' : List Value}, l.length = l'.length → (∀ (k : Nat) (v : Value), l[k]? = some v → ∃ v', l'[k]? = some v' ∧ VR ρ v v') → VRL ρ l l'
 | [], [], _, _ => .nil
 | v :: l, [], h, _ => by simp at h
 | [], v :: l, h, _ => by simp at h
 | v :: l, v' :: l', h, hg => by
  obtain ⟨u, hu, hr⟩ := hg 0 v rfl
  simp only [List.getElem?_cons_zero, Option.some.injEq] at hu
  subst hu
  exact .cons hr (VRL.of (by simpa using h) fun k u hu => by simpa using hg (k + 1) u (by simpa using hu))
end
def ground (f : Nat) : Value → Bool :=
 Nat.rec (motive := fun _ => Value → Bool) (fun _ => false) (fun _ ih v => match v with
  | .bool _ | .int .. | .float .. | .complex .. | .string _ | .pointer none | .slice none .. | .map none | .chan none | .nilFunc | .nilIface => true
  | .iface _ v => ih v
  | .agg xs | .tuple xs => xs.toList.all ih
  | _ => false) f
theorem ground_eq {ρ : Ren} : ∀ (f : Nat) {v v' : Value}, VR ρ v v' → ground f v = true → v' = v
 | 0, _, _, _, h => by cases h
 | f + 1, v, v', h, hg => by
  have lst : ∀ {l l' : List Value}, VRL ρ l l' → l.all (ground f) = true → l' = l := by
   intro l
   induction l with
   | nil => intro l' h _; cases h; rfl
   | cons a l ih =>
    intro l' h ha
    cases h with
    | cons h t =>
     simp only [List.all_cons, Bool.and_eq_true] at ha
     rw [ground_eq f h ha.1, ih t ha.2]
  cases h with
  | ptr h => cases hg
  | sl h hc => cases hg
  | map h => cases hg
  | chan h => cases hg
  | func h hx hy => cases hg
  | iface h => rw [ground_eq f h hg]
  | agg h =>
   rename_i xs xs'
   have := lst h hg
   rw [show xs' = xs from Array.toList_inj.1 this]
  | tuple h =>
   rename_i xs xs'
   have := lst h hg
   rw [show xs' = xs from Array.toList_inj.1 this]
  | _ => rfl
end Go.Gd
namespace Go.Gd
open Go Go.Gw
inductive PObj where
 | cells (c : T Value) (size : Nat) (elem : TypeId) (es : Nat) (own : Bool) (fam : Nat) (ok : Bool) (ice : Bool)
 | obj (o : Obj)
structure PH where
 next : Nat
 t : T PObj
 ng : Nat
 fams : T (List Nat)
@[reducible] noncomputable def PH.upT (H : PH) (t : T PObj) : PH := PH.casesOn H fun n _ ng f => ⟨n, t, ng, f⟩
@[reducible] noncomputable def PH.upN (H : PH) (t : T PObj) : PH := PH.casesOn H fun n _ ng f => ⟨n + 1, t, ng, f⟩
@[reducible] noncomputable def PH.upF (H : PH) (t : T PObj) (f : T (List Nat)) : PH := PH.casesOn H fun n _ ng _ => ⟨n + 1, t, ng, f⟩
def isHole : Value → Bool
 | .tuple a => match a.toList with
  | [.tuple _] => true
  | _ => false
 | _ => false
def hole : Value := .tuple #[.tuple #[]]
inductive OR (ρ : Ren) : Obj → Obj → Prop where
 | deferred0 : OR ρ (.deferred (some [])) (.deferred (some []))
 | deferredX : OR ρ (.deferred none) (.deferred none)
 | map {es es' : Array MapEntry} (clock : Nat) (h : es.size = es'.size) (hk : ∀ (k : Nat) (e : MapEntry), es[k]? = some e → ∃ e', es'[k]? = some e' ∧ e'.key = e.key ∧ e'.born = e.born ∧ VR ρ e.val e'.val) : OR ρ (.map es clock) (.map es' clock)
 | iter (s : ByteArray) (pos : Nat) : OR ρ (.stringIter s pos) (.stringIter s pos)
 | chan (cap : Nat) : OR ρ (.chan cap #[] false 0 0 false) (.chan cap #[] false 0 0 false)
 | loop {l l' : Loop} (h1 : l'.state = l.state) (h2 : l'.pending = l.pending) (h3 : l'.fn = l.fn) (h4 : l'.tmps.size = l.tmps.size ∧ ∀ (k : Nat) (v : Value), l.tmps.toList[k]? = some v → isHole v = false → ∃ v', l'.tmps[k]? = some v' ∧ VR ρ v v') (h5 : l'.params = l.params) (h6 : l'.assign = l.assign) (h7 : l'.body = l.body)
   (h8 : ∃ B, ρ l.defers = some B ∧ l'.defers = B.blk) : OR ρ (.loop l) (.loop l')
def Thawed (w : World) (b : Nat) : Prop := ∀ off, w.frozen? ⟨b, off, none⟩ = false
inductive BR (ρ : Ren) (c : Ctx) (w : World) (B : RB) : PObj → Prop where
 | cells {t : T Value} {size : Nat} {elem : TypeId} {es : Nat} {own : Bool} {fam : Nat} {ok ice : Bool} (hs : w.shape? B.blk = some (elem, B.size)) (he : B.es = es) (hf : fam = 0 → B.size = size) (hle : size ≤ B.size)
   (hown : own = true → c.M B.blk ∧ (ice = false → Thawed w B.blk)) (hR : own = false → ok = true → ∀ k, k < size → c.R ⟨B.blk, k, none⟩)
   (hok : ok = true → ∀ k, k < size → ∃ v v', t.get k = some v ∧ w.cell? ⟨B.blk, k, none⟩ = some v' ∧ VR ρ v v') : BR ρ c w B (.cells t size elem es own fam ok ice)
 | obj {o o' : Obj} (hw : w.heap[B.blk]? = some o') (ho : OR ρ o o') (hM : c.M B.blk) : BR ρ c w B (.obj o)
def PObj.fam : PObj → Nat
 | .cells _ _ _ _ _ f _ _ => f
 | .obj _ => 0
def PObj.mine : PObj → Bool
 | .cells _ _ _ _ own _ _ _ => own
 | .obj _ => true
def PH.still (H : PH) (b : Nat) : Prop := ∀ o, H.t.get b = some o → o.mine = false
def PObj.okb : PObj → Bool
 | .cells _ _ _ _ _ _ ok _ => ok
 | .obj _ => true
structure HR (ρ : Ren) (H : PH) (c : Ctx) (w : World) : Prop where
 cap : H.next ≤ 2 ^ T.deep
 dom : ∀ b B, ρ b = some B → b < H.next ∧ B.blk < w.heap.size
 rel : ∀ b B o, ρ b = some B → H.t.get b = some o → BR ρ c w B o
 inj : ∀ b b' B B', ρ b = some B → ρ b' = some B' → b ≠ b' → B.blk = B'.blk → (∃ o o', H.t.get b = some o ∧ H.t.get b' = some o' ∧ o.fam ≠ 0 ∧ o.fam = o'.fam) ∨ (H.still b ∧ H.still b')
 glob : ∀ g, g < H.ng → ∃ B, ρ g = some B ∧ B.blk = g
 mem : ∀ b B o, ρ b = some B → H.t.get b = some o → o.fam ≠ 0 → o.okb = true → ∃ l, H.fams.get o.fam = some l ∧ b ∈ l
section
variable {ρ : Ren} {H : PH} {c : Ctx} {w w' : World}
theorem BR.rely {B : RB} {o : PObj} (h : BR ρ c w B o) (hb : B.blk < w.heap.size) (r : Rely c w w') : BR ρ c w' B o := by
 cases h with
 | cells hs he hf hle hown hR hok =>
  rename_i t size elem es own fam ok ice
  refine .cells ((r.shape _ hb).trans hs) he hf hle (fun e => ⟨(hown e).1, fun ei off => ?_⟩) hR (fun e k hk => ?_)
  ·have := (hown e).2 ei off
   simp only [World.frozen?, r.mine _ (hown e).1] at this ⊢
   exact this
  ·obtain ⟨v, v', h1, h2, h3⟩ := hok e k hk
   refine ⟨v, v', h1, ?_, h3⟩
   cases ho : own with
   | true => simp only [World.cell?, r.mine _ (hown ho).1] at h2 ⊢; exact h2
   | false => rw [r.roc _ (hR ho e k hk)]; exact h2
 | obj hw ho hM => exact .obj ((r.mine _ hM).trans hw) ho hM
theorem HR.rely (h : HR ρ H c w) (r : Rely c w w') : HR ρ H c w' :=
 ⟨h.cap, fun b B hb => ⟨(h.dom b B hb).1, Nat.lt_of_lt_of_le (h.dom b B hb).2 r.size⟩, fun b B o hb ho => (h.rel b B o hb ho).rely (h.dom b B hb).2 r, h.inj, h.glob, h.mem⟩
theorem OR.mono {ρ' : Ren} (hρ : ρ.le ρ') {o o' : Obj} (h : OR ρ o o') : OR ρ' o o' := by
 cases h with
 | deferred0 => exact .deferred0
 | deferredX => exact .deferredX
 | map clock h hk => exact .map clock h fun k e he => let ⟨e', h1, h2, h3, h4⟩ := hk k e he; ⟨e', h1, h2, h3, h4.mono hρ⟩
 | iter s pos => exact .iter s pos
 | chan cap => exact .chan cap
 | loop h1 h2 h3 h4 h5 h6 h7 h8 => exact .loop h1 h2 h3 ⟨h4.1, fun k v hk hh => let ⟨v', p, q⟩ := h4.2 k v hk hh; ⟨v', p, q.mono hρ⟩⟩ h5 h6 h7 (let ⟨B, x, y⟩ := h8; ⟨B, hρ _ _ x, y⟩)
theorem BR.mono {ρ' : Ren} (hρ : ρ.le ρ') {B : RB} {o : PObj} (h : BR ρ c w B o) : BR ρ' c w B o := by
 cases h with
 | cells hs he hf hle hown hR hok => exact .cells hs he hf hle hown hR fun e k hk => let ⟨v, v', h1, h2, h3⟩ := hok e k hk; ⟨v, v', h1, h2, h3.mono hρ⟩
 | obj hw ho hM => exact .obj hw (ho.mono hρ) hM
end
def cellsFrom (t : T Value) (off n : Nat) : Option (List Value) :=
 Nat.rec (motive := fun _ => Nat → Option (List Value)) (fun _ => some []) (fun _ ih off => match t.get off with
  | some v => match ih (off + 1) with
   | some l => some (v :: l)
   | none => none
  | none => none) n off
theorem cellsFrom_succ (t : T Value) (off n : Nat) : cellsFrom t off (n + 1) = match t.get off with
  | some v => match cellsFrom t (off + 1) n with
   | some l => some (v :: l)
   | none => none
  | none => none := rfl
def rdEvents (b off n : Nat) : List Event := (List.range n).map fun k => ⟨.cell ⟨b, off + k, none⟩, false, false⟩
theorem rdEvents_succ (b off n : Nat) : rdEvents b off (n + 1) = ⟨.cell ⟨b, off, none⟩, false, false⟩ :: rdEvents b (off + 1) n := by
 unfold rdEvents
 rw [List.range_succ_eq_map, List.map_cons, List.map_map]
 simp only [Nat.add_zero, Function.comp_def]
 congr 1
 apply List.map_congr_left
 intro k _
 rw [show off + (k + 1) = off + 1 + k by omega]
theorem add_off (b off k : Nat) : (⟨b, off, none⟩ : Addr).add k = ⟨b, off + k, none⟩ := by
 unfold Addr.add
 by_cases e : k = 0
 ·subst e; rfl
 ·rw [if_neg e]
theorem push_cons {α : Type} (a : Array α) (x : α) (l : List α) : a.push x ++ l.toArray = a ++ (x :: l).toArray := by
 apply Array.ext'; simp
section
variable {P : Program} {ρ : Ren} {w : World} {b : Nat} {t : T Value} {size : Nat}
theorem runT_loadCellsFrom (hok : ∀ k, k < size → ∃ v v', t.get k = some v ∧ w.cell? ⟨b, k, none⟩ = some v' ∧ VR ρ v v') : ∀ (n i off : Nat) (l : List Value) (acc : Array Value) (es : Array Event), off + i + n ≤ size → cellsFrom t (off + i) n = some l →
  ∃ l', VRL ρ l l' ∧ (loadCellsFrom ⟨b, off, none⟩ i n acc).runT P w es = (.ok (acc ++ l'.toArray) w, es ++ (rdEvents b (off + i) n).toArray)
 | 0, i, off, l, acc, es, _, h => by
  have : l = [] := (Option.some.inj h).symm
  subst this
  exact ⟨[], .nil, by simp [loadCellsFrom, pure, rdEvents]⟩
 | n + 1, i, off, l, acc, es, hle, h => by
  obtain ⟨v, v', h1, h2, h3⟩ := hok (off + i) (by omega)
  rw [cellsFrom_succ, h1] at h
  simp only at h
  cases e : cellsFrom t (off + i + 1) n with
  | none => rw [e] at h; cases h
  | some m =>
   rw [e] at h
   simp only [Option.some.injEq] at h
   subst h
   obtain ⟨m', r1, r2⟩ := runT_loadCellsFrom hok n (i + 1) off m (acc.push v') (es.push ⟨.cell ⟨b, off + i, none⟩, false, false⟩) (by omega) (by rw [← Nat.add_assoc]; exact e)
   refine ⟨v' :: m', .cons h3 r1, ?_⟩
   show (Sem.load .plain ((⟨b, off, none⟩ : Addr).add i) fun v => (Sem.pure v).bind fun v => loadCellsFrom ⟨b, off, none⟩ (i + 1) n (acc.push v)).runT P w es = _
   rw [add_off]
   simp only [Sem.runT, h2]
   show (loadCellsFrom ⟨b, off, none⟩ (i + 1) n (acc.push v')).runT P w (es.push ⟨.cell ⟨b, off + i, none⟩, false, false⟩) = _
   rw [r2, rdEvents_succ, ← Nat.add_assoc]
   rw [push_cons, push_cons]
end
end Go.Gd
namespace Go.Gd
open Go Go.Gw
abbrev Tys := T (TypeInfo × TypeDesc)
def TysOk (P : Program) (ty : Tys) : Prop := ∀ t x, ty.get t = some x → P.info? t = some x.1 ∧ P.underlying t = some x.2
def aggD : TypeDesc → Bool
 | .struct _ | .array _ _ => true
 | _ => false
section
variable {P : Program} {t : TypeId} {i : TypeInfo} {d : TypeDesc} {w : World} {es : Array Event}
theorem bind_def {α β : Type} (s : Sem α) (f : α → Sem β) : (s >>= f) = s.bind f := rfl
theorem pure_def {α : Type} (a : α) : (pure a : Sem α) = .pure a := rfl
theorem runT_bind {α β : Type} (P : Program) : ∀ (s : Sem α) (f : α → Sem β) (w : World) (es : Array Event), (s.bind f).runT P w es = match s.runT P w es with
  | (.ok a w', es') => (f a).runT P w' es'
  | (.halt h w', es') => (.halt h w', es')
 | .pure a, f, w, es => rfl
 | .load m a k, f, w, es => by
  simp only [Sem.bind, Sem.runT]
  split
  ·exact runT_bind P _ f w _
  ·split
   ·exact runT_bind P _ f w _
   ·rfl
 | .store m a v k, f, w, es => by
  cases v <;> simp only [Sem.bind, Sem.runT] <;> first | rfl | skip
  all_goals
   split
   ·split
    ·rfl
    ·exact runT_bind P k f _ _
   ·split
    ·exact runT_bind P k f _ _
    ·rfl
 | .new o k, f, w, es => by simp only [Sem.bind, Sem.runT]; exact runT_bind P _ f _ es
 | .shape r k, f, w, es => by simp only [Sem.bind, Sem.runT]; exact runT_bind P _ f w es
 | .freeze a n k, f, w, es => by simp only [Sem.bind, Sem.runT]; exact runT_bind P k f _ es
 | .frozen a k, f, w, es => by simp only [Sem.bind, Sem.runT]; exact runT_bind P _ f w es
 | .getObj r k, f, w, es => by
  simp only [Sem.bind, Sem.runT]
  split
  ·rfl
  ·exact runT_bind P _ f w _
  ·rfl
 | .setObj r o k, f, w, es => by
  simp only [Sem.bind, Sem.runT]
  split
  ·rfl
  ·exact runT_bind P k f _ _
  ·rfl
 | .choose q k, f, w, es => by
  simp only [Sem.bind, Sem.runT]
  split
  ·exact runT_bind P _ f w es
  ·exact runT_bind P _ f _ es
 | .sys c k, f, w, es => by simp only [Sem.bind, Sem.runT]; exact runT_bind P _ f _ _
 | .program k, f, w, es => by simp only [Sem.bind, Sem.runT]; exact runT_bind P _ f w es
 | .mark m k, f, w, es => by simp only [Sem.bind, Sem.runT]; exact runT_bind P k f w _
 | .halt h, f, w, es => rfl
theorem runT_ok {α β : Type} {s : Sem α} {f : α → Sem β} {w w' : World} {es es' : Array Event} {a : α} (h : s.runT P w es = (.ok a w', es')) : (s.bind f).runT P w es = (f a).runT P w' es' := by
 rw [runT_bind, h]
theorem runT_info (h : P.info? t = some i) : (typeInfo t).runT P w es = (.ok i w, es) := by
 show (match P.info? t with | some i => pure i | none => stuck "no such type" : Sem TypeInfo).runT P w es = _
 rw [h]; rfl
theorem runT_und (h : P.underlying t = some d) : (underlying t).runT P w es = (.ok d w, es) := by
 show (match P.underlying t with | some d => pure d | none => stuck "no such type" : Sem TypeDesc).runT P w es = _
 rw [h]; rfl
theorem runT_size (h : P.info? t = some i) : (sizeOf t).runT P w es = (.ok i.size w, es) := by
 show ((typeInfo t).bind fun i => pure i.size).runT P w es = _
 rw [runT_ok (runT_info h)]; rfl
theorem runT_isAgg (h : P.underlying t = some d) : (isAgg t).runT P w es = (.ok (aggD d) w, es) := by
 show ((underlying t).bind fun d => match d with | .struct _ | .array _ _ => pure true | _ => pure false).runT P w es = _
 rw [runT_ok (runT_und h)]
 cases d <;> rfl
end
def RdOnly (b lo hi : Nat) (l : List Event) : Prop := ∀ e ∈ l, ∃ k, lo ≤ k ∧ k < hi ∧ e = ⟨.cell ⟨b, k, none⟩, false, false⟩
theorem rdEvents_only (b off n : Nat) : RdOnly b off (off + n) (rdEvents b off n) := by
 intro e he
 obtain ⟨k, hk, rfl⟩ := List.mem_map.1 he
 rw [List.mem_range] at hk
 exact ⟨off + k, by omega, by omega, rfl⟩
def pload (ty : Tys) (H : PH) (t : TypeId) (a : Addr) : Option Value :=
 match ty.get t with
 | some (i, d) => match H.t.get a.block with
  | some (.cells c size _ _ _ _ true _) => match a.spot with
   | none => cond (aggD d) (cond (Nat.ble (a.off + i.size) size) (match cellsFrom c a.off i.size with | some l => some (.agg l.toArray) | none => none) none) (cond (Nat.ble (a.off + 1) size) (c.get a.off) none)
   | _ => none
  | _ => none
 | none => none
section
variable {P : Program} {ty : Tys} {ρ : Ren} {H : PH} {c : Ctx} {w : World}
theorem run_load (hty : TysOk P ty) (h : HR ρ H c w) {t : TypeId} {a : Addr} {v : Value} (hp : pload ty H t a = some v) {B : RB} (hB : ρ a.block = some B) (es : Array Event) :
  ∃ v' l, VR ρ v v' ∧ (loadVar t { a with block := B.blk }).runT P w es = (.ok v' w, es ++ l.toArray) ∧ (∃ lo hi size, hi ≤ size ∧ RdOnly B.blk lo hi l ∧ (c.M B.blk ∨ ∀ k, k < size → c.R ⟨B.blk, k, none⟩)) := by
 unfold pload at hp
 cases e1 : ty.get t with
 | none => rw [e1] at hp; cases hp
 | some x =>
  obtain ⟨i, d⟩ := x
  obtain ⟨hi, hd⟩ := hty t _ e1
  rw [e1] at hp
  simp only at hp
  cases e2 : H.t.get a.block with
  | none => rw [e2] at hp; cases hp
  | some o =>
   rw [e2] at hp
   have hr := h.rel _ _ _ hB e2
   cases o with
   | obj o => cases hp
   | cells tr size elem es' own fam ok ice =>
    cases ok with
    | false => cases hp
    | true =>
     obtain ⟨blk, off, spot⟩ := a
     cases spot with
     | some s => cases hp
     | none =>
      simp only at hp hB hr ⊢
      cases hr with
      | cells hs he hf hle hown hR hok =>
       have hok := hok rfl
       have own' : c.M B.blk ∨ ∀ k, k < size → c.R ⟨B.blk, k, none⟩ := by
        cases own with
        | true => exact .inl (hown rfl).1
        | false => exact .inr (hR rfl rfl)
       have base : (loadVar t ⟨B.blk, off, none⟩).runT P w es = (if aggD d = true then (do pure (.agg (← loadCells ⟨B.blk, off, none⟩ (← sizeOf t))) : Sem Value) else load ⟨B.blk, off, none⟩).runT P w es := by
        show ((isAgg t).bind fun b => if b = true then _ else _).runT P w es = _
        rw [runT_ok (runT_isAgg hd)]
       cases ea : aggD d with
       | true =>
        rw [ea] at hp base
        simp only [cond_true] at hp
        simp only [if_true] at base
        cases eb : Nat.ble (off + i.size) size with
        | false => rw [eb] at hp; cases hp
        | true =>
         rw [eb] at hp
         simp only [cond_true] at hp
         have hle' := Nat.le_of_ble_eq_true eb
         cases ec : cellsFrom tr off i.size with
         | none => rw [ec] at hp; cases hp
         | some l =>
          rw [ec] at hp
          simp only [Option.some.injEq] at hp
          subst hp
          obtain ⟨l', r1, r2⟩ := runT_loadCellsFrom (P := P) hok i.size 0 off l #[] es (by omega) (by rw [Nat.add_zero]; exact ec)
          refine ⟨.agg l'.toArray, rdEvents B.blk off i.size, .agg (by simpa using r1), ?_, off, off + i.size, size, hle', rdEvents_only _ _ _, own'⟩
          rw [base]
          show ((sizeOf t).bind fun n => (loadCells ⟨B.blk, off, none⟩ n).bind fun cs => pure (Value.agg cs)).runT P w es = _
          rw [runT_ok (runT_size hi)]
          rw [runT_ok (s := loadCells ⟨B.blk, off, none⟩ i.size) r2]
          show (Result.ok (Value.agg (#[] ++ l'.toArray)) w, _) = _
          simp
       | false =>
        rw [ea] at hp base
        simp only [cond_false] at hp
        simp only [Bool.false_eq_true, if_false] at base
        cases eb : Nat.ble (off + 1) size with
        | false => rw [eb] at hp; cases hp
        | true =>
         rw [eb] at hp
         simp only [cond_true] at hp
         have hle' := Nat.le_of_ble_eq_true eb
         obtain ⟨u, u', g1, g2, g3⟩ := hok off (by omega)
         rw [g1] at hp
         simp only [Option.some.injEq] at hp
         subst hp
         refine ⟨u', [⟨.cell ⟨B.blk, off, none⟩, false, false⟩], g3, ?_, off, off + 1, size, hle', ?_, own'⟩
         ·rw [base]
          show (Sem.load .plain ⟨B.blk, off, none⟩ .pure).runT P w es = _
          simp only [Sem.runT, g2]
          rfl
         ·intro e he
          simp at he
          exact ⟨off, by omega, by omega, he⟩
end
end Go.Gd
namespace Go.Gd
open Go Go.Gw
def flatV : Value → Bool
 | .agg _ | .tuple _ => false
 | _ => true
def setFrom (l : List Value) : T Value → Nat → T Value :=
 List.rec (motive := fun _ => T Value → Nat → T Value) (fun t _ => t) (fun v _ ih t off => ih (t.set off v) (off + 1)) l
theorem setFrom_cons (v : Value) (l : List Value) (t : T Value) (off : Nat) : setFrom (v :: l) t off = setFrom l (t.set off v) (off + 1) := rfl
theorem cell_setCell {w : World} {b k : Nat} {v u : Value} {j : Nat} {b' : Nat} (h : w.cell? ⟨b, k, none⟩ = some u) : (w.setCell ⟨b, k, none⟩ v).cell? ⟨b', j, none⟩ = if b' = b ∧ j = k then some v else w.cell? ⟨b', j, none⟩ := by
 unfold World.cell? at h ⊢
 unfold World.setCell
 simp only [Array.getElem?_modify]
 by_cases e : b = b'
 ·subst e
  rw [if_pos rfl]
  cases hh : w.heap[b]? with
  | none => rw [hh] at h; cases h
  | some o =>
   rw [hh] at h
   cases o with
   | cells cs elem fr =>
    simp only [Option.map_some, Option.isSome_none, Bool.false_eq_true, if_false, true_and] at h ⊢
    have hlt : k < cs.size := (Array.getElem?_eq_some_iff.1 h).1
    by_cases e' : j = k
    ·subst e'; rw [if_pos rfl, Array.getElem?_setIfInBounds_self_of_lt hlt]
    ·rw [if_neg e', Array.getElem?_setIfInBounds_ne (fun x => e' x.symm)]
   | _ => simp at h
 ·rw [if_neg e, if_neg fun x => e x.1.symm]
theorem frozen_setCell (w : World) (a : Addr) (v : Value) (a' : Addr) : (w.setCell a v).frozen? a' = w.frozen? a' := by
 unfold World.frozen? World.setCell
 simp only [Array.getElem?_modify]
 by_cases e : a.block = a'.block
 ·rw [if_pos e]
  cases h : w.heap[a'.block]? with
  | none => rfl
  | some o => cases o <;> rfl
 ·rw [if_neg e]
section
variable {ρ : Ren} {H H' : PH} {c : Ctx} {w : World}
theorem heap_setCell_ne {w : World} {a : Addr} {v : Value} {b : Nat} (h : b ≠ a.block) : (w.setCell a v).heap[b]? = w.heap[b]? := by
 simp only [World.setCell, Array.getElem?_modify]
 rw [if_neg fun e => h e.symm]
structure COk (c : Ctx) (w : World) : Prop where
 ml : ∀ b, c.M b → b < w.heap.size
 rl : ∀ a, c.R a → a.block < w.heap.size
 rm : ∀ a, c.R a → ¬ c.M a.block
theorem HR.setCell (h : HR ρ H c w) {b k size : Nat} {B : RB} {t : T Value} {elem : TypeId} {es : Nat} {v v' : Value} (hB : ρ b = some B) (ho : H.t.get b = some (.cells t size elem es true 0 true false)) (hk : k < size) (hd : k < 2 ^ T.deep) (hv : VR ρ v v')
  (hn : H'.next = H.next) (hng : H'.ng = H.ng) (hfm : H'.fams = H.fams) (h1 : H'.t.get b = some (.cells (t.set k v) size elem es true 0 true false)) (h2 : ∀ b', b' ≠ b → H'.t.get b' = H.t.get b') : HR ρ H' c (w.setCell ⟨B.blk, k, none⟩ v') := by
 have hr := h.rel _ _ _ hB ho
 cases hr with
 | cells hs he hf hle hown hR hok =>
  obtain ⟨u, u', g1, g2, g3⟩ := hok rfl k hk
  have hM := (hown rfl).1
  have sz : (w.setCell ⟨B.blk, k, none⟩ v').heap.size = w.heap.size := by simp [World.setCell]
  refine ⟨by rw [hn]; exact h.cap, fun b' B' hb' => by rw [hn, sz]; exact h.dom b' B' hb', fun b' B' o hb' hg => ?_, fun b₁ b₂ B₁ B₂ e1 e2 hne hblk => ?_, by rw [hng]; exact h.glob, fun b₁ B₁ o hb₁ hg hf₁ hok₁ => ?_⟩
  ·by_cases e : b' = b
   ·subst e
    rw [hB] at hb'; cases hb'
    rw [h1] at hg; cases hg
    refine .cells ((shape_setCell _ _ _ _).trans hs) he hf hle (fun _ => ⟨hM, fun _ off => by rw [frozen_setCell]; exact (hown rfl).2 rfl off⟩) hR (fun _ j hj => ?_)
    rw [cell_setCell g2, T.get_set _ _ _ _ hd]
    by_cases e : j = k
    ·subst e
     exact ⟨v, v', by rw [if_pos rfl], by rw [if_pos ⟨rfl, rfl⟩], hv⟩
    ·obtain ⟨x, x', y1, y2, y3⟩ := hok rfl j hj
     exact ⟨x, x', by rw [if_neg e]; exact y1, by rw [if_neg fun z => e z.2]; exact y2, y3⟩
   ·rw [h2 b' e] at hg
    have hne : B'.blk ≠ B.blk := fun eb => by
     rcases h.inj b' b B' B hb' hB e eb with ⟨o1, o2, p1, p2, p3, p4⟩ | ⟨_, q⟩
     ·rw [ho] at p2; cases p2
      rw [p4] at p3
      exact p3 rfl
     ·cases q _ ho
    have hr' := h.rel _ _ _ hb' hg
    cases hr' with
    | cells hs he hf hle hown' hR' hok' =>
     refine .cells ((shape_setCell _ _ _ _).trans hs) he hf hle (fun e => ⟨(hown' e).1, fun ei off => by rw [frozen_setCell]; exact (hown' e).2 ei off⟩) hR' (fun e j hj => ?_)
     obtain ⟨x, x', y1, y2, y3⟩ := hok' e j hj
     exact ⟨x, x', y1, by rw [cell_setCell g2, if_neg fun z => hne z.1]; exact y2, y3⟩
    | obj hw hobj hM' => exact .obj ((heap_setCell_ne hne).trans hw) hobj hM'
  ·rcases h.inj b₁ b₂ B₁ B₂ e1 e2 hne hblk with ⟨o1, o2, p1, p2, p3, p4⟩ | ⟨q1, q2⟩
   ·have nb : ∀ {x : Nat} {o : PObj}, H.t.get x = some o → o.fam ≠ 0 → x ≠ b := fun hx hf e => by
     rw [e, ho] at hx; cases hx; exact hf rfl
    exact .inl ⟨o1, o2, by rw [h2 _ (nb p1 p3)]; exact p1, by rw [h2 _ (nb p2 (by rw [← p4]; exact p3))]; exact p2, p3, p4⟩
   ·have st : ∀ {x : Nat}, H.still x → H'.still x := fun {x} hs z hz => by
     by_cases e : x = b
     ·subst e; cases hs _ ho
     ·rw [h2 _ e] at hz; exact hs z hz
    exact .inr ⟨st q1, st q2⟩
  ·rw [hfm]
   by_cases e : b₁ = b
   ·rw [e, h1] at hg; cases hg
    exact absurd rfl hf₁
   ·rw [h2 b₁ e] at hg
    exact h.mem b₁ B₁ o hb₁ hg hf₁ hok₁
theorem HR.congr (h : HR ρ H c w) (hn : H'.next = H.next) (hng : H'.ng = H.ng) (hfm : H'.fams = H.fams) (hg : ∀ b, H'.t.get b = H.t.get b) : HR ρ H' c w :=
 ⟨by rw [hn]; exact h.cap, fun b B hb => by rw [hn]; exact h.dom b B hb, fun b B o hb ho => h.rel b B o hb (by rw [← hg]; exact ho), fun b b' B B' e1 e2 hne hb => by
  rcases h.inj b b' B B' e1 e2 hne hb with ⟨o, o', p1, p2, p3⟩ | ⟨q1, q2⟩
  ·exact .inl ⟨o, o', by rw [hg]; exact p1, by rw [hg]; exact p2, p3⟩
  ·exact .inr ⟨fun z hz => q1 z (by rw [← hg]; exact hz), fun z hz => q2 z (by rw [← hg]; exact hz)⟩, by rw [hng]; exact h.glob, fun b B o hb ho => by rw [hfm]; exact h.mem b B o hb (by rw [← hg]; exact ho)⟩
structure Only (b : Nat) (w w' : World) : Prop where
 tape : w'.tape = w.tape
 os : w'.os = w.os
 output : w'.output = w.output
 size : w'.heap.size = w.heap.size
 shape : ∀ x, w'.shape? x = w.shape? x
 keep : ∀ x, x ≠ b → w'.heap[x]? = w.heap[x]?
theorem Only.refl (b : Nat) (w : World) : Only b w w := ⟨rfl, rfl, rfl, rfl, fun _ => rfl, fun _ _ => rfl⟩
theorem Only.trans {b : Nat} {w w' w'' : World} (h : Only b w w') (h' : Only b w' w'') : Only b w w'' :=
 ⟨h'.tape.trans h.tape, h'.os.trans h.os, h'.output.trans h.output, h'.size.trans h.size, fun x => (h'.shape x).trans (h.shape x), fun x hx => (h'.keep x hx).trans (h.keep x hx)⟩
theorem Only.setCell (b k : Nat) (w : World) (v : Value) : Only b w (w.setCell ⟨b, k, none⟩ v) := ⟨rfl, rfl, rfl, by simp [World.setCell], fun x => shape_setCell _ _ _ _, fun x hx => heap_setCell_ne hx⟩
def WrOnly (b : Nat) (l : List Event) : Prop := ∀ e ∈ l, ∃ k, e = ⟨.cell ⟨b, k, none⟩, true, false⟩
theorem flat_run {P : Program} {v : Value} (h : flatV v = true) (m : Mode) (a : Addr) (k : Sem Unit) {w : World} {u : Value} (hu : w.cell? a = some u) (hf : w.frozen? a = false) (es : Array Event) : (Sem.store m a v k).runT P w es = k.runT P (w.setCell a v) (es.push ⟨.cell a, true, m == .atomic⟩) := by
 cases v with
 | agg xs => cases h
 | tuple xs => cases h
 | _ => simp only [Sem.runT, hu, hf, Bool.false_eq_true, if_false]
theorem flat_VR {v v' : Value} (h : VR ρ v v') (hf : flatV v = true) : flatV v' = true := by
 cases h with
 | agg h => cases hf
 | tuple h => cases hf
 | _ => rfl
theorem run_storeCells {P : Program} {b : Nat} {B : RB} (hB : ρ b = some B) {size : Nat} {elem : TypeId} {es : Nat} : ∀ {l l' : List Value}, VRL ρ l l' → ∀ (t : T Value) (off i : Nat) (H : PH) (w : World) (evs : Array Event), HR ρ H c w →
  H.t.get b = some (.cells t size elem es true 0 true false) → l.all flatV = true → off + i + l.length ≤ size → size ≤ 2 ^ T.deep →
  ∃ w' ev, (storeCells ⟨B.blk, off, none⟩ l' i).runT P w evs = (.ok () w', evs ++ ev.toArray) ∧ WrOnly B.blk ev ∧ HR ρ { H with t := H.t.set b (.cells (setFrom l t (off + i)) size elem es true 0 true false) } c w' ∧ Only B.blk w w'
 | _, _, .nil, t, off, i, H, w, evs, h, ho, _, _, _ => by
  have hb : b < 2 ^ T.deep := Nat.lt_of_lt_of_le (h.dom b B hB).1 h.cap
  refine ⟨w, [], ?_, (fun e he => by cases he), h.congr rfl rfl rfl fun x => ?_, .refl _ _⟩
  ·simp only [storeCells]
   show (Result.ok () w, _) = _
   simp
  show (H.t.set b (.cells t size elem es true 0 true false)).get x = _
  rw [T.get_set _ _ _ _ hb]
  by_cases e : x = b
  ·subst e; rw [if_pos rfl, ho]
  ·rw [if_neg e]
 | _, _, .cons (v := v) (v' := v') (l := l) (l' := l') hv hl, t, off, i, H, w, evs, h, ho, hf, hle, hsz => by
  have hb : b < 2 ^ T.deep := Nat.lt_of_lt_of_le (h.dom b B hB).1 h.cap
  simp only [List.all_cons, Bool.and_eq_true] at hf
  simp only [List.length_cons] at hle
  have hr := h.rel _ _ _ hB ho
  cases hr with
  | cells hs he hfm hle' hown hR hok =>
   obtain ⟨u, u', g1, g2, g3⟩ := hok rfl (off + i) (by omega)
   have hfz := (hown rfl).2 rfl (off + i)
   have h1 : HR ρ { H with t := H.t.set b (.cells (t.set (off + i) v) size elem es true 0 true false) } c (w.setCell ⟨B.blk, off + i, none⟩ v') :=
    h.setCell hB ho (by omega) (by omega) hv rfl rfl rfl (by show (H.t.set b _).get b = _; rw [T.get_set _ _ _ _ hb, if_pos rfl]) (fun b' hb' => by show (H.t.set b _).get b' = _; rw [T.get_set _ _ _ _ hb, if_neg hb'])
   obtain ⟨w', ev, r1, r2, r3, r4⟩ := run_storeCells hB (P := P) hl (t.set (off + i) v) off (i + 1) _ _ (evs.push ⟨.cell ⟨B.blk, off + i, none⟩, true, false⟩) h1 (by show (H.t.set b _).get b = _; rw [T.get_set _ _ _ _ hb, if_pos rfl]) hf.2 (by omega) hsz
   refine ⟨w', ⟨.cell ⟨B.blk, off + i, none⟩, true, false⟩ :: ev, ?_, ?_, ?_, (Only.setCell _ _ _ _).trans r4⟩
   ·show (Sem.store .plain ((⟨B.blk, off, none⟩ : Addr).add i) v' ((Sem.pure ()).bind fun _ => storeCells ⟨B.blk, off, none⟩ l' (i + 1))).runT P w evs = _
    rw [add_off, flat_run (flat_VR hv hf.1) .plain _ _ g2 hfz]
    show (storeCells ⟨B.blk, off, none⟩ l' (i + 1)).runT P (w.setCell ⟨B.blk, off + i, none⟩ v') (evs.push ⟨.cell ⟨B.blk, off + i, none⟩, true, false⟩) = _
    rw [r1, push_cons]
   ·intro e he
    rcases List.mem_cons.1 he with rfl | he
    ·exact ⟨_, rfl⟩
    ·exact r2 e he
   ·refine r3.congr rfl rfl rfl fun x => ?_
    show (H.t.set b (.cells (setFrom (v :: l) t (off + i)) size elem es true 0 true false)).get x = ((H.t.set b (.cells (t.set (off + i) v) size elem es true 0 true false)).set b (.cells (setFrom l (t.set (off + i) v) (off + (i + 1))) size elem es true 0 true false)).get x
    rw [T.get_set _ _ _ _ hb, T.get_set _ _ _ _ hb, T.get_set _ _ _ _ hb, setFrom_cons, Nat.add_assoc]
    by_cases e : x = b
    ·rw [if_pos e, if_pos e]
    ·rw [if_neg e, if_neg e, if_neg e]
end
end Go.Gd
end
