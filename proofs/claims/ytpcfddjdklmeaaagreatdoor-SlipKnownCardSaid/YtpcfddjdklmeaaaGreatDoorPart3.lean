/- A part of the proof of SlipKnown: no condition of its own. -/
import Derived.Test.YtpcfddjdklmeaaaGreatDoorPart2
noncomputable section
namespace Go.Gd
open Go Go.Gw Go.Conc
section
variable {P : Program} {ty : TypeId} {tys : Tys} {Post : Value → World → Prop} {main : Bool} {n : Nat} {E : Env} {ρ : Ren} {s : DS} {c : Ctx} {g : Goroutine} {w : World}
theorem MdR.run_inv {a b : FrameMode} (h : MdR ρ a b) : (a = .run → b = .run) ∧ (a = .returning → b = .returning) := by
 cases h with
 | run => exact ⟨fun _ => rfl, (fun e => by cases e)⟩
 | returning => exact ⟨(fun e => by cases e), fun _ => rfl⟩
 | panicking _ => exact ⟨(fun e => by cases e), (fun e => by cases e)⟩
theorem Reach.frames (_hb : main = true ∨ E.send ≠ none) {fr' : PF} {cs' : List PF}
  (hst : ∀ (E : Env) ρ c fr cs pd pds w, FrR ρ s.fr fr pd → FsR ρ s.cs cs pds → HR ρ s.H c w → COk c w → ∃ fr₁ cs₁ pd₁ pds₁ ev, FrR ρ fr' fr₁ pd₁ ∧ FsR ρ cs' cs₁ pds₁ ∧ (pd₁ ++ pds₁).Sublist (pd ++ pds) ∧ RdIn c ev ∧ stepG P main (G fr (cs ++ E.base)) w = .go (G fr₁ (cs₁ ++ E.base)) w (seen P fr.fn ev.toArray)) :
  Reach P ty Post main E s { s with fr := fr', cs := cs' } := by
 refine ⟨1, fun E hb n hn ρ c g w h => ?_⟩
 cases h with
 | mk hf hc hnd hpn hH hok hdd h1 h2 h3 hkp =>
  rename_i fr cs pd pds
  refine W.dpriv rfl (hb.imp id fun e => by rw [h1]; exact e) fun w₁ r => ?_
  obtain ⟨fr₁, cs₁, pd₁, pds₁, ev, q1, q2, q3, q4, q5⟩ := hst E ρ c fr cs pd pds w₁ hf hc (hH.rely r) (hok.rely r)
  have hsub := seen_sub P fr.fn ev.toArray
  have hdf : deafBehind c.d (seen P fr.fn ev.toArray) = c.d := deaf_neut _ _ fun e he => q4.neut e (hsub e he)
  refine ⟨_, w₁, _, c.M, c.R, q5, rfl, Guar.refl (hok.rely r), fun e he => q4.foot w₁ e (hsub e he), ?_⟩
  rw [hdf]
  exact hn ρ c _ w₁ (.mk q1 q2 (hnd.sublist q3) (fun b hb => hpn b (q3.subset hb)) (hH.rely r) (hok.rely r) hdd h1 h2 h3 (hkp.rely r))
theorem stepG_apply {fr : Frame} {cs : List Frame} {w : World} {all : Array Oper} {i : Nat} {rest : List Nat} {m : List Item} {o : Oper} (hr : fr.mode = .run) (ht : fr.todo = .inRegion all (i :: rest) :: m) (ho : all[i]? = some o) (hw : Region.wanted o (yielded all fr.tmps) = true) (hd : ∀ c, o.op = .defer c → fr.roundOf = none) :
  stepG P main (G fr cs) w = stepG.apply P true fr cs none (execOp fr.eval o) w := stepG_exec hr ht ho hw hd
def pdeferred (ng : Nat) (pf : PF) (o : Oper) (c : Call) : Option Deferred :=
 match pevals ng pf c.args.toList with
 | some vs => match c.callee with
  | .value f => match peval ng pf f with
   | some (.func fn xs ys) => match fn with
    | .func g => some ⟨.fn (.func g) ys, (xs.toList ++ vs).toArray⟩
    | _ => none
   | _ => none
  | .builtin b => some ⟨.builtin b c.argTypes o.type (c.args.map fun | .const _ => true | _ => false), vs.toArray⟩
  | _ => none
 | none => none
theorem deferred_rel {pf : PF} {fr : Frame} {H : PH} {o : Oper} (h : EvR H.ng ρ pf fr o) {cl : Call} (ho : o.op = .defer cl) {d : Deferred} (hp : pdeferred H.ng pf o cl = some d) : ∃ d', DfR ρ d d' ∧ (execOp fr.eval o).runT P w #[] = (.ok (.defer d') w, #[]) := by
 unfold pdeferred at hp
 split at hp
 ·rename_i vs e1
  have h2 := pevals_VR h (fun z hz => by rw [ho]; simp [Op.operands, Call.operands] at hz ⊢; exact .inr hz) e1
  obtain ⟨callee, as, ats⟩ := cl
  simp only at hp h2
  cases callee with
  | value f =>
   simp only at hp
   split at hp
   ·rename_i fn xs ys e2
    have h1 := h f (by simp [ho, Op.operands, Call.operands]) _ e2
    split at hp
    ·rename_i g
     simp only [Option.some.injEq] at hp
     subst hp
     generalize hev : fr.eval f = u at h1
     cases h1 with
     | func hfn hxs hys =>
      rename_i fn' xs' ys'
      cases hfn
      refine ⟨⟨.fn (.func g) ys', xs' ++ as.map fr.eval⟩, .mk (.fn (.func g) hys) (by simpa using hxs.append h2), ?_⟩
      unfold execOp
      rw [ho]
      simp only [resolve, hev]
      rfl
    ·cases hp
   ·cases hp
  | invoke r nm => cases hp
  | builtin b =>
   simp only [Option.some.injEq] at hp
   subst hp
   refine ⟨_, .mk (.builtin b ats o.type _) (xs' := as.map fr.eval) (by simpa using h2), ?_⟩
   unfold execOp
   rw [ho]
   rfl
 ·cases hp
theorem Reach.defer (hb : main = true ∨ E.send ≠ none) (hm : s.fr.mode = .run) {all : Array Oper} {i : Nat} {o : Oper} {l : List Oper} {k : List PItem} (ht : s.fr.todo = .ops all i (o :: l) :: k) (hk : s.fr.kind ≠ .early) {cl : Call} (hop : o.op = .defer cl) (hrd : s.fr.round = none)
  (hw : pwanted s.fr all o = some true) {d : Deferred} (hd : pdeferred s.H.ng s.fr o cl = some d) {tm : T Value} (hp : pput s.fr o.dst undef = some tm) :
  Reach P ty Post main E s { s with fr := { s.fr with tmps := tm, todo := .ops all (i + 1) l :: k, defers := d :: s.fr.defers } } := by
 refine Reach.frames (cs' := s.cs) hb fun E ρ c fr cs pd pds w hf hc hH hok => ?_
 obtain ⟨hpd, ho, hvt, rest, m, e, hkm, hit⟩ := hf.ops ht
 obtain ⟨d', d1, d2⟩ := deferred_rel (P := P) (w := w) (EvR.of hvt hH o) hop hd
 have hround : fr.roundOf = none := by
  have := hf.round
  rw [hrd] at this
  generalize fr.roundOf = b at this
  cases this; rfl
 have hput := hf.put ht hp (v' := undef) (.tuple .nil)
 have hfd : FrR ρ { s.fr with tmps := tm, todo := .ops all (i + 1) l :: k, defers := d :: s.fr.defers } (({ fr with defers := d' :: fr.defers } : Frame).finish undef) [] := by
  have e1 : ({ fr with defers := d' :: fr.defers } : Frame).finish undef = { fr.finish undef with defers := d' :: fr.defers } := by
   rw [finish_region (fr := { fr with defers := d' :: fr.defers }) e ho, finish_region e ho]
  rw [e1]
  exact ⟨hput.fn, hput.size, hput.todo, .cons d1 hf.defers, hput.mode, hput.kind, hput.round⟩
 refine ⟨_, cs, [], pds, [], hfd, hc, by subst hpd; simp, (fun e he => by cases he), ?_⟩
 rw [stepG_apply (FrR.run hf hm) e ho (wanted_of (fun _ _ t v _ _ hv => hvt t v hv) hw) (fun _ _ => hround)]
 unfold stepG.apply
 have hke : (fr.kind == CallKind.early) = false := by
  have : fr.kind ≠ .early := by rw [hf.kind]; exact hk
  simpa using this
 simp only [if_true, d2, hke]
 rfl
theorem stepG_unwind {fr : Frame} {cs : List Frame} {w : World} (hr : fr.mode ≠ .run) : stepG P main (G fr cs) w = unwind P main fr cs none w := by
 unfold stepG G
 cases hm : fr.mode with
 | run => exact absurd hm hr
 | returning => simp only [hm]
 | panicking l => simp only [hm]
theorem MdR.ne_run {a b : FrameMode} (h : MdR ρ a b) (ha : a ≠ .run) : b ≠ .run := by
 cases h with
 | run => exact absurd rfl ha
 | returning => simp
 | panicking _ => simp
theorem Reach.callDeferred (hb : main = true ∨ E.send ≠ none) (hm : s.fr.mode ≠ .run) {f : FuncId} {ys : Array Value} {as : Array Value} {ds : List Deferred} (hd : s.fr.defers = ⟨.fn (.func f) ys, as⟩ :: ds) {fn : Func} {body : Code} (hf : P.funcs[f]? = some fn) (hbd : fn.body = some body) (hpe : penterable fn = true) (hlen : as.size + ys.size ≤ 2 ^ T.deep) :
  Reach P ty Post main E s { s with fr := penter f fn body (as.toList ++ ys.toList) .deferred, cs := { s.fr with defers := ds } :: s.cs } := by
 refine Reach.frames hb fun E ρ c fr cs pd pds w hfr hc hH hok => ?_
 have hdf := hfr.defers
 rw [hd] at hdf
 obtain ⟨d', ds', e1, hd1, hds⟩ := hdf.cons_inv
 cases hd1 with
 | mk ht hx =>
  rename_i t' xs'
  cases ht with
  | fn hfn hys =>
   rename_i fn' ys'
   cases hfn
   refine ⟨Frame.enter P f (xs' ++ ys') .deferred, { fr with defers := ds' } :: cs, [], pd ++ pds, [], FrR.enter hf hbd (by simpa using hx.append hys) (by simpa using hlen) .deferred, .cons ⟨hfr.fn, hfr.size, hfr.todo, hds, hfr.mode, hfr.kind, hfr.round⟩ hc, by simp, (fun e he => by cases he), ?_⟩
   rw [stepG_unwind (hfr.mode.ne_run hm)]
   unfold unwind
   simp only [e1]
   unfold Go.callDeferred
   have hinv : invoke (.fn (.func f) ys') xs' = callFunc f (xs' ++ ys') := rfl
   rw [hinv, run_callFunc hf hpe]
   rfl
theorem Reach.deferredOp (_hb : main = true ∨ E.send ≠ none) (hm : s.fr.mode ≠ .run) {b : Builtin} {ats : Array TypeId} {t : TypeId} {cs0 : Array Bool} {as : Array Value} {ds : List Deferred} (hd : s.fr.defers = ⟨.builtin b ats t cs0, as⟩ :: ds) {v : Value} {H' : PH} (hnx : s.H.next ≤ H'.next)
  (hs : ∀ ρ c w₁ as', VRL ρ as.toList as'.toList → HR ρ s.H c w₁ → COk c w₁ → Sound P ρ s.H.next v H' c w₁ (builtin b ats t cs0 as')) :
  Reach P ty Post main E s { s with fr := { s.fr with defers := ds }, H := H' } := by
 refine ⟨1, fun E hb n hn ρ c g w h => ?_⟩
 cases h with
 | mk hf hc hnd hpn hH hok hdd h1 h2 h3 hkp =>
  rename_i fr cs pd pds
  refine W.dpriv rfl (hb.imp id fun e => by rw [h1]; exact e) fun w₁ r => ?_
  have hH1 := hH.rely r
  have hok1 := hok.rely r
  have hdf := hf.defers
  rw [hd] at hdf
  obtain ⟨d', ds', e1, hd1, hds⟩ := hdf.cons_inv
  cases hd1 with
  | mk htg hx =>
   rename_i t' xs'
   cases htg with
   | builtin _ _ _ _ =>
    obtain ⟨ρ', M', R', v', w', es, a1, a2, a3, a4, a5, a6, a7, a8, a9⟩ := hs ρ c w₁ xs' hx hH1 hok1
    have hsub := seen_sub P fr.fn es
    have hst : stepG P main (G fr (cs ++ E.base)) w₁ = .go (G { fr with defers := ds' } (cs ++ E.base)) w' (seen P fr.fn es) := by
     rw [stepG_unwind (hf.mode.ne_run hm)]
     unfold unwind
     simp only [e1]
     unfold Go.callDeferred
     have hinv : invoke (.builtin b ats t cs0) xs' = builtin b ats t cs0 xs' := rfl
     rw [hinv]
     rcases a3 with a3 | ⟨a3, _⟩
     ·rw [a3]; simp only [after_go, Array.append_empty]; rfl
     ·rw [a3]; simp only [after_go, Array.append_empty]; rfl
    have hdf2 : deafBehind c.d (seen P fr.fn es) = c.d := deaf_neut _ _ fun e he => a8 e (hsub e he)
    refine ⟨_, w', _, M', R', hst, rfl, a6, fun e he => a7 e (hsub e he), ?_⟩
    rw [hdf2]
    have hfm := hf.mono a1
    refine hn ρ' { c with M := M', R := R' } _ w' (.mk ⟨hfm.fn, hfm.size, hfm.todo, hds.mono fun _ _ => DfR.mono a1, hfm.mode, hfm.kind, hfm.round⟩ (hc.mono a1) hnd (fun b' hb' => ?_) a4 a5 hdd h1 h2 h3 ((hkp.rely r).step hok1 a6 a9 a1))
    obtain ⟨q1, q2⟩ := hpn b' hb'
    refine ⟨?_, Nat.lt_of_lt_of_le q2 hnx⟩
    cases hx : ρ' b' with
    | none => rfl
    | some B =>
     rcases a9.new b' B hx with h | h
     ·rw [q1] at h; cases h
     ·omega
end
end Go.Gd
namespace Go.Gd
open Go Go.Gw Go.Conc
def pafter : FrameMode → Option FrameMode
 | .panicking (e :: older) => if e.recovered then (match older.dropWhile (fun e => !e.goexit) with
  | [] => some .returning
  | _ => none) else some (.panicking (e :: older))
 | m => some m
def praise (vs : List PanicEntry) : FrameMode → FrameMode
 | .panicking ch => .panicking (vs ++ ch)
 | _ => .panicking vs
section
variable {P : Program} {ty : TypeId} {tys : Tys} {Post : Value → World → Prop} {main : Bool} {n : Nat} {E : Env} {ρ : Ren} {s : DS} {c : Ctx} {g : Goroutine} {w : World}
theorem LR.app {α β : Type} {R : α → β → Prop} {a a' : List α} {b b' : List β} (h : LR R a b) (h' : LR R a' b') : LR R (a ++ a') (b ++ b') := by
 induction h with
 | nil => exact h'
 | cons h _ ih => exact .cons h ih
theorem FrR.raise {pf : PF} {fr : Frame} {pd : List Nat} (h : FrR ρ pf fr pd) {vs : List PanicEntry} {vs' : List PanicEntry} (hv : LR (PeR ρ) vs vs') : FrR ρ { pf with mode := praise vs pf.mode } (fr.raise vs') pd := by
 have hm := h.mode
 have key : ∀ m', m' = fr.mode → ∃ m, fr.raise vs' = { fr with mode := m } ∧ MdR ρ (praise vs pf.mode) m := fun m' e => by
  generalize pf.mode = a at hm
  unfold Frame.raise
  rw [← e] at hm ⊢
  cases hm with
  | run => exact ⟨_, rfl, .panicking hv⟩
  | returning => exact ⟨_, rfl, .panicking hv⟩
  | panicking hl => exact ⟨_, rfl, .panicking (hv.app hl)⟩
 obtain ⟨m, e1, e2⟩ := key _ rfl
 rw [e1]
 exact ⟨h.fn, h.size, h.todo, h.defers, e2, h.kind, h.round⟩
theorem Reach.panic (hb : main = true ∨ E.send ≠ none) (hm : s.fr.mode = .run) {all : Array Oper} {i : Nat} {o : Oper} {l : List Oper} {k : List PItem} (ht : s.fr.todo = .ops all i (o :: l) :: k) (hk : s.fr.kind ≠ .early) {x : Operand} (hop : o.op = .panic x)
  (hw : pwanted s.fr all o = some true) {t : TypeId} {v : Value} (hx : peval s.H.ng s.fr x = some (.iface t v)) : Reach P ty Post main E s { s with fr := { s.fr with mode := .panicking [⟨.iface t v, false, false⟩] } } := by
 refine Reach.frames (cs' := s.cs) hb fun E ρ c fr cs pd pds w hf hc hH hok => ?_
 obtain ⟨hpd, ho, hvt, rest, m, e, hkm, hit⟩ := hf.ops ht
 have h1 := EvR.of hvt hH o x (by simp [hop, Op.operands]) _ hx
 generalize hev : fr.eval x = u at h1
 cases h1 with
 | iface hv =>
  rename_i v'
  have hfr := hf.raise (vs := [⟨.iface t v, false, false⟩]) (.cons (.mk false false (.iface hv)) .nil)
  rw [hm] at hfr
  refine ⟨fr.raise [⟨.iface t v', false, false⟩], cs, pd, pds, [], hfr, hc, by simp, (fun e he => by cases he), ?_⟩
  rw [stepG_apply (FrR.run hf hm) e ho (wanted_of (fun _ _ t v _ _ hv => hvt t v hv) hw) (fun c hc => by rw [hop] at hc; cases hc)]
  have hrun : (execOp fr.eval o).runT P w #[] = (.halt (.panic (.iface t v')) w, #[]) := by
   unfold execOp
   rw [hop]
   simp only [hev]
   rfl
  unfold stepG.apply
  have hke : (fr.kind == CallKind.early) = false := by
   have : fr.kind ≠ .early := by rw [hf.kind]; exact hk
   simpa using this
  simp only [if_true, hrun, hke]
  rfl
theorem Reach.unwound (hb : main = true ∨ E.send ≠ none) {chain : List PanicEntry} (hm : s.fr.mode = .panicking chain) (hd : s.fr.defers = []) {fn : Func} (hf : P.funcs[s.fr.fn]? = some fn) {pf : PF} {cs' : List PF} (hcs : s.cs = pf :: cs') :
  Reach P ty Post main E s { s with fr := { pf with mode := praise chain pf.mode }, cs := cs' } := by
 refine Reach.frames hb fun E ρ c fr cs pd pds w hfr hc hH hok => ?_
 rw [hcs] at hc
 cases hc with
 | cons hc1 hct =>
  rename_i cfr crest pd1 pds1
  have hmode := hfr.mode
  rw [hm] at hmode
  generalize hfm : fr.mode = fm at hmode
  cases hmode with
  | panicking hl =>
   rename_i chain'
   have hdef : fr.defers = [] := by
    have := hfr.defers
    rw [hd] at this
    exact this.nil_inv
   refine ⟨cfr.raise chain', crest, pd1, pds1, [], hc1.raise hl, hct, by simp, (fun e he => by cases he), ?_⟩
   rw [stepG_unwind (by rw [hfm]; simp)]
   unfold unwind
   have hcat : fr.catches P = false := by
    unfold Frame.catches
    rw [hfr.fn, hf]
   simp only [hdef, hfm, hcat]
   have hse : seen P fr.fn (([] : List Event).toArray) = #[] := by rw [seen_def]; rfl
   rw [hse]
   rfl
theorem goexit_rel {a b : List PanicEntry} (h : LR (PeR ρ) a b) : a.dropWhile (fun e => !e.goexit) = [] → b.dropWhile (fun e => !e.goexit) = [] := by
 induction h with
 | nil => exact fun _ => rfl
 | cons h t ih =>
  cases h with
  | mk r g hv =>
   intro e
   rw [List.dropWhile_cons] at e ⊢
   cases g with
   | true => simp at e
   | false => simp only [Bool.not_false, if_true] at e ⊢; exact ih e
theorem after_rel {a b : FrameMode} {m : FrameMode} (h : MdR ρ a b) (hp : pafter a = some m) : ∃ m', MdR ρ m m' ∧ ∀ fr : Frame, fr.mode = b → (match fr.mode with
  | .panicking ({ recovered := true, .. } :: older) =>
   match older.dropWhile (!·.goexit) with
   | [] => { fr with mode := .returning }
   | rest => { fr with mode := .panicking rest }
  | _ => fr) = { fr with mode := m' } := by
 cases h with
 | run =>
  cases hp
  exact ⟨.run, .run, fun fr e => by rw [e]; simp only; rw [← e]⟩
 | returning =>
  cases hp
  exact ⟨.returning, .returning, fun fr e => by rw [e]; simp only; rw [← e]⟩
 | panicking hl =>
  cases hl with
  | nil =>
   cases hp
   exact ⟨.panicking [], .panicking .nil, fun fr e => by rw [e]; simp only; rw [← e]⟩
  | cons h t =>
   cases h with
   | mk r g hv =>
    cases r with
    | true =>
     simp only [pafter, if_true] at hp
     split at hp
     ·rename_i e1
      cases hp
      refine ⟨.returning, .returning, fun fr e => ?_⟩
      rw [e]
      simp only [goexit_rel t e1]
     ·cases hp
    | false =>
     simp only [pafter, Bool.false_eq_true, if_false, Option.some.injEq] at hp
     subst hp
     refine ⟨_, .panicking (.cons (.mk false g hv) t), fun fr e => ?_⟩
     rw [e]
     simp only
     rw [← e]
theorem Reach.retDeferred (hty : TysOk P tys) (hb : main = true ∨ E.send ≠ none) (hm : s.fr.mode = .returning) (hdf : s.fr.defers = []) (hpt : plainTodo s.fr.todo = true) (hk : s.fr.kind = .deferred) {fn : Func} (hf : P.funcs[s.fr.fn]? = some fn) {vs : List Value} (hv : presults tys s.H s.fr.tmps fn.results.toList = some vs)
  {pf : PF} {cs' : List PF} (hcs : s.cs = pf :: cs') {m : FrameMode} (hp : pafter pf.mode = some m) :
  Reach P ty Post main E s { s with fr := { pf with mode := m }, cs := cs' } := by
 refine Reach.frames hb fun E ρ c fr cs pd pds w hfr hc hH hok => ?_
 rw [hcs] at hc
 cases hc with
 | cons hc1 hct =>
  rename_i cfr crest pd1 pds1
  obtain ⟨hpd, _, hvt⟩ := hfr.plain' hpt
  obtain ⟨v', ev, q1, q2, q3⟩ := run_resultsV (P := P) hty hH hvt hv
  have hmode : fr.mode = .returning := hfr.mode.run_inv.2 hm
  have hdef : fr.defers = [] := by
   have := hfr.defers
   rw [hdf] at this
   exact this.nil_inv
  obtain ⟨m', r1, r2⟩ := after_rel hc1.mode hp
  have hst := stepG_ret (P := P) (main := main) (cs := (cfr :: crest) ++ E.base) hmode hdef (by rw [hfr.fn]; exact hf) q3
  have hdo : doReturn P main fr ((cfr :: crest) ++ E.base) none v' w = .go (G { cfr with mode := m' } (crest ++ E.base)) w := by
   have hkn : fr.kind = .deferred := by rw [hfr.kind]; exact hk
   have := r2 cfr rfl
   simp only [doReturn, List.cons_append, hkn, G]
   exact congrArg (fun f : Frame => GStep.go ({ frame := f, callers := crest ++ E.base, status := .running, dying := none } : Goroutine) w) this
  rw [hdo, after_go] at hst
  exact ⟨{ cfr with mode := m' }, crest, pd1, pds1, ev, ⟨hc1.fn, hc1.size, hc1.todo, hc1.defers, r1, hc1.kind, hc1.round⟩, hct, by subst hpd; simp, q2, by simpa using hst⟩
def precover (pf : PF) (cs : List PF) : Option (Value × List PF) :=
 match pf.kind with
 | .deferred => match cs with
  | caller :: rest => match caller.mode with
   | .panicking (e :: older) => cond e.goexit none (cond e.recovered (some (.nilIface, cs)) (some (e.v, { caller with mode := .panicking (⟨e.v, true, false⟩ :: older) } :: rest)))
   | .panicking [] => none
   | _ => some (.nilIface, cs)
  | [] => none
 | _ => none
theorem recover_rel {pf : PF} {fr : Frame} {cs : List PF} {crs base : List Frame} {pd pds : List Nat} (h : FrR ρ pf fr pd) (hc : FsR ρ cs crs pds) {v : Value} {cs' : List PF} (hp : precover pf cs = some (v, cs')) : ∃ v' crs', VR ρ v v' ∧ FsR ρ cs' crs' pds ∧
  ((tryRecover fr (crs ++ base) = some (v', crs' ++ base)) ∨ (tryRecover fr (crs ++ base) = none ∧ crs' = crs ∧ v' = .nilIface)) := by
 unfold precover at hp
 split at hp
 ·rename_i ek
  split at hp
  ·rename_i caller rest
   cases hc with
   | cons hc1 hct =>
    rename_i cfr crest pd1 pds1
    have hkn : fr.kind = .deferred := by rw [h.kind]; exact ek
    have hmode := hc1.mode
    split at hp
    ·rename_i e older em
     rw [em] at hmode
     generalize hfm : cfr.mode = fm at hmode
     cases hmode with
     | panicking hl =>
      cases hl with
      | cons he ht =>
       cases he with
       | mk r g hv =>
        rename_i older' u u'
        simp only at hp
        cases g with
        | true => cases hp
        | false =>
         simp only [cond_false] at hp
         cases r with
         | true =>
          simp only [cond_true, Option.some.injEq, Prod.mk.injEq] at hp
          obtain ⟨rfl, rfl⟩ := hp
          refine ⟨.nilIface, cfr :: crest, .nilIface, .cons hc1 hct, .inr ⟨?_, rfl, rfl⟩⟩
          simp only [tryRecover, hkn, List.cons_append, hfm]
         | false =>
          simp only [cond_false, Option.some.injEq, Prod.mk.injEq] at hp
          obtain ⟨rfl, rfl⟩ := hp
          refine ⟨u', { cfr with mode := .panicking (⟨u', true, false⟩ :: older') } :: crest, hv, .cons ⟨hc1.fn, hc1.size, hc1.todo, hc1.defers, .panicking (.cons (.mk true false hv) ht), hc1.kind, hc1.round⟩ hct, .inl ?_⟩
          simp only [tryRecover, hkn, List.cons_append, hfm]
    ·cases hp
    ·rename_i h1 h2
     simp only [Option.some.injEq, Prod.mk.injEq] at hp
     obtain ⟨rfl, rfl⟩ := hp
     refine ⟨.nilIface, cfr :: crest, .nilIface, .cons hc1 hct, .inr ⟨?_, rfl, rfl⟩⟩
     generalize hcm : caller.mode = cm at hmode h1 h2
     generalize hfm : cfr.mode = fm at hmode
     cases hmode with
     | run => simp only [tryRecover, hkn, List.cons_append, hfm]
     | returning => simp only [tryRecover, hkn, List.cons_append, hfm]
     | panicking hl =>
      cases hl with
      | nil => exact absurd rfl h2
      | cons a b => exact absurd rfl (h1 _ _)
  ·cases hp
 ·cases hp
theorem Reach.recover (hb : main = true ∨ E.send ≠ none) (hm : s.fr.mode = .run) {all : Array Oper} {i : Nat} {o : Oper} {l : List Oper} {k : List PItem} (ht : s.fr.todo = .ops all i (o :: l) :: k) (hrd : s.fr.round = none) {as : Array Operand} {ats : Array TypeId} (hop : o.op = .call { callee := .builtin .recover, args := as, argTypes := ats })
  (hw : pwanted s.fr all o = some true) {v : Value} {cs' : List PF} (hr : precover s.fr s.cs = some (v, cs')) {tm : T Value} (hp : pput s.fr o.dst v = some tm) : Reach P ty Post main E s { s with fr := { s.fr with tmps := tm, todo := .ops all (i + 1) l :: k }, cs := cs' } := by
 refine Reach.frames hb fun E ρ c fr cs pd pds w hf hc hH hok => ?_
 obtain ⟨hpd, ho, hvt, rest, m, e, hkm, hit⟩ := hf.ops ht
 obtain ⟨v', crs', r1, r2, r3⟩ := recover_rel (base := E.base) hf hc hr
 have hround : fr.roundOf = none := by
  have := hf.round
  rw [hrd] at this
  generalize fr.roundOf = b at this
  cases this; rfl
 have hk : fr.kind ≠ .early := by
  rw [hf.kind]
  intro e
  unfold precover at hr
  rw [e] at hr
  cases hr
 refine ⟨fr.finish v', crs', [], pds, [], hf.put ht hp r1, r2, by subst hpd; simp, (fun e he => by cases he), ?_⟩
 rw [stepG_apply (FrR.run hf hm) e ho (wanted_of (fun _ _ t v _ _ hv => hvt t v hv) hw) (fun c hc => by rw [hop] at hc; cases hc)]
 have hrun : (execOp fr.eval o).runT P w #[] = (.ok .recover w, #[]) := by
  rw [builtin_term hop]
  rfl
 unfold stepG.apply
 have hke : (fr.kind == CallKind.early) = false := by simpa using hk
 simp only [if_true, hrun, hke, hround]
 have hse : seen P fr.fn (([] : List Event).toArray) = #[] := by rw [seen_def]; rfl
 have hse' : seen P fr.fn #[] = #[] := by rw [seen_def]; rfl
 rw [hse]
 rcases r3 with r3 | ⟨r3, r4, r5⟩
 ·rw [r3]
  simp only
  rfl
 ·rw [r3]
  subst r4 r5
  simp only
  rfl
end
end Go.Gd
namespace Go.Gd
open Go Go.Gw Go.Conc
def edgesOk (ops : Array Oper) : Bool := ops.toList.zipIdx.all fun (o, i) => o.after.toList.all fun e => !Region.binds .any e || Nat.blt e.on i
def bitsOf (acc : Array Nat) (o : Oper) : Nat := o.after.foldl (fun s e => if Region.binds .any e then s ||| 2 ^ e.on ||| acc.getD e.on 0 else s) 0
theorem before_eq (ops : Array Oper) : Region.before ops = ops.toList.foldl (fun acc o => acc.push (bitsOf acc o)) #[] := by
 unfold Region.before
 rw [← Array.foldl_toList]
 rfl
theorem bitsOf_spec {acc : Array Nat} {o : Oper} {j : Nat} (h : (bitsOf acc o).testBit j = true) : ∃ e ∈ o.after.toList, Region.binds .any e = true ∧ (e.on = j ∨ (acc.getD e.on 0).testBit j = true) := by
 unfold bitsOf at h
 rw [← Array.foldl_toList] at h
 have key : ∀ (l : List Edge) (s : Nat), (l.foldl (fun s e => if Region.binds .any e then s ||| 2 ^ e.on ||| acc.getD e.on 0 else s) s).testBit j = true → s.testBit j = true ∨ ∃ e ∈ l, Region.binds .any e = true ∧ (e.on = j ∨ (acc.getD e.on 0).testBit j = true) := by
  intro l
  induction l with
  | nil => intro s hs; exact .inl hs
  | cons e l ih =>
   intro s hs
   rw [List.foldl_cons] at hs
   rcases ih _ hs with h1 | ⟨e', h1, h2⟩
   ·cases hb : Region.binds .any e with
    | false => rw [hb] at h1; exact .inl (by simpa using h1)
    | true =>
     rw [hb] at h1
     simp only [if_true, Nat.testBit_or, Bool.or_eq_true] at h1
     rcases h1 with (h1 | h1) | h1
     ·exact .inl h1
     ·refine .inr ⟨e, by simp, hb, .inl ?_⟩
      rw [Nat.testBit_two_pow] at h1
      simpa using h1
     ·exact .inr ⟨e, by simp, hb, .inr h1⟩
   ·exact .inr ⟨e', by simp [h1], h2⟩
 rcases key _ 0 h with h | h
 ·simp at h
 ·exact h
theorem before_push : ∀ (l : List Oper) (acc : Array Nat), (l.foldl (fun acc o => acc.push (bitsOf acc o)) acc).size = acc.size + l.length ∧ (∀ k, k < acc.size → (l.foldl (fun acc o => acc.push (bitsOf acc o)) acc)[k]? = acc[k]?) ∧
  ∀ k o, l[k]? = some o → ∃ pre : Array Nat, pre.size = acc.size + k ∧ (∀ m, m < acc.size + k → (l.foldl (fun acc o => acc.push (bitsOf acc o)) acc)[m]? = pre[m]?) ∧ (l.foldl (fun acc o => acc.push (bitsOf acc o)) acc)[acc.size + k]? = some (bitsOf pre o)
 | [], acc => ⟨rfl, fun _ _ => rfl, fun k o h => by simp at h⟩
 | o :: l, acc => by
  obtain ⟨h1, h2, h3⟩ := before_push l (acc.push (bitsOf acc o))
  rw [List.foldl_cons]
  refine ⟨by rw [h1]; simp; omega, fun k hk => ?_, fun k o' ho => ?_⟩
  ·rw [h2 k (by simp; omega), Array.getElem?_push_lt hk, Array.getElem?_eq_getElem hk]
  ·cases k with
   | zero =>
    simp only [List.getElem?_cons_zero, Option.some.injEq] at ho
    subst ho
    refine ⟨acc, rfl, fun m hm => ?_, ?_⟩
    ·rw [h2 m (by simp; omega), Array.getElem?_push_lt (by omega), Array.getElem?_eq_getElem (by omega)]
    ·rw [h2 _ (by simp)]
     simp
   | succ k =>
    obtain ⟨pre, p1, p2, p3⟩ := h3 k o' (by simpa using ho)
    simp only [Array.size_push] at p1 p2 p3
    exact ⟨pre, by omega, fun m hm => p2 m (by omega), by rw [show acc.size + (k + 1) = acc.size + 1 + k by omega]; exact p3⟩
theorem befb_spec {ops : Array Oper} {i j : Nat} (h : befb (Region.before ops) i j = true) : ∃ o, ops[i]? = some o ∧ ∃ e ∈ o.after.toList, Region.binds .any e = true ∧ (e.on = j ∨ (e.on < i ∧ befb (Region.before ops) e.on j = true)) := by
 unfold befb at h ⊢
 have hb := before_push ops.toList #[]
 rw [← before_eq] at hb
 obtain ⟨h1, _, h3⟩ := hb
 simp only [Array.size_empty, Nat.zero_add, Array.length_toList] at h1 h3
 have hlt : i < ops.size := by
  refine Nat.lt_of_not_le fun hle => ?_
  have : (Region.before ops).getD i 0 = 0 := by
   rw [Array.getD_eq_getD_getElem?, Array.getElem?_eq_none (by omega)]; rfl
  rw [this] at h
  simp at h
 obtain ⟨pre, p1, p2, p3⟩ := h3 i ops[i] (by simp [hlt])
 have hg : (Region.before ops).getD i 0 = bitsOf pre ops[i] := by rw [Array.getD_eq_getD_getElem?, p3]; rfl
 rw [hg] at h
 obtain ⟨e, e1, e2, e3⟩ := bitsOf_spec h
 refine ⟨ops[i], by simp [hlt], e, e1, e2, ?_⟩
 rcases e3 with e3 | e3
 ·exact .inl e3
 ·by_cases hon : e.on < i
  ·refine .inr ⟨hon, ?_⟩
   have : (Region.before ops).getD e.on 0 = pre.getD e.on 0 := by
    rw [Array.getD_eq_getD_getElem?, Array.getD_eq_getD_getElem?, p2 _ hon]
   rw [this]; exact e3
  ·have : pre.getD e.on 0 = 0 := by rw [Array.getD_eq_getD_getElem?, Array.getElem?_eq_none (by omega)]; rfl
   rw [this] at e3
   simp at e3
inductive Lin (ops : Array Oper) : (Nat → Bool) → List Nat → Prop where
 | nil {listed : Nat → Bool} (h : ∀ i, i < ops.size → listed i = true) : Lin ops listed []
 | cons {listed : Nat → Bool} {i : Nat} {l : List Nat} {o : Oper} (ho : ops[i]? = some o) (hn : listed i = false) (he : ∀ e ∈ o.after.toList, Region.binds .any e = true → listed e.on = true) (t : Lin ops (fun j => listed j || j == i) l) : Lin ops listed (i :: l)
theorem Lin.mem {ops : Array Oper} {listed : Nat → Bool} {l : List Nat} (h : Lin ops listed l) : ∀ i ∈ l, listed i = false ∧ i < ops.size := by
 induction h with
 | nil h => intro i hi; cases hi
 | cons ho hn he t ih =>
  intro j hj
  rcases List.mem_cons.1 hj with rfl | hj
  ·exact ⟨hn, (Array.getElem?_eq_some_iff.1 ho).1⟩
  ·obtain ⟨h1, h2⟩ := ih j hj
   simp only [Bool.or_eq_false_iff] at h1
   exact ⟨h1.1, h2⟩
theorem Lin.all {ops : Array Oper} {listed : Nat → Bool} {l : List Nat} (h : Lin ops listed l) : ∀ i, i < ops.size → listed i = false → i ∈ l := by
 induction h with
 | nil h => intro i hi hl; rw [h i hi] at hl; cases hl
 | cons ho hn he t ih =>
  intro j hj hl
  rename_i listed i l o
  by_cases e : j = i
  ·simp [e]
  ·exact List.mem_cons_of_mem _ (ih j hj (by simp [hl, e]))
theorem Lin.feas {ops : Array Oper} {listed : Nat → Bool} {l : List Nat} (h : Lin ops listed l) (hc : ∀ i o, ops[i]? = some o → listed i = true → ∀ e ∈ o.after.toList, Region.binds .any e = true → listed e.on = true) : Feas (Region.before ops) l := by
 induction h with
 | nil h => exact .nil
 | cons ho hn he t ih =>
  rename_i listed i l o
  have pred : ∀ (k : Nat) (o' : Oper), ops[k]? = some o' → (listed k = true ∨ k = i) → ∀ j, befb (Region.before ops) k j = true → listed j = true := by
   intro k
   induction k using Nat.strongRecOn with
   | ind k ihk =>
    intro o' ho' hk j hj
    obtain ⟨o2, g1, e, g2, g3, g4⟩ := befb_spec hj
    rw [ho'] at g1; cases g1
    have hon : listed e.on = true := by
     rcases hk with hk | rfl
     ·exact hc k o' ho' hk e g2 g3
     ·rw [ho] at ho'; cases ho'
      exact he e g2 g3
    rcases g4 with rfl | ⟨g4, g5⟩
    ·exact hon
    ·obtain ⟨o3, g6, _⟩ := befb_spec g5
     exact ihk e.on g4 o3 g6 (.inl hon) j g5
  have hm := t.mem
  refine .cons (fun j hj => ?_) (fun hi => ?_) (ih fun k o' ho' hk e g1 g2 => ?_)
  ·cases hb : befb (Region.before ops) i j with
   | false => rfl
   | true =>
    have h1 := pred i o ho (.inr rfl) j hb
    have h2 := (hm j hj).1
    simp [h1] at h2
  ·have := (hm i hi).1
   simp at this
  ·simp only [Bool.or_eq_true, beq_iff_eq] at hk ⊢
   rcases hk with hk | rfl
   ·exact .inl (hc k o' ho' hk e g1 g2)
   ·rw [ho] at ho'; cases ho'
    exact .inl (he e g1 g2)
theorem linearise_lin (ops : Array Oper) (hok : edgesOk ops = true) : ∀ (fuel t : Nat) (listed : Array Bool) (acc : List Nat), listed.size = ops.size → (∀ s : List Nat, s.Nodup → (∀ i ∈ s, i < ops.size ∧ listed.getD i true = false) → s.length ≤ fuel) →
  ∃ l, Region.linearise.go .any ops fuel t listed acc = acc.reverse ++ l ∧ Lin ops (fun i => listed.getD i false) l := by
 intro fuel
 induction fuel with
 | zero =>
  intro t listed acc hs hf
  refine ⟨[], by simp [Region.linearise.go], .nil fun i hi => ?_⟩
  cases h : listed.getD i false with
  | true => rfl
  | false =>
   have := hf [i] (by simp) (fun j hj => by
    simp at hj
    subst hj
    refine ⟨hi, ?_⟩
    rw [Array.getD_eq_getD_getElem?, Array.getElem?_eq_getElem (by omega)] at h ⊢
    exact h)
   simp at this
 | succ fuel ih =>
  intro t listed acc hs hf
  unfold Region.linearise.go
  generalize hrs : ((List.range ops.size).filter fun i => !listed.getD i true && ((ops[i]?).map (·.after.all fun e => !Region.binds .any e || listed.getD e.on false)).getD false) = rs
  simp only
  cases hg : rs[t % rs.length]? with
  | none =>
   have hnil : rs = [] := by
    cases rs with
    | nil => rfl
    | cons a l =>
     have := Nat.mod_lt t (show (a :: l).length > 0 by simp)
     rw [List.getElem?_eq_none_iff] at hg
     omega
   refine ⟨[], by simp, .nil fun i hi => ?_⟩
   have key : ∀ k, ∀ i, i < k → i < ops.size → listed.getD i false = true := by
    intro k
    induction k with
    | zero => intro i h; omega
    | succ k ihk =>
     intro i hik hi
     by_cases e : i < k
     ·exact ihk i e hi
     ·have e : i = k := by omega
      subst e
      cases h : listed.getD i false with
      | true => rfl
      | false =>
       exfalso
       have : i ∈ rs := by
        rw [← hrs, List.mem_filter, List.mem_range]
        refine ⟨hi, ?_⟩
        have h1 : listed.getD i true = false := by
         rw [Array.getD_eq_getD_getElem?, Array.getElem?_eq_getElem (by omega)] at h ⊢
         exact h
        rw [h1]
        simp only [Bool.not_false, Bool.true_and]
        rw [Array.getElem?_eq_getElem hi]
        simp only [Option.map_some, Option.getD_some, Array.all_eq_true_iff_forall_mem]
        intro e he
        have hz := List.all_eq_true.1 hok (ops[i], i) (by
         rw [List.mk_mem_zipIdx_iff_getElem?]
         simp [hi])
        simp only [List.all_eq_true] at hz
        have hz := hz e (by simpa using he)
        simp only [Bool.or_eq_true, Bool.not_eq_true'] at hz ⊢
        rcases hz with hz | hz
        ·exact .inl hz
        ·have hz : e.on < i := Nat.le_of_ble_eq_true hz
         exact .inr (ihk e.on hz (by omega))
       rw [hnil] at this
       cases this
   exact key (i + 1) i (by omega) hi
  | some i =>
   have hi : i ∈ rs := List.mem_of_getElem? hg
   rw [← hrs, List.mem_filter, List.mem_range] at hi
   obtain ⟨hlt, hi⟩ := hi
   simp only [Bool.and_eq_true, Bool.not_eq_true'] at hi
   obtain ⟨hu, hr⟩ := hi
   have hu' : listed.getD i false = false := by
    rw [Array.getD_eq_getD_getElem?, Array.getElem?_eq_getElem (by omega)] at hu ⊢
    exact hu
   obtain ⟨l, h1, h2⟩ := ih (t / rs.length) (listed.setIfInBounds i true) (i :: acc) (by simpa using hs) (fun s hsn hsm => by
    have := hf (i :: s) (List.nodup_cons.2 ⟨(fun his => by
     have := (hsm i his).2
     rw [Array.getD_eq_getD_getElem?, Array.getElem?_setIfInBounds_self_of_lt (by omega)] at this
     cases this), hsn⟩) (fun j hj => by
     rcases List.mem_cons.1 hj with rfl | hj
     ·exact ⟨hlt, hu⟩
     ·obtain ⟨g1, g2⟩ := hsm j hj
      refine ⟨g1, ?_⟩
      by_cases e : i = j
      ·subst e; exact hu
      ·rw [Array.getD_eq_getD_getElem?, Array.getElem?_setIfInBounds_ne e] at g2
       rw [Array.getD_eq_getD_getElem?]; exact g2)
    simp at this
    exact this)
   refine ⟨i :: l, (by
    show Region.linearise.go .any ops fuel (t / rs.length) (listed.setIfInBounds i true) (i :: acc) = _
    rw [h1]; simp), ?_⟩
   rw [Array.getElem?_eq_getElem hlt] at hr
   simp only [Option.map_some, Option.getD_some, Array.all_eq_true_iff_forall_mem] at hr
   refine .cons (o := ops[i]) (Array.getElem?_eq_getElem hlt) hu' (fun e he hb => ?_) ?_
   ·have := hr e (by simpa using he)
    rw [hb] at this
    simpa using this
   ·have : (fun j => (listed.setIfInBounds i true).getD j false) = fun j => listed.getD j false || j == i := by
     funext j
     by_cases e : i = j
     ·subst e
      rw [Array.getD_eq_getD_getElem?, Array.getElem?_setIfInBounds_self_of_lt (by omega)]
      simp
     ·rw [Array.getD_eq_getD_getElem?, Array.getElem?_setIfInBounds_ne e, ← Array.getD_eq_getD_getElem?]
      have : (j == i) = false := by simp; exact fun h => e h.symm
      rw [this, Bool.or_false]
    rw [this] at h2
    exact h2
theorem nodup_bound : ∀ {n : Nat} {s : List Nat}, s.Nodup → (∀ i ∈ s, i < n) → s.length ≤ n
 | 0, s, _, h => by
  cases s with
  | nil => simp
  | cons a s => exact absurd (h a (by simp)) (Nat.not_lt_zero a)
 | n + 1, s, hs, h => by
  by_cases e : n ∈ s
  ·have h1 := nodup_bound (n := n) (hs.erase n) fun i hi => by
    have hm := List.mem_of_mem_erase hi
    have := h i hm
    have hne : i ≠ n := fun q => by
     rw [q] at hi
     exact hs.not_mem_erase hi
    omega
   rw [List.length_erase_of_mem e] at h1
   omega
  ·have h1 := nodup_bound (n := n) hs fun i hi => by
    have := h i hi
    have hne : i ≠ n := fun q => e (q ▸ hi)
    omega
   omega
theorem schedule_feas (ops : Array Oper) (hok : edgesOk ops = true) (t : Nat) : Feas (Region.before ops) (Region.schedule true ops t) ∧ (∀ i, i < ops.size → i ∈ Region.schedule true ops t) ∧ ∀ i ∈ Region.schedule true ops t, i < ops.size := by
 have hr : ∀ i, (Array.replicate ops.size false).getD i false = false := fun i => by
  rw [Array.getD_eq_getD_getElem?, Array.getElem?_replicate]
  split <;> rfl
 obtain ⟨l, h1, h2⟩ := linearise_lin ops hok ops.size t (Array.replicate ops.size false) [] (by simp) (fun s hs hm => nodup_bound hs fun i hi => (hm i hi).1)
 have e : Region.schedule true ops t = l := by
  unfold Region.schedule Region.linearise
  simpa using h1
 rw [e]
 exact ⟨h2.feas (fun i o _ hl => by simp only [hr] at hl; cases hl), fun i hi => h2.all i hi (hr i), fun i hi => (h2.mem i hi).2⟩
end Go.Gd
namespace Go.Gd
open Go Go.Gw Go.Conc
def looksAt (all : Array Oper) (o : Oper) : List Tmp :=
 (o.op.operands.toList.filterMap fun | .tmp t => some t | _ => none) ++ (match o.guard with
  | some (j, _) => (dstOf all j).toList
  | none => [])
def numbered (all : Array Oper) : List (Oper × Nat) := all.toList.zipIdx
def lateOp (o : Oper) : Bool := match o.op with | .assign _ => true | _ => false
def lateB (all : Array Oper) (i : Nat) : Bool := match all.toList[i]? with | some o => lateOp o | none => true
def tmpsOk (all : Array Oper) : Bool :=
 (numbered all).all fun (o, i) => (numbered all).all fun (o', j) => match o'.dst with
  | none => true
  | some t => (Nat.beq i j || o.dst != some t) && (lateOp o' || (!(looksAt all o).any (Nat.beq t) || (befb (Region.before all) i j && !Nat.beq i j)))
theorem mem_numbered {all : Array Oper} {i : Nat} {o : Oper} (h : all[i]? = some o) : (o, i) ∈ numbered all := by
 unfold numbered
 rw [List.mk_mem_zipIdx_iff_getElem?]
 simpa using h
theorem tmpsOk_dst {all : Array Oper} (h : tmpsOk all = true) {i j : Nat} {t : Tmp} (hi : dstOf all i = some t) (hj : dstOf all j = some t) : i = j := by
 unfold dstOf at hi hj
 cases e1 : all[i]? with
 | none => rw [e1] at hi; cases hi
 | some o =>
  cases e2 : all[j]? with
  | none => rw [e2] at hj; cases hj
  | some o' =>
   rw [e1] at hi
   rw [e2] at hj
   have hi : o.dst = some t := hi
   have hj : o'.dst = some t := hj
   have := List.all_eq_true.1 (List.all_eq_true.1 h _ (mem_numbered e1)) _ (mem_numbered e2)
   simp only [hj, Bool.and_eq_true, Bool.or_eq_true] at this
   rcases this.1 with q | q
   ·exact Nat.eq_of_beq_eq_true q
   ·rw [hi] at q; simp at q
theorem tmpsOk_look {all : Array Oper} (h : tmpsOk all = true) {i j : Nat} {o : Oper} {t : Tmp} (hi : all[i]? = some o) (ht : t ∈ looksAt all o) (hj : dstOf all j = some t) (hlt : lateB all j = false) : befb (Region.before all) i j = true ∧ i ≠ j := by
 unfold dstOf at hj
 cases e2 : all[j]? with
 | none => rw [e2] at hj; cases hj
 | some o' =>
  rw [e2] at hj
  have hj : o'.dst = some t := hj
  have := List.all_eq_true.1 (List.all_eq_true.1 h _ (mem_numbered hi)) _ (mem_numbered e2)
  simp only [hj, Bool.and_eq_true, Bool.or_eq_true, Bool.not_eq_true'] at this
  have hlo : lateOp o' = false := by
   unfold lateB at hlt
   rw [show all.toList[j]? = some o' by rw [Array.getElem?_toList]; exact e2] at hlt
   exact hlt
  rw [hlo] at this
  simp only [Bool.false_eq_true, false_or] at this
  rcases this.2 with q | q
  ·have : (looksAt all o).any (Nat.beq t) = true := List.any_eq_true.2 ⟨t, ht, Nat.beq_refl t⟩
   rw [this] at q; cases q
  ·exact ⟨q.1, Nat.ne_of_beq_eq_false q.2⟩
section
variable {P : Program} {ty : TypeId} {tys : Tys} {Post : Value → World → Prop} {main : Bool} {n : Nat} {E : Env} {ρ : Ren} {s : DS} {c : Ctx} {g : Goroutine} {w : World}
theorem head_look {all : Array Oper} (hok : tmpsOk all = true) {i : Nat} {l : List Nat} {o : Oper} (ho : all[i]? = some o) (hf : Feas (Region.before all) (i :: l)) {t : Tmp} (ht : t ∈ looksAt all o) : ∀ j ∈ i :: l, lateB all j = false → dstOf all j ≠ some t := fun j hj hlt hd => by
 obtain ⟨h1, h2⟩ := tmpsOk_look hok ho ht hd hlt
 cases hf with
 | cons h hn tl =>
  rcases List.mem_cons.1 hj with rfl | hj
  ·exact h2 rfl
  ·rw [h j hj] at h1; cases h1
theorem EvR.look {pf : PF} {fr : Frame} {X : Tmp → Prop} (hvt : ∀ k v, pf.tmps.get k = some v → ¬ X k → ∃ v', fr.tmps[k]? = some v' ∧ VR ρ v v') {H : PH} (hH : HR ρ H c w) {all : Array Oper} {o : Oper} (hx : ∀ t ∈ looksAt all o, ¬ X t) : EvR H.ng ρ pf fr o := by
 intro x hm v he
 cases x with
 | tmp t =>
  have htl : t ∈ looksAt all o := by
   unfold looksAt
   refine List.mem_append_left _ (List.mem_filterMap.2 ⟨.tmp t, by simpa using hm, rfl⟩)
  obtain ⟨v', h1, h2⟩ := hvt t _ he (hx t htl)
  have : fr.eval (.tmp t) = v' := by
   show fr.tmps.getD t undef = _
   rw [Array.getD_eq_getD_getElem?, h1]; rfl
  rw [this]; exact h2
 | const u => exact EvR.of (pf := { pf with tmps := .nil }) (fr := fr) (fun k v h => by cases h) hH o _ hm v he
 | global g => exact EvR.of (pf := { pf with tmps := .nil }) (fr := fr) (fun k v h => by cases h) hH o _ hm v he
 | func f => exact EvR.of (pf := { pf with tmps := .nil }) (fr := fr) (fun k v h => by cases h) hH o _ hm v he
theorem wanted_look {pf : PF} {fr : Frame} {X : Tmp → Prop} (hvt : ∀ k v, pf.tmps.get k = some v → ¬ X k → ∃ v', fr.tmps[k]? = some v' ∧ VR ρ v v') {all : Array Oper} {o : Oper} (hx : ∀ t ∈ looksAt all o, ¬ X t) {b : Bool} (hp : pwanted pf all o = some b) : Region.wanted o (yielded all fr.tmps) = b := by
 refine wanted_of (fun j want t v hg hd hv => hvt t v hv (hx t ?_)) hp
 unfold looksAt
 refine List.mem_append_right _ ?_
 rw [hg]
 simp [hd]
theorem stepG_unwantedD {fr : Frame} {cs : List Frame} {w : World} {all : Array Oper} {i : Nat} {rest : List Nat} {m : List Item} {o : Oper} (hr : fr.mode = .run) (ht : fr.todo = .inRegion all (i :: rest) :: m) (ho : all[i]? = some o) (hw : Region.wanted o (yielded all fr.tmps) = false) :
  stepG P main (G fr cs) w = .go (G (fr.finish undef) cs) w #[] := by
 have e1 : stepG P main (G fr cs) w = stepG.exec P main true fr cs none w := by simp [stepG, G, hr]
 rw [e1]
 unfold stepG.exec
 simp only [ht, ho, Option.map_some, Option.getD_some, hw]
 rfl
theorem Reach.pass (hb : main = true ∨ E.send ≠ none) (hm : s.fr.mode = .run) {all : Array Oper} {i : Nat} {o : Oper} {l : List Oper} {k : List PItem} (ht : s.fr.todo = .ops all i (o :: l) :: k) (hw : pwanted s.fr all o = some false) {tm : T Value} (hp : pput s.fr o.dst undef = some tm) :
  Reach P ty Post main E s { s with fr := { s.fr with tmps := tm, todo := .ops all (i + 1) l :: k } } := by
 refine Reach.ctl hb fun ρ fr pd hf => ?_
 obtain ⟨hpd, ho, hvt, rest, m, e, hkm, hit⟩ := hf.ops ht
 subst hpd
 exact ⟨fr.finish undef, hf.put ht hp (.tuple .nil), fun cs w => stepG_unwantedD (FrR.run hf hm) e ho (wanted_of (fun _ _ t v _ _ hv => hvt t v hv) hw)⟩
theorem Reach.draw (hmo : P.follows .mixedOrders = true) (_hb : main = true ∨ E.send ≠ none) (hm : s.fr.mode = .run) {rid : Nat} {ops : Array Oper} {k : List PItem} (ht : s.fr.todo = .code (.region rid ops true) :: k) (hok : edgesOk ops = true) {es : List Nat} (h1 : ∀ i ∈ es, i < ops.size) (h2 : ∀ i, i < ops.size → i ∈ es) :
  Reach P ty Post main E s { s with fr := { s.fr with todo := .dreg ops [] es :: k } } := by
 refine ⟨1, fun E hb n hn ρ c g w h => ?_⟩
 cases h with
 | mk hf hc hnd hpn hH hok' hdd g1 g2 g3 hkp =>
  rename_i fr cs pd pds
  refine W.dpriv rfl (hb.imp id fun e => by rw [g1]; exact e) fun w₁ r => ?_
  obtain ⟨hpd, htd, hvt⟩ := hf.plain' (by rw [ht]; rfl)
  rw [ht] at htd
  obtain ⟨b, m, e, hi, hk⟩ := htd.cons_inv
  cases hi
  have hr := FrR.run hf hm
  let t := (Question.order fr.fn rid).cut (w₁.tape w₁.drawn (Question.order fr.fn rid))
  obtain ⟨f1, f2, f3⟩ := schedule_feas ops hok t
  have hst : stepG P main (G fr (cs ++ E.base)) w₁ = .go (G { fr with todo := .inRegion ops (Region.schedule true ops t) :: m } (cs ++ E.base)) (World.draw w₁) #[] := by
   have e1 : stepG P main (G fr (cs ++ E.base)) w₁ = stepG.exec P main true fr (cs ++ E.base) none w₁ := by simp [stepG, G, hr]
   rw [e1]
   unfold stepG.exec
   simp only [e, Bool.not_true, Bool.false_eq_true, if_false]
   have : (choose (.order fr.fn rid)).run P w₁ = .ok t (World.draw w₁) := rfl
   rw [this, hmo]
   rfl
  subst hpd
  have hp0 : pends s.fr.tmps ops [] (Region.schedule true ops t) = [] := by
   unfold pends
   simp
  have htd' : TdR ρ s.fr.tmps (.dreg ops [] es :: k) (.inRegion ops (Region.schedule true ops t) :: m) (fun t' => ∃ i ∈ Region.schedule true ops t, i ∈ ([] : List Nat) ∧ dstOf ops i = some t') [] := by
   have := TdR.dreg (ρ := ρ) (tm := s.fr.tmps) (fs := []) hk f1 (fun i hi => f2 i (h1 i hi)) (fun i hi => .inr (h2 i (f3 i hi))) f3
   rw [hp0] at this
   exact this
  refine ⟨_, World.draw w₁, _, c.M, c.R, hst, rfl, ?_, Foot.nil _ _ _, ?_⟩
  ·have g := Guar.refl (hok'.rely r)
   exact ⟨g.tape, g.os, g.output, g.size, g.shape, g.keep, g.mine, g.more, g.ro⟩
  ·have hk2 := hkp.rely r
   exact hn ρ c _ (World.draw w₁) (.mk ⟨hf.fn, hf.size, ⟨_, htd', fun k v hk _ => hvt k v hk⟩, hf.defers, hf.mode, hf.kind, hf.round⟩ hc hnd hpn (hH.rely r).draw (hok'.rely r).draw hdd g1 g2 g3 ⟨hk2.m, hk2.r, hk2.size, hk2.shape, hk2.tape, hk2.os, hk2.output, hk2.ren, hk2.fresh⟩)
theorem pends_nil {tm : T Value} {all : Array Oper} {fs L : List Nat} (h : ∀ i ∈ L, i ∈ fs → (all[i]?).any (fun o => opAllocs o.op) = true → newBlk ((dstOf all i).bind tm.get) = []) : pends tm all fs L = [] := by
 unfold pends
 rw [List.flatMap_eq_nil_iff]
 intro i hi
 by_cases hc : i ∈ fs ∧ (all[i]?).any (fun o => opAllocs o.op) = true
 ·rw [if_pos hc]; exact h i hi hc.1 hc.2
 ·rw [if_neg hc]
theorem pends_congr {tm tm' : T Value} {all : Array Oper} {fs fs' : List Nat} {L : List Nat} (h : ∀ i ∈ L, (i ∈ fs ↔ i ∈ fs') ∧ (i ∈ fs → (dstOf all i).bind tm.get = (dstOf all i).bind tm'.get)) : pends tm all fs L = pends tm' all fs' L := by
 unfold pends
 induction L with
 | nil => rfl
 | cons i L ih =>
  rw [List.flatMap_cons, List.flatMap_cons, ih fun j hj => h j (by simp [hj])]
  obtain ⟨h1, h2⟩ := h i (by simp)
  congr 1
  by_cases hc : i ∈ fs ∧ (all[i]?).any (fun o => opAllocs o.op) = true
  ·rw [if_pos hc, if_pos ⟨h1.1 hc.1, hc.2⟩, h2 hc.1]
  ·rw [if_neg hc, if_neg fun hc' => hc ⟨h1.2 hc'.1, hc'.2⟩]
theorem pends_app (tm : T Value) (all : Array Oper) (fs L L' : List Nat) : pends tm all fs (L ++ L') = pends tm all fs L ++ pends tm all fs L' := by
 unfold pends
 rw [List.flatMap_append]
theorem Feas.nodup {b : Array Nat} {l : List Nat} (h : Feas b l) : l.Nodup := by
 induction h with
 | nil => exact .nil
 | cons _ hn _ ih => exact List.nodup_cons.2 ⟨hn, ih⟩
theorem put_get {pf : PF} {dst : Option Tmp} {v : Value} {tm : T Value} (hp : pput pf dst v = some tm) (k : Tmp) : tm.get k = if dst = some k then some v else pf.tmps.get k := by
 unfold pput at hp
 cases dst with
 | none => cases hp; simp
 | some t =>
  simp only at hp
  cases e1 : Nat.blt t pf.nt with
  | false => rw [e1] at hp; cases hp
  | true =>
   rw [e1] at hp
   simp only [cond_true] at hp
   cases e2 : Nat.blt t (2 ^ T.deep) with
   | false => rw [e2] at hp; cases hp
   | true =>
    rw [e2] at hp
    simp only [cond_true, Option.some.injEq] at hp
    subst hp
    rw [T.get_set _ _ _ _ (Nat.le_of_ble_eq_true e2)]
    by_cases e : k = t
    ·subst e; simp
    ·rw [if_neg e, if_neg (by simp; exact fun q => e q.symm)]
theorem Reach.ahead {all : Array Oper} {fs es : List Nat} {e : Nat} {k : List PItem} (ht : s.fr.todo = .dreg all fs (e :: es) :: k) (htm : tmpsOk all = true) {o : Oper} (ho : all[e]? = some o) {v : Value} {tm : T Value} (hp : pput s.fr o.dst v = some tm) {H' : PH}
  (hH' : (H' = s.H ∧ (opAllocs o.op = true → newBlk (o.dst.bind tm.get) = [])) ∨ (∃ x, H' = { s.H with next := s.H.next + 1, t := s.H.t.set s.H.next x } ∧ s.H.next + 1 ≤ 2 ^ T.deep ∧ newBlk (o.dst.bind tm.get) = [s.H.next])) :
  Reach P ty Post main E s { s with fr := { s.fr with tmps := tm, todo := .dreg all (e :: fs) es :: k }, H := H' } := by
 refine ⟨0, fun E hb n hn ρ c g w h => ?_⟩
 cases h with
 | mk hf hc hnd hpn hH hok hdd g1 g2 g3 hkp =>
  rename_i fr cs pd pds
  obtain ⟨X, htd, hvt⟩ := hf.todo
  rw [ht] at htd
  generalize hfm : fr.todo = ft at htd
  cases htd with
  | dreg hk hfe h1 h2 h3 =>
   rename_i m L
   have heL : e ∈ L := h1 e (by simp)
   have hde : dstOf all e = o.dst := by unfold dstOf; rw [ho]; rfl
   have hne : ∀ i, i ≠ e → (dstOf all i).bind s.fr.tmps.get = (dstOf all i).bind tm.get := fun i hie => by
    cases hd : dstOf all i with
    | none => rfl
    | some t =>
     simp only [Option.bind_some]
     rw [put_get hp t]
     by_cases q : o.dst = some t
     ·exact absurd (tmpsOk_dst htm hd (hde.trans q)) hie
     ·rw [if_neg q]
   obtain ⟨L1, L2, rfl⟩ := List.append_of_mem heL
   have hnd' := hfe.nodup
   have hn1 : ∀ i ∈ L1, i ≠ e := fun i hi q => by
    subst q
    rw [List.nodup_append] at hnd'
    exact hnd'.2.2 i hi i (by simp) rfl
   have hn2 : ∀ i ∈ L2, i ≠ e := fun i hi q => by
    subst q
    rw [List.nodup_append] at hnd'
    exact (List.nodup_cons.1 hnd'.2.1).1 hi
   have c1 : pends s.fr.tmps all fs L1 = pends tm all (e :: fs) L1 := pends_congr fun i hi => ⟨by simp [hn1 i hi], fun _ => hne i (hn1 i hi)⟩
   have c2 : pends s.fr.tmps all fs L2 = pends tm all (e :: fs) L2 := pends_congr fun i hi => ⟨by simp [hn2 i hi], fun _ => hne i (hn2 i hi)⟩
   have old : pends s.fr.tmps all fs (L1 ++ e :: L2) = pends tm all (e :: fs) L1 ++ (pends s.fr.tmps all fs [e] ++ pends tm all (e :: fs) L2) := by
    rw [show L1 ++ e :: L2 = L1 ++ ([e] ++ L2) by simp, pends_app, pends_app, c1, c2]
   have new : pends tm all (e :: fs) (L1 ++ e :: L2) = pends tm all (e :: fs) L1 ++ (pends tm all (e :: fs) [e] ++ pends tm all (e :: fs) L2) := by
    rw [show L1 ++ e :: L2 = L1 ++ ([e] ++ L2) by simp, pends_app, pends_app]
   have newe : pends tm all (e :: fs) [e] = if opAllocs o.op = true then newBlk (o.dst.bind tm.get) else [] := by
    unfold pends
    simp [ho, hde]
   have htd' : TdR ρ tm (.dreg all (e :: fs) es :: k) (.inRegion all (L1 ++ e :: L2) :: m) (fun t => ∃ i ∈ L1 ++ e :: L2, i ∈ e :: fs ∧ dstOf all i = some t) (pends tm all (e :: fs) (L1 ++ e :: L2)) :=
    .dreg hk hfe (fun i hi => h1 i (by simp [hi])) (fun i hi => by
     rcases h2 i hi with q | q
     ·exact .inl (by simp [q])
     ·rcases List.mem_cons.1 q with rfl | q
      ·exact .inl (by simp)
      ·exact .inr q) h3
   have hfr' : FrR ρ { s.fr with tmps := tm, todo := .dreg all (e :: fs) es :: k } fr (pends tm all (e :: fs) (L1 ++ e :: L2)) := by
    refine ⟨hf.fn, hf.size, ⟨_, by rw [hfm]; exact htd', fun k' v' hk' hx => ?_⟩, hf.defers, hf.mode, hf.kind, hf.round⟩
    have hk' : tm.get k' = some v' := hk'
    rw [put_get hp k'] at hk'
    by_cases q : o.dst = some k'
    ·exact absurd ⟨e, heL, by simp, hde.trans q⟩ hx
    ·rw [if_neg q] at hk'
     exact hvt k' v' hk' fun ⟨i, i1, i2, i3⟩ => hx ⟨i, i1, by simp [i2], i3⟩
   have hsub : (pends tm all (e :: fs) L1 ++ pends tm all (e :: fs) L2 ++ pds).Sublist (pends s.fr.tmps all fs (L1 ++ e :: L2) ++ pds) := by
    rw [old]
    refine List.Sublist.append ?_ (.refl _)
    exact List.Sublist.append (.refl _) (List.sublist_append_right _ _)
   have main' : ∀ (pd' : List Nat), (pends tm all (e :: fs) (L1 ++ e :: L2) ++ pds).Nodup → (∀ b ∈ pends tm all (e :: fs) (L1 ++ e :: L2) ++ pds, ρ b = none ∧ b < H'.next) → HR ρ H' c w → W P ty Post main n c (G fr (cs ++ E.base)) w := fun _ a b d =>
    hn ρ c _ w (.mk hfr' hc a b d hok hdd g1 g2 g3 hkp)
   rcases hH' with ⟨rfl, hx⟩ | ⟨x, rfl, hcap, hx⟩
   ·have hnil : pends tm all (e :: fs) [e] = [] := by
     rw [newe]
     split
     ·rename_i q; exact hx q
     ·rfl
    have hnew : pends tm all (e :: fs) (L1 ++ e :: L2) ++ pds = pends tm all (e :: fs) L1 ++ pends tm all (e :: fs) L2 ++ pds := by rw [new, hnil]; simp
    refine main' [] ?_ ?_ hH
    ·rw [hnew]; exact hnd.sublist hsub
    ·rw [hnew]; exact fun b hb => hpn b (hsub.subset hb)
   ·have hfresh : ∀ b ∈ pends s.fr.tmps all fs (L1 ++ e :: L2) ++ pds, b ≠ s.H.next := fun b hb q => by
     have := (hpn b hb).2
     omega
    have hHx : HR ρ { s.H with next := s.H.next + 1, t := s.H.t.set s.H.next x } c w := by
     have hb : s.H.next < 2 ^ T.deep := by omega
     have g : ∀ y, y ≠ s.H.next → (s.H.t.set s.H.next x).get y = s.H.t.get y := fun y hy => by rw [T.get_set _ _ _ _ hb, if_neg hy]
     have nn : ∀ y B, ρ y = some B → y ≠ s.H.next := fun y B hy q => by
      have := (hH.dom y B hy).1
      omega
     refine ⟨hcap, fun y B hy => ⟨Nat.lt_succ_of_lt (hH.dom y B hy).1, (hH.dom y B hy).2⟩, fun y B o' hy ho' => ?_, fun y y' B B' e1 e2 hne hblk => ?_, hH.glob, fun y B o' hy ho' => ?_⟩
     ·have ho' : (s.H.t.set s.H.next x).get y = some o' := ho'
      rw [g y (nn y B hy)] at ho'
      exact hH.rel y B o' hy ho'
     ·rcases hH.inj y y' B B' e1 e2 hne hblk with ⟨o1, o2, p1, p2, p3⟩ | ⟨q1, q2⟩
      ·exact .inl ⟨o1, o2, (g y (nn y B e1)).trans p1, (g y' (nn y' B' e2)).trans p2, p3⟩
      ·exact .inr ⟨fun o ho => q1 o ((g y (nn y B e1)).symm.trans ho), fun o ho => q2 o ((g y' (nn y' B' e2)).symm.trans ho)⟩
     ·have ho' : (s.H.t.set s.H.next x).get y = some o' := ho'
      rw [g y (nn y B hy)] at ho'
      exact hH.mem y B o' hy ho'
    by_cases hal : opAllocs o.op = true
    ·have hone : pends tm all (e :: fs) [e] = [s.H.next] := by rw [newe, if_pos hal, hx]
     have hperm : (pends tm all (e :: fs) (L1 ++ e :: L2) ++ pds).Perm (s.H.next :: (pends tm all (e :: fs) L1 ++ pends tm all (e :: fs) L2 ++ pds)) := by
      rw [new, hone]
      simp only [List.append_assoc, List.cons_append, List.nil_append]
      exact List.perm_middle
     refine main' [] (hperm.nodup_iff.2 (List.nodup_cons.2 ⟨fun hm => hfresh _ (hsub.subset hm) rfl, hnd.sublist hsub⟩)) (fun b hb => ?_) hHx
     rcases List.mem_cons.1 (hperm.mem_iff.1 hb) with rfl | hb
     ·exact ⟨hH.free, by show s.H.next < s.H.next + 1; omega⟩
     ·have := hpn b (hsub.subset hb)
      exact ⟨this.1, Nat.lt_succ_of_lt this.2⟩
    ·have hnil : pends tm all (e :: fs) [e] = [] := by rw [newe, if_neg hal]
     have hnew : pends tm all (e :: fs) (L1 ++ e :: L2) ++ pds = pends tm all (e :: fs) L1 ++ pends tm all (e :: fs) L2 ++ pds := by rw [new, hnil]; simp
     refine main' [] ?_ (fun b hb => ?_) hHx
     ·rw [hnew]; exact hnd.sublist hsub
     ·rw [hnew] at hb
      have := hpn b (hsub.subset hb)
      exact ⟨this.1, Nat.lt_succ_of_lt this.2⟩
  | plain hk =>
   obtain ⟨b, m', _, hi, _⟩ := hk.cons_inv
   cases hi
end
end Go.Gd
namespace Go.Gd
open Go Go.Gw Go.Conc
def SoundA (P : Program) (ρ : Ren) (b : Nat) (o : PObj) (v : Value) (c : Ctx) (w : World) (s : Sem Next) : Prop :=
 ∃ (B : RB) (v' : Value) (x : Obj), B.blk = w.heap.size ∧ VR (ρ.put b B) v v' ∧ s.runT P w #[] = (.ok (.value v') (World.grow w x), #[]) ∧ BR (ρ.put b B) (Ctx.own c w.heap.size) (World.grow w x) B o
inductive FOk (P : Program) (s : DS) (all : Array Oper) (i : Nat) : Prop where
 | pass {o : Oper} (ho : all[i]? = some o) (hw : pwanted s.fr all o = some false) (hd : ∀ t, o.dst = some t → s.fr.tmps.get t = some undef ∧ t < s.fr.nt)
 | val {o : Oper} (ho : all[i]? = some o) (hw : pwanted s.fr all o = some true) (hn : ∀ c, o.op ≠ .defer c) {v : Value} (hd : ∀ t, o.dst = some t → s.fr.tmps.get t = some v ∧ t < s.fr.nt)
   (hs : ∀ ρ c fr w, EvR s.H.ng ρ s.fr fr o → HR ρ s.H c w → COk c w → SoundD P s.fr.fn ρ s.H.next v s.H c.d c w (execOp fr.eval o))
 | alloc {o : Oper} (ho : all[i]? = some o) (hw : pwanted s.fr all o = some true) (hn : ∀ c, o.op ≠ .defer c) (ha : opAllocs o.op = true) {v : Value} {b : Nat} {x : PObj} (hd : ∀ t, o.dst = some t → s.fr.tmps.get t = some v ∧ t < s.fr.nt) (hdd : ∃ t, o.dst = some t) (hb : newBlk (some v) = [b]) (hx : s.H.t.get b = some x) (hf : x.fam = 0)
   (hs : ∀ ρ c fr w, EvR s.H.ng ρ s.fr fr o → HR ρ s.H c w → COk c w → ρ b = none → SoundA P ρ b x v c w (execOp fr.eval o))
section
variable {P : Program} {ty : TypeId} {tys : Tys} {Post : Value → World → Prop} {main : Bool} {n : Nat} {E : Env} {ρ : Ren} {s : DS} {c : Ctx} {g : Goroutine} {w : World}
theorem SoundA.d {b : Nat} {H : PH} {fn : FuncId} {o : PObj} {v : Value} {s : Sem Next} (h : SoundA P ρ b o v c w s) (hH : HR ρ H c w) (hok : COk c w) (hb : ρ b = none) (hlt : b < H.next) (hx : H.t.get b = some o) (hf : o.fam = 0) :
  ∃ (ρ' : Ren) (M' : Nat → Prop) (R' : Addr → Prop) (v' : Value) (w' : World) (es : Array Event), ρ.le ρ' ∧ VR ρ' v v' ∧ (s.runT P w #[] = (.ok (.value v') w', es) ∨ (s.runT P w #[] = (.ok .skip w', es) ∧ v' = undef)) ∧ HR ρ' H { c with M := M', R := R' } w' ∧ COk { c with M := M', R := R' } w' ∧
  Guar c M' R' w w' ∧ Foot c w w' es ∧ deafBehind c.d (seen P fn es) = c.d ∧ (∀ x B, ρ' x = some B → ρ x = some B ∨ x = b) ∧ (∀ b, c.M b → (∀ x B, ρ x = some B → B.blk ≠ b) → M' b ∧ w'.heap[b]? = w.heap[b]?) ∧ (∀ x B, ρ' x = some B → (∃ y B', ρ y = some B' ∧ B'.blk = B.blk) ∨ w.heap.size ≤ B.blk) := by
 obtain ⟨B, v', x, h1, h2, h3, h4⟩ := h
 have hput : ∀ y Y, ρ.put b B y = some Y → ρ y = some Y ∨ y = b := fun y Y hy => by
  unfold Ren.put at hy
  by_cases e : y = b
  ·exact .inr e
  ·rw [if_neg e] at hy; exact .inl hy
 have hse : seen P fn #[] = #[] := by rw [seen_def]; rfl
 refine ⟨ρ.put b B, (Ctx.own c w.heap.size).M, c.R, v', _, #[], Ren.put_le hb, h2, .inl h3, hH.newAt hb hH.cap (Nat.le_refl _) hlt rfl (fun _ => .inl rfl) (fun e => absurd hf e) h1 hx (fun _ _ => rfl) h4, hok.grow _, Guar.grow hok _, Foot.nil _ _ _, by rw [hse]; rfl, hput, fun y hy _ => ⟨.inl hy, heap_grow w x (hok.ml y hy)⟩, fun y Y hy => ?_⟩
 rcases hput y Y hy with q | rfl
 ·exact .inl ⟨y, Y, q, rfl⟩
 ·unfold Ren.put at hy
  rw [if_pos rfl] at hy; cases hy
  exact .inr (by omega)
theorem FrR.pdOf {pf : PF} {fr : Frame} {pd : List Nat} (h : FrR ρ pf fr pd) {all : Array Oper} {fs es : List Nat} {k : List PItem} (ht : pf.todo = .dreg all fs es :: k) {L : List Nat} {m : List Item} (hfm : fr.todo = .inRegion all L :: m) : pd = pends pf.tmps all fs L := by
 obtain ⟨X, htd, hvt⟩ := h.todo
 rw [ht, hfm] at htd
 cases htd with
 | plain hk =>
  obtain ⟨b, m', _, hi, _⟩ := hk.cons_inv
  cases hi
 | dreg hk hfe h1 h2 h3 => rfl
theorem FrR.popped {pf : PF} {fr : Frame} {pd : List Nat} (h : FrR ρ pf fr pd) {all : Array Oper} {fs es : List Nat} {k : List PItem} (ht : pf.todo = .dreg all fs es :: k) {i : Nat} {L : List Nat} {m : List Item} (hfm : fr.todo = .inRegion all (i :: L) :: m) (hi : i ∉ es) {o : Oper} (ho : all[i]? = some o) {v v' : Value}
  (hd : ∀ t, o.dst = some t → pf.tmps.get t = some v ∧ t < pf.nt) (hv : VR ρ v v') : FrR ρ pf (fr.finish v') (pends pf.tmps all fs L) ∧ (pends pf.tmps all fs L).Sublist pd ∧ pd = pends pf.tmps all fs (i :: L) := by
 obtain ⟨X, htd, hvt⟩ := h.todo
 rw [ht, hfm] at htd
 cases htd with
 | plain hk =>
  obtain ⟨b, m', _, hi, _⟩ := hk.cons_inv
  cases hi
 | dreg hk hfe h1 h2 h3 =>
  have hsub : pends pf.tmps all fs (i :: L) = pends pf.tmps all fs [i] ++ pends pf.tmps all fs L := by
   rw [← pends_app]; rfl
  refine ⟨?_, by rw [hsub]; exact List.sublist_append_right _ _, rfl⟩
  cases hfe with
  | cons ha hn tl =>
   rw [finish_region hfm ho]
   refine ⟨h.fn, ?_, ⟨fun t => ∃ j ∈ L, j ∈ fs ∧ dstOf all j = some t, ?_, fun k' u hk' hx => ?_⟩, h.defers, h.mode, h.kind, h.round⟩
   ·cases o.dst with
    | none => exact h.size
    | some t => simp only [Array.size_setIfInBounds]; exact h.size
   ·rw [ht]
    exact .dreg hk tl (fun j hj => by
     rcases List.mem_cons.1 (h1 j hj) with rfl | q
     ·exact absurd hj hi
     ·exact q) (fun j hj => h2 j (by simp [hj])) (fun j hj => h3 j (by simp [hj]))
   ·cases hod : o.dst with
    | none =>
     refine hvt k' u hk' fun ⟨j, j1, j2, j3⟩ => ?_
     rcases List.mem_cons.1 j1 with rfl | j1
     ·unfold dstOf at j3
      rw [ho] at j3
      simp [hod] at j3
     ·exact hx ⟨j, j1, j2, j3⟩
    | some t =>
     by_cases e : k' = t
     ·subst e
      rw [(hd k' hod).1] at hk'
      cases hk'
      exact ⟨v', by simp only; rw [Array.getElem?_setIfInBounds_self_of_lt (by rw [h.size]; exact (hd k' hod).2)], hv⟩
     ·obtain ⟨u', q1, q2⟩ := hvt k' u hk' fun ⟨j, j1, j2, j3⟩ => by
       rcases List.mem_cons.1 j1 with rfl | j1
       ·unfold dstOf at j3
        rw [ho] at j3
        simp [hod] at j3
        exact e j3.symm
       ·exact hx ⟨j, j1, j2, j3⟩
      exact ⟨u', by simp only; rw [Array.getElem?_setIfInBounds_ne (fun q => e q.symm)]; exact q1, q2⟩
theorem Kept.step' {ρ' : Ren} {M' : Nat → Prop} {R' : Addr → Prop} {w' : World} (h : Kept E ρ c w) (hok : COk c w) (g : Guar c M' R' w w') (f1 : ∀ b, c.M b → (∀ x B, ρ x = some B → B.blk ≠ b) → M' b ∧ w'.heap[b]? = w.heap[b]?) (f2 : ∀ x B, ρ' x = some B → (∃ y B', ρ y = some B' ∧ B'.blk = B.blk) ∨ w.heap.size ≤ B.blk) (hle : ρ.le ρ') {d : Nat} : Kept E ρ' { c with M := M', R := R', d := d } w' := by
 have := h.step (ρ' := ρ') (hn := 0) hok g ⟨f1, f2, fun x B hx => .inr (Nat.zero_le _)⟩ hle (d := d)
 exact this
theorem progress (hb : main = true ∨ E.send ≠ none) (hm : s.fr.mode = .run) (hke : s.fr.kind ≠ .early) {all : Array Oper} {fs es : List Nat} {k : List PItem} (ht : s.fr.todo = .dreg all fs es :: k) (htm : tmpsOk all = true) (hnl : ∀ i ∈ fs, lateB all i = false) (hfs : ∀ i ∈ fs, i ∉ es → FOk P s all i)
  (hfin : ∀ ρ c fr cs w L m, DR E ρ s c (G fr cs) w → fr.todo = .inRegion all L :: m → (L = [] ∨ ∃ i l, L = i :: l ∧ i ∈ es) → W P ty Post main n c (G fr cs) w) :
  ∀ j ρ c fr cs w L m, DR E ρ s c (G fr cs) w → fr.todo = .inRegion all L :: m → L.length ≤ j → W P ty Post main (n + j) c (G fr cs) w := by
 intro j
 induction j with
 | zero =>
  intro ρ c fr cs w L m h hL hlen
  exact hfin ρ c fr cs w L m h hL (.inl (List.length_eq_zero_iff.1 (by omega)))
 | succ j ih =>
  intro ρ c fr cs w L m h hL hlen
  by_cases hhead : L = [] ∨ ∃ i l, L = i :: l ∧ i ∈ es
  ·have key : W P ty Post main n c (G fr cs) w := hfin ρ c fr cs w L m h hL hhead
   have : ∀ q, W P ty Post main (n + q) c (G fr cs) w := fun q => by
    induction q with
    | zero => exact key
    | succ q ihq => exact .more ihq
   exact this (j + 1)
  ·cases L with
   | nil => exact absurd (.inl rfl) hhead
   | cons i L =>
    have hi : i ∉ es := fun q => hhead (.inr ⟨i, L, rfl, q⟩)
    simp only [List.length_cons] at hlen
    cases h with
    | mk hf hc hnd hpn hH hok hdd g1 g2 g3 hkp =>
     rename_i cs pd pds
     obtain ⟨X, htd, hvt⟩ := hf.todo
     rw [ht, hL] at htd
     have hin : i ∈ fs ∧ Feas (Region.before all) (i :: L) ∧ ∀ t, X t → ∃ q ∈ i :: L, q ∈ fs ∧ dstOf all q = some t := by
      cases htd with
      | plain hk =>
       obtain ⟨b, m', _, hi, _⟩ := hk.cons_inv
       cases hi
      | dreg hk hfe h1 h2 h3 =>
       refine ⟨?_, hfe, fun t ht => ht⟩
       rcases h2 i (by simp) with q | q
       ·exact q
       ·exact absurd q hi
     obtain ⟨hifs, hfe, hX⟩ := hin
     have hr := FrR.run hf hm
     have hkf : fr.kind ≠ .early := by rw [hf.kind]; exact hke
     have look : ∀ {o : Oper}, all[i]? = some o → ∀ t ∈ looksAt all o, ¬ X t := fun {o} ho t htl hx => by
      obtain ⟨q, q1, q2, q3⟩ := hX t hx
      exact head_look htm ho hfe htl q q1 (hnl q q2) q3
     refine W.dpriv rfl (hb.imp id fun e => by rw [g1]; exact e) fun w₁ r => ?_
     have hH1 := hH.rely r
     have hok1 := hok.rely r
     have hkp1 := hkp.rely r
     cases hfs i hifs hi with
     | pass ho hw hd =>
      have hst := stepG_unwantedD (P := P) (main := main) (cs := cs ++ E.base) (w := w₁) hr hL ho (wanted_look hvt (look ho) hw)
      obtain ⟨hp1, hp2, hp3⟩ := hf.popped ht hL hi ho hd (v' := undef) (.tuple .nil)
      refine ⟨_, w₁, #[], c.M, c.R, hst, rfl, Guar.refl hok1, Foot.nil _ _ _, ?_⟩
      have hsub : (pends s.fr.tmps all fs L ++ pds).Sublist (pd ++ pds) := hp2.append (.refl _)
      exact ih ρ c _ _ w₁ L m (.mk hp1 hc (hnd.sublist hsub) (fun b hb => hpn b (hsub.subset hb)) hH1 hok1 hdd g1 g2 g3 hkp1) (by rw [finish_region hL ho]) (by omega)
     | val ho hw hn hd hs =>
      obtain ⟨ρ', M', R', v', w', ev, a1, a2, a3, a4, a5, a6, a7, a8, a9⟩ := hs ρ c fr w₁ (EvR.look hvt hH1 (look ho)) hH1 hok1
      have hst := stepG_val (P := P) (main := main) (cs := cs ++ E.base) hr hL ho (wanted_look hvt (look ho) hw) hkf (fun c hc => absurd hc (hn c)) a3
      obtain ⟨hp1, hp2, hp3⟩ := (hf.mono a1).popped ht hL hi ho hd a2
      have hsub : (pends s.fr.tmps all fs L ++ pds).Sublist (pd ++ pds) := hp2.append (.refl _)
      have hsub2 := seen_sub P fr.fn ev
      refine ⟨_, w', _, M', R', hst, rfl, a6, fun e he => a7 e (hsub2 e he), ?_⟩
      rw [hf.fn, a8]
      refine ih ρ' { c with M := M', R := R', d := c.d } _ _ w' L m (.mk hp1 (hc.mono a1) (hnd.sublist hsub) (fun b hb => ?_) a4 a5 hdd g1 g2 g3 (hkp1.step hok1 a6 a9 a1)) (by rw [finish_region hL ho]) (by omega)
      obtain ⟨q1, q2⟩ := hpn b (hsub.subset hb)
      refine ⟨?_, q2⟩
      cases hx : ρ' b with
      | none => rfl
      | some B =>
       rcases a9.new b B hx with h | h
       ·rw [q1] at h; cases h
       ·omega
     | alloc ho hw hn ha hd hdd' hb' hx hf0 hs =>
      rename_i o v b x
      obtain ⟨t, ht'⟩ := hdd'
      have hbin : b ∈ pd := by
       rw [hf.pdOf ht hL]
       unfold pends
       rw [List.flatMap_cons]
       refine List.mem_append_left _ ?_
       have : dstOf all i = some t := by unfold dstOf; rw [ho]; exact ht'
       rw [if_pos ⟨hifs, by rw [ho]; simpa using ha⟩, this]
       simp only [Option.bind_some, (hd t ht').1, hb']
       simp
      obtain ⟨n1, n2⟩ := hpn b (List.mem_append_left _ hbin)
      obtain ⟨ρ', M', R', v', w', ev, a1, a2, a3, a4, a5, a6, a7, a8, a9, a10, a11⟩ := (hs ρ c fr w₁ (EvR.look hvt hH1 (look ho)) hH1 hok1 n1).d (fn := fr.fn) hH1 hok1 n1 n2 hx hf0
      have hst := stepG_val (P := P) (main := main) (cs := cs ++ E.base) hr hL ho (wanted_look hvt (look ho) hw) hkf (fun c hc => absurd hc (hn c)) a3
      obtain ⟨hp1, hp2, hp3⟩ := (hf.mono a1).popped ht hL hi ho hd a2
      have hsub : (pends s.fr.tmps all fs L ++ pds).Sublist (pd ++ pds) := hp2.append (.refl _)
      have hsub2 := seen_sub P fr.fn ev
      refine ⟨_, w', _, M', R', hst, rfl, a6, fun e he => a7 e (hsub2 e he), ?_⟩
      rw [a8]
      refine ih ρ' { c with M := M', R := R', d := c.d } _ _ w' L m (.mk hp1 (hc.mono a1) (hnd.sublist hsub) (fun y hy => ?_) a4 a5 hdd g1 g2 g3 (hkp1.step' hok1 a6 a10 a11 a1)) (by rw [finish_region hL ho]) (by omega)
      obtain ⟨q1, q2⟩ := hpn y (hsub.subset hy)
      refine ⟨?_, q2⟩
      cases hxy : ρ' y with
      | none => rfl
      | some B =>
       rcases a9 y B hxy with h | rfl
       ·rw [q1] at h; cases h
       ·
        exfalso
        rw [hp3] at hnd
        have e1 : pends s.fr.tmps all fs (i :: L) = y :: pends s.fr.tmps all fs L := by
         unfold pends
         rw [List.flatMap_cons]
         have : dstOf all i = some t := by unfold dstOf; rw [ho]; exact ht'
         rw [if_pos ⟨hifs, by rw [ho]; simpa using ha⟩, this]
         simp only [Option.bind_some, (hd t ht').1, hb']
         rfl
        rw [e1] at hnd
        exact (List.nodup_cons.1 hnd).1 hy
end
end Go.Gd
namespace Go.Gd
open Go Go.Gw Go.Conc
def behind (b : Array Nat) (e : Nat) (fs : List Nat) : List Nat := fs.filter fun i => !befb b e i
def chained (b : Array Nat) (e : Nat) (es : List Nat) : Bool := es.all fun j => befb b j e && !Nat.beq j e
section
variable {P : Program} {ty : TypeId} {tys : Tys} {Post : Value → World → Prop} {main : Bool} {n : Nat} {E : Env} {ρ : Ren} {s : DS} {c : Ctx} {g : Goroutine} {w : World}
theorem dreg_len {pf : PF} {fr : Frame} {pd : List Nat} (h : FrR ρ pf fr pd) {all : Array Oper} {fs es : List Nat} {k : List PItem} (ht : pf.todo = .dreg all fs es :: k) : ∃ L m, fr.todo = .inRegion all L :: m ∧ L.length ≤ all.size := by
 obtain ⟨X, htd, hvt⟩ := h.todo
 rw [ht] at htd
 generalize fr.todo = ft at htd
 cases htd with
 | plain hk =>
  obtain ⟨b, m', _, hi, _⟩ := hk.cons_inv
  cases hi
 | dreg hk hfe h1 h2 h3 => exact ⟨_, _, rfl, nodup_bound hfe.nodup h3⟩
theorem Reach.ofProgress (_hb : main = true ∨ E.send ≠ none) (hm : s.fr.mode = .run) (hke : s.fr.kind ≠ .early) {all : Array Oper} {fs es : List Nat} {k : List PItem} (ht : s.fr.todo = .dreg all fs es :: k) (htm : tmpsOk all = true) (hnl : ∀ i ∈ fs, lateB all i = false) (hfs : ∀ i ∈ fs, i ∉ es → FOk P s all i) {s' : DS}
  (hfin : ∀ (E : Env), (main = true ∨ E.send ≠ none) → ∀ n, DW P ty Post main E n s' → ∀ ρ c fr cs w L m, DR E ρ s c (G fr cs) w → fr.todo = .inRegion all L :: m → (L = [] ∨ ∃ i l, L = i :: l ∧ i ∈ es) → W P ty Post main (n + 1) c (G fr cs) w) : Reach P ty Post main E s s' := by
 refine ⟨1 + all.size, fun E hb n hn ρ c g w h => ?_⟩
 have h0 := h
 cases h with
 | mk hf hc hnd hpn hH hok hdd g1 g2 g3 hkp =>
  obtain ⟨L, m, hL, hlen⟩ := dreg_len hf ht
  rw [← Nat.add_assoc]
  exact progress hb hm hke ht htm hnl hfs (fun ρ c fr cs w L m h hL hh => hfin E hb n hn ρ c fr cs w L m h hL hh) all.size ρ c _ _ w L m h0 hL hlen
theorem Reach.drawEnd (hb : main = true ∨ E.send ≠ none) (hm : s.fr.mode = .run) (hke : s.fr.kind ≠ .early) {all : Array Oper} {fs : List Nat} {k : List PItem} (ht : s.fr.todo = .dreg all fs [] :: k) (htm : tmpsOk all = true) (hnl : ∀ i ∈ fs, lateB all i = false) (hfs : ∀ i ∈ fs, FOk P s all i) :
  Reach P ty Post main E s { s with fr := { s.fr with todo := k } } := by
 refine Reach.ofProgress hb hm hke ht htm hnl (fun i hi _ => hfs i hi) fun E hb n hn ρ c fr cs w L m h hL hh => ?_
 have hnil : L = [] := by
  rcases hh with hh | ⟨i, l, _, hi⟩
  ·exact hh
  ·cases hi
 subst hnil
 cases h with
 | mk hf hc hnd hpn hH hok hdd g1 g2 g3 hkp =>
  rename_i cs pd pds
  have hpd : pd = [] := by rw [hf.pdOf ht hL]; rfl
  obtain ⟨X, htd, hvt⟩ := hf.todo
  rw [ht, hL] at htd
  have hkm : LR (ItR ρ) k m ∧ ∀ t, ¬ X t := by
   cases htd with
   | plain hk =>
    obtain ⟨b, m', _, hi, _⟩ := hk.cons_inv
    cases hi
   | dreg hk hfe h1 h2 h3 => exact ⟨hk, fun t ⟨i, hi, _⟩ => by cases hi⟩
  have hr := FrR.run hf hm
  subst hpd
  refine W.dctl (c := c) rfl rfl (hb.imp id fun e => by rw [g1]; exact e) hok (g' := G { fr with todo := m } (cs ++ E.base)) (fun w₁ => ?_) (hn ρ c _ w (.mk ⟨hf.fn, hf.size, ⟨_, .plain hkm.1, fun k' v' hk' _ => hvt k' v' hk' (hkm.2 k')⟩, hf.defers, hf.mode, hf.kind, hf.round⟩ hc hnd hpn hH hok hdd g1 g2 g3 hkp))
  simp [G, stepG, stepG.exec, hr, hL]
theorem head_put {tm : T Value} {pf : PF} {fr : Frame} {X : Tmp → Prop} {all : Array Oper} {fs es : List Nat} {e : Nat} {l : List Nat} {o : Oper} (htm : tmpsOk all = true) (ho : all[e]? = some o) (hfe : Feas (Region.before all) (e :: l)) (_h1 : ∀ i ∈ es, i ∈ l) (h2 : ∀ i ∈ l, i ∈ fs ∨ i ∈ es) (hX : ∀ t, X t ↔ ∃ q ∈ e :: l, q ∈ fs ∧ dstOf all q = some t)
  (hs : fr.tmps.size = pf.nt) (hvt : ∀ k v, pf.tmps.get k = some v → ¬ X k → ∃ v', fr.tmps[k]? = some v' ∧ VR ρ v v') {v v' : Value} (hp : pput pf o.dst v = some tm) (hv : VR ρ v v') :
  (match o.dst with | some d => fr.tmps.setIfInBounds d v' | none => fr.tmps).size = pf.nt ∧ (∀ i ∈ l, i ∈ behind (Region.before all) e fs ∨ i ∈ es) ∧ pends tm all (behind (Region.before all) e fs) l = pends pf.tmps all fs l ∧
  ∀ k u, tm.get k = some u → ¬ (∃ q ∈ l, q ∈ behind (Region.before all) e fs ∧ dstOf all q = some k) → ∃ u', (match o.dst with | some d => fr.tmps.setIfInBounds d v' | none => fr.tmps)[k]? = some u' ∧ VR ρ u u' := by
 obtain ⟨p1, p2⟩ := put_tmps (X := X) hs hvt hp hv
 cases hfe with
 | cons ha hn tl =>
  have hmem : ∀ q ∈ l, (q ∈ fs ↔ q ∈ behind (Region.before all) e fs) := fun q hq => by
   unfold behind
   rw [List.mem_filter]
   simp [ha q hq]
  have hne : ∀ q ∈ l, q ≠ e := fun q hq h => hn (h ▸ hq)
  refine ⟨p1, fun i hi => (h2 i hi).imp (hmem i hi).1 id, (pends_congr fun i hi => ⟨hmem i hi, fun _ => ?_⟩).symm, fun k u hk hx => p2 k u hk fun hd hxk => ?_⟩
  ·cases hd : dstOf all i with
   | none => rfl
   | some t =>
    simp only [Option.bind_some]
    rw [put_get hp t]
    by_cases q : o.dst = some t
    ·have : dstOf all e = some t := by unfold dstOf; rw [ho]; exact q
     exact absurd (tmpsOk_dst htm hd this) (hne i hi)
    ·rw [if_neg q]
  ·obtain ⟨q, q1, q2, q3⟩ := (hX k).1 hxk
   rcases List.mem_cons.1 q1 with rfl | q1
   ·unfold dstOf at q3
    rw [ho] at q3
    exact hd q3
   ·exact hx ⟨q, q1, (hmem q q1).1 q2, q3⟩
theorem at_head {pf : PF} {fr : Frame} {pd : List Nat} (h : FrR ρ pf fr pd) {all : Array Oper} {fs es : List Nat} {e : Nat} {k : List PItem} (ht : pf.todo = .dreg all fs (e :: es) :: k) (hch : chained (Region.before all) e es = true) {L : List Nat} {m : List Item} (hL : fr.todo = .inRegion all L :: m) (hh : L = [] ∨ ∃ i l, L = i :: l ∧ i ∈ e :: es) :
  ∃ (l : List Nat) (X : Tmp → Prop), L = e :: l ∧ LR (ItR ρ) k m ∧ Feas (Region.before all) (e :: l) ∧ (∀ i ∈ es, i ∈ l) ∧ (∀ i ∈ l, i ∈ fs ∨ i ∈ es) ∧ (∀ i ∈ e :: l, i < all.size) ∧ (∀ t, X t ↔ ∃ q ∈ e :: l, q ∈ fs ∧ dstOf all q = some t) ∧ pd = pends pf.tmps all fs (e :: l) ∧ ∀ k v, pf.tmps.get k = some v → ¬ X k → ∃ v', fr.tmps[k]? = some v' ∧ VR ρ v v' := by
 have hpd := h.pdOf ht hL
 obtain ⟨X, htd, hvt⟩ := h.todo
 rw [ht, hL] at htd
 cases htd with
 | plain hk =>
  obtain ⟨b, m', _, hi, _⟩ := hk.cons_inv
  cases hi
 | dreg hk hfe h1 h2 h3 =>
  have heL : e ∈ L := h1 e (by simp)
  have hchain : ∀ j ∈ es, befb (Region.before all) j e = true ∧ j ≠ e := fun j hj => by
   have := List.all_eq_true.1 hch j hj
   simp only [Bool.and_eq_true, Bool.not_eq_true'] at this
   exact ⟨this.1, Nat.ne_of_beq_eq_false this.2⟩
  rcases hh with rfl | ⟨i, l, rfl, hi⟩
  ·cases heL
  ·have hie : i = e := by
    rcases List.mem_cons.1 hi with h | hi
    ·exact h
    ·obtain ⟨q1, q2⟩ := hchain i hi
     rcases List.mem_cons.1 heL with h | hel
     ·exact absurd h.symm q2
     ·cases hfe with
      | cons ha hn tl => rw [ha e hel] at q1; cases q1
   subst hie
   have hfe' := hfe
   cases hfe with
   | cons ha hn tl =>
    refine ⟨l, _, rfl, hk, hfe', fun j hj => ?_, fun j hj => ?_, h3, fun t => Iff.rfl, hpd, hvt⟩
    ·rcases List.mem_cons.1 (h1 j (by simp [hj])) with q | q
     ·exact absurd q (hchain j hj).2
     ·exact q
    ·rcases h2 j (by simp [hj]) with q | q
     ·exact .inl q
     ·rcases List.mem_cons.1 q with rfl | q
      ·exact absurd hj hn
      ·exact .inr q
theorem pends_tail {tm : T Value} {all : Array Oper} {fs : List Nat} {e : Nat} {l : List Nat} : (pends tm all fs l).Sublist (pends tm all fs (e :: l)) := by
 rw [show e :: l = [e] ++ l from rfl, pends_app]
 exact List.sublist_append_right _ _
theorem Reach.drawVal (hb : main = true ∨ E.send ≠ none) (hm : s.fr.mode = .run) (hke : s.fr.kind ≠ .early) {all : Array Oper} {fs es : List Nat} {e : Nat} {k : List PItem} (ht : s.fr.todo = .dreg all fs (e :: es) :: k) (htm : tmpsOk all = true) (hch : chained (Region.before all) e es = true) (hnl : ∀ i ∈ fs, lateB all i = false) (hfs : ∀ i ∈ fs, i ∉ e :: es → FOk P s all i)
  {o : Oper} (ho : all[e]? = some o) (hd : ∀ c, o.op ≠ .defer c) (hw : pwanted s.fr all o = some true) {v : Value} {tm : T Value} {H' : PH} {d' : Nat} (hnx : s.H.next ≤ H'.next) (hp : pput s.fr o.dst v = some tm)
  (hs : ∀ ρ c fr w₁, EvR s.H.ng ρ s.fr fr o → HR ρ s.H c w₁ → COk c w₁ → c.d = s.d → SoundD P s.fr.fn ρ s.H.next v H' d' c w₁ (execOp fr.eval o)) :
  Reach P ty Post main E s { fr := { s.fr with tmps := tm, todo := .dreg all (behind (Region.before all) e fs) es :: k }, cs := s.cs, H := H', d := d' } := by
 refine Reach.ofProgress hb hm hke ht htm hnl hfs fun E hb n hn ρ c fr cs w L m h hL hh => ?_
 cases h with
 | mk hf hc hnd hpn hH hok hdd g1 g2 g3 hkp =>
  rename_i cs pd pds
  obtain ⟨l, X, rfl, hkm, hfe, h1, h2, h3, hX, hpd, hvt⟩ := at_head hf ht hch hL hh
  have look : ∀ t ∈ looksAt all o, ¬ X t := fun t htl hx => by
   obtain ⟨q, q1, q2, q3⟩ := (hX t).1 hx
   exact head_look htm ho hfe htl q q1 (hnl q q2) q3
  have hr := FrR.run hf hm
  refine W.dpriv rfl (hb.imp id fun e => by rw [g1]; exact e) fun w₁ r => ?_
  have hH1 := hH.rely r
  have hok1 := hok.rely r
  obtain ⟨ρ', M', R', v', w', ev, a1, a2, a3, a4, a5, a6, a7, a8, a9⟩ := hs ρ c fr w₁ (EvR.look hvt hH1 look) hH1 hok1 hdd
  have hst := stepG_val (P := P) (main := main) (cs := cs ++ E.base) hr hL ho (wanted_look hvt look hw) (by rw [hf.kind]; exact hke) (fun c hc => absurd hc (hd c)) a3
  have hsub2 := seen_sub P fr.fn ev
  obtain ⟨p1, p2, p3, p4⟩ := head_put htm ho hfe h1 h2 hX hf.size (fun k v hk hx => let ⟨v', a, b⟩ := hvt k v hk hx; ⟨v', a, b.mono a1⟩) hp a2
  refine ⟨_, w', _, M', R', hst, rfl, a6, fun e he => a7 e (hsub2 e he), ?_⟩
  rw [hf.fn, a8, finish_region hL ho]
  have hfm := hf.mono a1
  have htl : Feas (Region.before all) l := by cases hfe with | cons _ _ tl => exact tl
  have hfr' : FrR ρ' { s.fr with tmps := tm, todo := .dreg all (behind (Region.before all) e fs) es :: k } ({ fr with tmps := match o.dst with | some d => fr.tmps.setIfInBounds d v' | none => fr.tmps, todo := .inRegion all l :: m } : Frame) (pends tm all (behind (Region.before all) e fs) l) :=
   ⟨hf.fn, p1, ⟨_, .dreg (hkm.mono fun _ _ => ItR.mono a1) htl h1 p2 (fun i hi => h3 i (by simp [hi])), fun k' u hk' hx => p4 k' u hk' hx⟩, hfm.defers, hfm.mode, hf.kind, hfm.round⟩
  have hsub : (pends tm all (behind (Region.before all) e fs) l ++ pds).Sublist (pd ++ pds) := by
   rw [p3, hpd]
   exact List.Sublist.append pends_tail (.refl _)
  refine hn ρ' { c with M := M', R := R', d := d' } _ w' (.mk hfr' (hc.mono a1) (hnd.sublist hsub) (fun b hb => ?_) ?_ ?_ rfl g1 g2 g3 ((hkp.rely r).step hok1 a6 a9 a1))
  ·obtain ⟨q1, q2⟩ := hpn b (hsub.subset hb)
   refine ⟨?_, Nat.lt_of_lt_of_le q2 hnx⟩
   cases hx : ρ' b with
   | none => rfl
   | some B =>
    rcases a9.new b B hx with h | h
    ·rw [q1] at h; cases h
    ·omega
  ·exact ⟨a4.cap, a4.dom, fun b B o hb hob => (by
    have := a4.rel b B o hb hob
    cases this with
    | cells hs he hf hle hown hR hok => exact .cells hs he hf hle hown hR hok
    | obj hw ho hM => exact .obj hw ho hM), a4.inj, a4.glob, a4.mem⟩
  ·exact ⟨a5.ml, a5.rl, a5.rm⟩
theorem Reach.drawCall (hb : main = true ∨ E.send ≠ none) (hm : s.fr.mode = .run) (hke : s.fr.kind ≠ .early) {all : Array Oper} {fs es : List Nat} {e : Nat} {k : List PItem} (ht : s.fr.todo = .dreg all fs (e :: es) :: k) (htm : tmpsOk all = true) (hch : chained (Region.before all) e es = true) (hnl : ∀ i ∈ fs, lateB all i = false) (hfs : ∀ i ∈ fs, i ∉ e :: es → FOk P s all i)
  {o : Oper} (hefs : e ∉ fs) (ho : all[e]? = some o) (hd : ∀ c, o.op ≠ .defer c) (hw : pwanted s.fr all o = some true) {f : FuncId} {fn : Func} {body : Code} (hf : P.funcs[f]? = some fn) (hbd : fn.body = some body) {args : List Value} (hlen : args.length ≤ 2 ^ T.deep)
  (hs : ∀ ρ c fr w₁, EvR s.H.ng ρ s.fr fr o → HR ρ s.H c w₁ → COk c w₁ → CallS P ρ f args w₁ (execOp fr.eval o)) :
  Reach P ty Post main E s { s with fr := penter f fn body args .normal, cs := { s.fr with todo := .dcall all (behind (Region.before all) e fs) e es :: k } :: s.cs } := by
 refine Reach.ofProgress hb hm hke ht htm hnl hfs fun E hb n hn ρ c fr cs w L m h hL hh => ?_
 cases h with
 | mk hf' hc hnd hpn hH hok hdd g1 g2 g3 hkp =>
  rename_i cs pd pds
  obtain ⟨l, X, rfl, hkm, hfe, h1, h2, h3, hX, hpd, hvt⟩ := at_head hf' ht hch hL hh
  have look : ∀ t ∈ looksAt all o, ¬ X t := fun t htl hx => by
   obtain ⟨q, q1, q2, q3⟩ := (hX t).1 hx
   exact head_look htm ho hfe htl q q1 (hnl q q2) q3
  have hr := FrR.run hf' hm
  refine W.dpriv rfl (hb.imp id fun e => by rw [g1]; exact e) fun w₁ r => ?_
  have hH1 := hH.rely r
  have hok1 := hok.rely r
  obtain ⟨args', a1, a2⟩ := hs ρ c fr w₁ (EvR.look hvt hH1 look) hH1 hok1
  have hst := stepG_enterD (P := P) (main := main) (cs := cs ++ E.base) hr hL ho (wanted_look hvt look hw) (by rw [hf'.kind]; exact hke) hd a2
  have hse : seen P fr.fn #[] = #[] := by rw [seen_def]; rfl
  refine ⟨_, w₁, _, c.M, c.R, hst, rfl, Guar.refl hok1, by rw [hse]; exact Foot.nil _ _ _, ?_⟩
  rw [hse]
  have hfe' := hfe
  cases hfe with
  | cons ha hnn tl =>
   have hmem : ∀ q ∈ l, (q ∈ fs ↔ q ∈ behind (Region.before all) e fs) := fun q hq => by
    unfold behind
    rw [List.mem_filter]
    simp [ha q hq]
   have hp' : pends s.fr.tmps all fs l = pends s.fr.tmps all (behind (Region.before all) e fs) l := pends_congr fun i hi => ⟨hmem i hi, fun _ => rfl⟩
   have hfr' : FrR ρ { s.fr with todo := .dcall all (behind (Region.before all) e fs) e es :: k } fr (pends s.fr.tmps all (behind (Region.before all) e fs) l) := by
    refine ⟨hf'.fn, hf'.size, ⟨fun t => ∃ q ∈ l, q ∈ behind (Region.before all) e fs ∧ dstOf all q = some t, by rw [hL]; exact .dcall hkm hfe' h1 (fun i hi => (h2 i hi).imp (hmem i hi).1 id) h3, fun k' u hk' hx => ?_⟩, hf'.defers, hf'.mode, hf'.kind, hf'.round⟩
    refine hvt k' u hk' fun hx' => ?_
    obtain ⟨q, q1, q2, q3⟩ := (hX k').1 hx'
    rcases List.mem_cons.1 q1 with rfl | q1
    ·exact hefs q2
    ·exact hx ⟨q, q1, (hmem q q1).1 q2, q3⟩
   have hdr : DR E ρ { s with fr := penter f fn body args .normal, cs := { s.fr with todo := .dcall all (behind (Region.before all) e fs) e es :: k } :: s.cs } c (G (Frame.enter P f args' .normal) (fr :: cs ++ E.base)) w₁ := by
    have hsub : (pends s.fr.tmps all (behind (Region.before all) e fs) l ++ pds).Sublist (pd ++ pds) := by
     rw [← hp', hpd]
     exact List.Sublist.append pends_tail (.refl _)
    exact .mk (FrR.enter hf hbd a1 hlen .normal) (.cons hfr' hc) (by simpa using hnd.sublist hsub) (fun b hb => hpn b (hsub.subset (by simpa using hb))) hH1 hok1 hdd g1 g2 g3 (hkp.rely r)
   exact hn ρ c _ w₁ hdr
theorem Reach.retDraw (hty : TysOk P tys) (hb : main = true ∨ E.send ≠ none) (hm : s.fr.mode = .returning) (hdf : s.fr.defers = []) (hpt : plainTodo s.fr.todo = true) (hk : s.fr.kind = .normal) {fn : Func} (hf : P.funcs[s.fr.fn]? = some fn) {vs : List Value} (hv : presults tys s.H s.fr.tmps fn.results.toList = some vs)
  {pf : PF} {cs' : List PF} (hcs : s.cs = pf :: cs') {all : Array Oper} {fs es : List Nat} {e : Nat} {k : List PItem} (ht : pf.todo = .dcall all fs e es :: k) (htm : tmpsOk all = true) {o : Oper} (ho : all[e]? = some o) {tm : T Value} (hp : pput pf o.dst (presV vs) = some tm) (_hch : chained (Region.before all) e es = true) :
  Reach P ty Post main E s { s with fr := { pf with tmps := tm, todo := .dreg all (behind (Region.before all) e fs) es :: k }, cs := cs' } := by
 refine Reach.frames hb fun E ρ c fr cs pd pds w hfr hc hH hok => ?_
 rw [hcs] at hc
 cases hc with
 | cons hc1 hct =>
  rename_i cfr crest pd1 pds1
  obtain ⟨hpd, _, hvt⟩ := hfr.plain' hpt
  obtain ⟨v', ev, q1, q2, q3⟩ := run_resultsV (P := P) hty hH hvt hv
  have hmode : fr.mode = .returning := hfr.mode.run_inv.2 hm
  have hdef : fr.defers = [] := by
   have := hfr.defers
   rw [hdf] at this
   exact this.nil_inv
  have hst := stepG_ret (P := P) (main := main) (cs := (cfr :: crest) ++ E.base) hmode hdef (by rw [hfr.fn]; exact hf) q3
  have hdo : doReturn P main fr ((cfr :: crest) ++ E.base) none v' w = .go (G (cfr.finish v') (crest ++ E.base)) w := by
   have hkn : fr.kind = .normal := by rw [hfr.kind]; exact hk
   simp [doReturn, hkn, G]
  rw [hdo, after_go] at hst
  obtain ⟨X, htd, hvc⟩ := hc1.todo
  rw [ht] at htd
  generalize hcm : cfr.todo = ct at htd
  cases htd with
  | plain hk =>
   obtain ⟨b, m', _, hi, _⟩ := hk.cons_inv
   cases hi
  | dcall hkm hfe h1 h2 h3 =>
   rename_i m l
   have hfe' := hfe
   obtain ⟨p1, p2, p3, p4⟩ := head_put (X := fun t => ∃ q ∈ e :: l, q ∈ fs.filter (fun q => !Nat.beq q e) ∧ dstOf all q = some t) (fs := fs.filter (fun q => !Nat.beq q e)) htm ho hfe h1 (fun i hi => by
    rcases h2 i hi with q | q
    ·refine .inl (List.mem_filter.2 ⟨q, ?_⟩)
     cases hfe' with
     | cons ha hn tl =>
      have : i ≠ e := fun h => hn (h ▸ hi)
      rw [beq_eq]; simpa using this
    ·exact .inr q) (fun t => Iff.rfl) hc1.size (fun k' u hk' hx => hvc k' u hk' fun ⟨i, i1, i2, i3⟩ => hx ⟨i, by simp [i1], List.mem_filter.2 ⟨i2, by
     cases hfe' with
     | cons ha hn tl =>
      have : i ≠ e := fun h => hn (h ▸ i1)
      rw [beq_eq]; simpa using this⟩, i3⟩) hp q1
   cases hfe with
   | cons ha hn tl =>
    have hne : ∀ i ∈ l, i ≠ e := fun i hi h => hn (h ▸ hi)
    have hmm : ∀ i ∈ l, (i ∈ behind (Region.before all) e (fs.filter (fun q => !Nat.beq q e)) ↔ i ∈ behind (Region.before all) e fs) := fun i hi => by
     unfold behind
     rw [List.mem_filter, List.mem_filter, List.mem_filter]
     have : (!Nat.beq i e) = true := by rw [beq_eq]; simpa using hne i hi
     simp [this]
    have hpe : pends tm all (behind (Region.before all) e fs) l = pends pf.tmps all fs l := by
     refine Eq.trans (pends_congr fun i hi => ⟨(hmm i hi).symm, fun _ => rfl⟩) (p3.trans (pends_congr fun i hi => ⟨?_, fun _ => rfl⟩))
     rw [List.mem_filter]
     have : (!Nat.beq i e) = true := by rw [beq_eq]; simpa using hne i hi
     simp [this]
    refine ⟨cfr.finish v', crest, pends tm all (behind (Region.before all) e fs) l, pds1, ev, ?_, hct, by subst hpd; rw [hpe]; simp, q2, by simpa using hst⟩
    rw [finish_region hcm ho]
    exact ⟨hc1.fn, p1, ⟨_, .dreg hkm tl h1 (fun i hi => (p2 i hi).imp (hmm i hi).1 id) (fun i hi => h3 i (by simp [hi])), fun k' u hk' hx => p4 k' u hk' fun ⟨i, i1, i2, i3⟩ => hx ⟨i, i1, (hmm i i1).1 i2, i3⟩⟩, hc1.defers, hc1.mode, hc1.kind, hc1.round⟩
end
end Go.Gd
namespace Go.Gd
open Go Go.Gw Go.Conc
def addrEq (a b : Addr) : Bool := match a.spot with
 | none => match b.spot with
  | none => Nat.beq a.block b.block && Nat.beq a.off b.off
  | _ => false
 | _ => false
theorem addrEq_eq {a b : Addr} (h : addrEq a b = true) : a = b := by
 obtain ⟨b1, o1, s1⟩ := a
 obtain ⟨b2, o2, s2⟩ := b
 cases s1 <;> cases s2 <;> simp only [addrEq, Bool.and_eq_true] at h
 ·rw [Nat.eq_of_beq_eq_true h.1, Nat.eq_of_beq_eq_true h.2]
 ·cases h
 ·cases h
 ·cases h
def listEq {α : Type} (eq : α → α → Bool) (l : List α) : List α → Bool :=
 List.rec (motive := fun _ => List α → Bool) (fun m => match m with | [] => true | _ => false) (fun a _ ih m => match m with | [] => false | b :: m => eq a b && ih m) l
theorem listEq_eq {α : Type} {eq : α → α → Bool} (h : ∀ a b, eq a b = true → a = b) : ∀ {l m : List α}, listEq eq l m = true → l = m
 | [], [], _ => rfl
 | [], b :: m, e => by cases e
 | a :: l, [], e => by cases e
 | a :: l, b :: m, e => by
  have e : (eq a b && listEq eq l m) = true := e
  rw [Bool.and_eq_true] at e
  rw [h a b e.1, listEq_eq h e.2]
def fnEq (a b : Fn) : Bool := match a with
 | .func f => match b with | .func g => Nat.beq f g | _ => false
 | .yield l => match b with | .yield m => Nat.beq l m | _ => false
 | _ => false
theorem fnEq_eq {a b : Fn} (h : fnEq a b = true) : a = b := by
 cases a <;> simp only [fnEq] at h <;> first | (cases h; done) | skip
 ·cases b <;> simp only at h <;> first | (cases h; done) | rw [Nat.eq_of_beq_eq_true h]
 ·cases b <;> simp only at h <;> first | (cases h; done) | rw [Nat.eq_of_beq_eq_true h]
def veqS (ih : Value → Value → Bool) (a b : Value) : Bool :=
 match a with
  | .bool x => match b with | .bool y => x == y | _ => false
  | .int k x => match b with | .int k' y => kindEq k k' && ieq x y | _ => false
  | .string x => match b with | .string y => listEq (fun a b => Nat.beq a.toNat b.toNat) x.data.toList y.data.toList | _ => false
  | .pointer none => match b with | .pointer none => true | _ => false
  | .pointer (some x) => match b with | .pointer (some y) => addrEq x y | _ => false
  | .slice none x x' => match b with | .slice none y y' => Nat.beq x y && Nat.beq x' y' | _ => false
  | .slice (some p) x x' => match b with | .slice (some q) y y' => addrEq p q && (Nat.beq x y && Nat.beq x' y') | _ => false
  | .map none => match b with | .map none => true | _ => false
  | .map (some x) => match b with | .map (some y) => Nat.beq x y | _ => false
  | .func f xs ys => match b with | .func g us vs => fnEq f g && (listEq ih xs.toList us.toList && listEq ih ys.toList vs.toList) | _ => false
  | .nilFunc => match b with | .nilFunc => true | _ => false
  | .iface t x => match b with | .iface u y => Nat.beq t u && ih x y | _ => false
  | .nilIface => match b with | .nilIface => true | _ => false
  | .agg xs => match b with | .agg ys => listEq ih xs.toList ys.toList | _ => false
  | .tuple xs => match b with | .tuple ys => listEq ih xs.toList ys.toList | _ => false
  | _ => false
def veq (n : Nat) : Value → Value → Bool :=
 Nat.rec (motive := fun _ => Value → Value → Bool) (fun _ _ => false) (fun _ ih a b => veqS ih a b) n
theorem veq_eq : ∀ (n : Nat) (a b : Value), veq n a b = true → a = b
 | 0, _, _, h => by cases h
 | n + 1, a, b, h => by
  have ih := veq_eq n
  have arr : ∀ {xs ys : Array Value}, listEq (veq n) xs.toList ys.toList = true → xs = ys := fun h => by
   have := listEq_eq ih h
   exact Array.toList_inj.1 this
  have h : veqS (veq n) a b = true := h
  unfold veqS at h
  cases a with
  | bool x => cases b with
   | bool y => rw [eq_of_beq h]
   | _ => cases h
  | int k x => cases b with
   | int k' y =>
    simp only [Bool.and_eq_true, ieq_eq] at h
    rw [kindEq_eq h.1, of_decide_eq_true h.2]
   | _ => cases h
  | string x => cases b with
   | string y =>
    have := listEq_eq (fun (a b : UInt8) hab => UInt8.toNat_inj.1 (Nat.eq_of_beq_eq_true hab)) h
    obtain ⟨x⟩ := x
    obtain ⟨y⟩ := y
    simp only at this
    rw [Array.toList_inj.1 this]
   | _ => cases h
  | pointer p => cases p with
   | none => cases b with
    | pointer q => cases q with
     | none => rfl
     | some q => cases h
    | _ => cases h
   | some p => cases b with
    | pointer q => cases q with
     | none => cases h
     | some q => rw [addrEq_eq h]
    | _ => cases h
  | slice p x x' => cases p with
   | none => cases b with
    | slice q y y' => cases q with
     | none =>
      simp only [Bool.and_eq_true] at h
      rw [Nat.eq_of_beq_eq_true h.1, Nat.eq_of_beq_eq_true h.2]
     | some q => cases h
    | _ => cases h
   | some p => cases b with
    | slice q y y' => cases q with
     | none => cases h
     | some q =>
      simp only [Bool.and_eq_true] at h
      rw [addrEq_eq h.1, Nat.eq_of_beq_eq_true h.2.1, Nat.eq_of_beq_eq_true h.2.2]
    | _ => cases h
  | map p => cases p with
   | none => cases b with
    | map q => cases q with
     | none => rfl
     | some q => cases h
    | _ => cases h
   | some p => cases b with
    | map q => cases q with
     | none => cases h
     | some q => rw [Nat.eq_of_beq_eq_true h]
    | _ => cases h
  | func f xs ys => cases b with
   | func g us vs =>
    simp only [Bool.and_eq_true] at h
    rw [fnEq_eq h.1, arr h.2.1, arr h.2.2]
   | _ => cases h
  | nilFunc => cases b with
   | nilFunc => rfl
   | _ => cases h
  | iface t x => cases b with
   | iface u y =>
    simp only [Bool.and_eq_true] at h
    rw [Nat.eq_of_beq_eq_true h.1, ih _ _ h.2]
   | _ => cases h
  | nilIface => cases b with
   | nilIface => rfl
   | _ => cases h
  | agg xs => cases b with
   | agg ys => rw [arr h]
   | _ => cases h
  | tuple xs => cases b with
   | tuple ys => rw [arr h]
   | _ => cases h
  | _ => cases h
end Go.Gd
namespace Go.Gd
open Go Go.Gw Go.Conc
def peqNil (d : TypeDesc) (a b : Value) : Option Bool :=
 match d with
 | .pointer _ => match a with
  | .pointer none => match b with | .pointer (some _) => some false | _ => none
  | .pointer (some _) => match b with | .pointer none => some false | _ => none
  | _ => none
 | .slice _ => match a with
  | .slice none _ _ => match b with | .slice (some _) _ _ => some false | .slice none _ _ => some true | _ => none
  | .slice (some _) _ _ => match b with | .slice none _ _ => some false | _ => none
  | _ => none
 | .map _ _ => match a with
  | .map none => match b with | .map (some _) => some false | _ => none
  | .map (some _) => match b with | .map none => some false | _ => none
  | _ => none
 | .func _ _ _ => match a with
  | .nilFunc => match b with | .func _ _ _ => some false | _ => none
  | .func _ _ _ => match b with | .nilFunc => some false | _ => none
  | _ => none
 | .interface _ => match a with
  | .nilIface => match b with | .iface _ _ => some false | _ => none
  | .iface t _ => match b with | .nilIface => some false | .iface u _ => cond (Nat.beq t u) none (some false) | _ => none
  | _ => none
 | _ => none
def peqOp (op : BinOp) (r : Bool) : Option Value := match op with
 | .eql => some (.bool r)
 | .neq => some (.bool !r)
 | _ => none
section
variable {P : Program} {ty : Tys} {ρ : Ren} {pf : PF} {fr : Frame} {H : PH} {c : Ctx} {w : World}
theorem peqNil_run (hty : TysOk P ty) {t : TypeId} {i : TypeInfo} {d : TypeDesc} (h : ty.get t = some (i, d)) {a b a' b' : Value} (ha : VR ρ a a') (hb : VR ρ b b') {r : Bool} (hp : peqNil d a b = some r) :
  (Op.equal t a' b').runT P w #[] = (.ok r w, #[]) ∧ ∀ op x y, eqGuard op t x y a' b' = .pure () := by
 have hund := runT_und (w := w) (es := #[]) (hty _ _ h).2
 have e0 : Op.equal t a' b' = Op.equalIn (9999 + 1) t a' b' := rfl
 have guard : (∀ op x y, eqGuard op t x y a' b' = .pure ()) ↔ True := ⟨fun _ => trivial, fun _ => by
  intro op x y
  unfold eqGuard
  cases ha <;> cases hb <;> first
   | (cases op <;> rfl)
   | (cases d <;> cases hp)⟩
 refine ⟨?_, guard.2 trivial⟩
 rw [e0]
 unfold Op.equalIn
 refine (runT_ok hund).trans ?_
 cases d with
 | pointer e =>
  cases ha with
  | ptr0 => cases hb with
   | ptr hB => cases hp; rfl
   | _ => cases hp
  | ptr hA => cases hb with
   | ptr0 => cases hp; rfl
   | _ => cases hp
  | _ => cases hp
 | slice e =>
  cases ha with
  | sl0 => cases hb with
   | sl hB hc => cases hp; rfl
   | sl0 => cases hp; rfl
   | _ => cases hp
  | sl hA hc => cases hb with
   | sl0 => cases hp; rfl
   | _ => cases hp
  | _ => cases hp
 | map k e =>
  cases ha with
  | map0 => cases hb with
   | map hB => cases hp; rfl
   | _ => cases hp
  | map hA => cases hb with
   | map0 => cases hp; rfl
   | _ => cases hp
  | _ => cases hp
 | func ps rs v =>
  cases ha with
  | nilFunc => cases hb with
   | func h1 h2 h3 => cases hp; rfl
   | _ => cases hp
  | func h1 h2 h3 => cases hb with
   | nilFunc => cases hp; rfl
   | _ => cases hp
  | _ => cases hp
 | interface ms =>
  cases ha with
  | nilIface => cases hb with
   | iface hv => cases hp; rfl
   | _ => cases hp
  | iface hv => cases hb with
   | nilIface => cases hp; rfl
   | iface hv' =>
    rename_i t1 _ _ t2 _ _
    simp only [peqNil] at hp
    cases e : Nat.beq t1 t2 with
    | true => rw [e] at hp; cases hp
    | false =>
     rw [e] at hp
     simp only [cond_false, Option.some.injEq] at hp
     subst hp
     simp only
     rw [if_pos (Nat.ne_of_beq_eq_false e)]
     rfl
   | _ => cases hp
  | _ => cases hp
 | _ => cases hp
theorem eqNil_sound {hn : Nat} {o : Oper} (hty : TysOk P ty) (h : EvR H.ng ρ pf fr o) (hH : HR ρ H c w) (hok : COk c w) {op : BinOp} {t t' : TypeId} {x y : Operand} (ho : o.op = .binOp op t x y t') {i : TypeInfo} {d : TypeDesc} (e1 : ty.get t = some (i, d)) {a b : Value} (hx : peval H.ng pf x = some a) (hy : peval H.ng pf y = some b)
  {r : Bool} (hp : peqNil d a b = some r) {v : Value} (hv : peqOp op r = some v) : Sound P ρ hn v H c w (execOp fr.eval o) := by
 have h1 := h x (by simp [ho, Op.operands]) _ hx
 have h2 := h y (by simp [ho, Op.operands]) _ hy
 obtain ⟨q1, q2⟩ := peqNil_run (P := P) (w := w) hty e1 h1 h2 hp
 have hterm : execOp fr.eval o = ((do eqGuard op t x y (fr.eval x) (fr.eval y); binOp op t (fr.eval x) (fr.eval y) : Sem Value)).bind fun r => Sem.pure (Next.value r) := by
  unfold execOp
  rw [ho]
  rfl
 have hbin : ∀ (f : Bool → Bool), (binOp op t (fr.eval x) (fr.eval y) = (Op.equal t (fr.eval x) (fr.eval y)).bind fun r => Sem.pure (.bool (f r))) → VR ρ v (.bool (f r)) → Sound P ρ hn v H c w (execOp fr.eval o) := fun f hf hvr => by
  refine Sound.pure hH hok hvr ?_
  rw [hterm]
  have : ((do eqGuard op t x y (fr.eval x) (fr.eval y); binOp op t (fr.eval x) (fr.eval y) : Sem Value)).runT P w #[] = (.ok (.bool (f r)) w, #[]) := by
   rw [q2]
   show (binOp op t (fr.eval x) (fr.eval y)).runT P w #[] = _
   rw [hf, runT_ok q1]
   rfl
  rw [runT_ok this]
  rfl
 have shape : ∀ op', (op' = .eql ∨ op' = .neq) → binOp op' t (fr.eval x) (fr.eval y) = (Op.equal t (fr.eval x) (fr.eval y)).bind fun r => Sem.pure (.bool (if op' = .eql then r else !r)) := fun op' hop => by
  generalize fr.eval x = u1 at h1
  generalize fr.eval y = u2 at h2
  rcases hop with rfl | rfl
  ·cases h1 <;> cases h2 <;> first
    | rfl
    | (cases d <;> cases hp)
  ·cases h1 <;> cases h2 <;> first
    | rfl
    | (cases d <;> cases hp)
 cases op with
 | eql =>
  simp only [peqOp, Option.some.injEq] at hv
  subst hv
  exact hbin (fun r => r) (by rw [shape .eql (.inl rfl)]; rfl) (.bool _)
 | neq =>
  simp only [peqOp, Option.some.injEq] at hv
  subst hv
  exact hbin (fun r => !r) (by rw [shape .neq (.inr rfl)]; rfl) (.bool _)
 | _ => cases hv
def upT (d : TypeDesc) : Bool := TypeDesc.casesOn (motive := fun _ => Bool) d false false (fun _ => false) (fun _ => false) (fun _ => false) false true (fun _ => false) (fun _ => false) (fun _ _ => false) (fun _ _ => false) (fun _ _ => false) (fun _ => false) (fun _ _ _ => false) (fun _ => false) (fun _ => false) (fun _ _ => false)
theorem upT_cond {α : Type} {b : Bool} {x : Option α} {y : α} (h : cond b x none = some y) : b = true ∧ x = some y := by
 cases b with
 | true => exact ⟨rfl, h⟩
 | false => cases h
def pconvPtr (ty : Tys) (H : PH) (s t : TypeId) (a : Addr) : Option Value :=
 match ty.get s with
 | some (_, .pointer e) => match ty.get t with
  | some (_, td) => cond (upT td) (match psize ty e with
   | some n => match a.spot with
    | none => match H.t.get a.block with
     | some (.cells _ size _ _ _ _ _ _) => cond (!Nat.beq n 0 && Nat.blt a.off size) (some (.pointer (some a))) none
     | _ => none
    | _ => none
   | none => none) none
  | none => none
 | _ => none
theorem convPtr_sound {hn : Nat} {o : Oper} (hty : TysOk P ty) (h : EvR H.ng ρ pf fr o) (hH : HR ρ H c w) (hok : COk c w) {s t : TypeId} {x : Operand} (ho : o.op = .convert s t x) {a : Addr} (hx : peval H.ng pf x = some (.pointer (some a))) {v : Value} (hp : pconvPtr ty H s t a = some v) : Sound P ρ hn v H c w (execOp fr.eval o) := by
 have h1 := h x (by simp [ho, Op.operands]) _ hx
 unfold pconvPtr at hp
 split at hp
 ·rename_i si e e1
  split at hp
  ·rename_i ti td e2
   obtain ⟨eu, hp'⟩ := upT_cond hp
   replace hp := hp'
   cases td <;> first | exact (Bool.false_ne_true eu).elim | skip
   split at hp
   ·rename_i n e3
    split at hp
    ·rename_i e4
     split at hp
     ·rename_i tr size el es own fam ok ice e5
      cases e6 : (!Nat.beq n 0 && Nat.blt a.off size) with
      | false => rw [e6] at hp; cases hp
      | true =>
       rw [e6] at hp
       simp only [cond_true, Option.some.injEq] at hp
       subst hp
       simp only [Bool.and_eq_true, Bool.not_eq_true'] at e6
       have c1 := Nat.ne_of_beq_eq_false e6.1
       have c2 : a.off < size := Nat.le_of_ble_eq_true e6.2
       generalize hev : fr.eval x = u at h1
       cases h1 with
       | ptr hB =>
        rename_i B
        refine Sound.val hH hok (.ptr hB) (s := Go.convert s t (.pointer (some { a with block := B.blk }))) (by unfold execOp; rw [ho]; simp only [hev]; rfl) ?_
        have hr := hH.rel _ _ _ hB e5
        cases hr with
        | cells hs he hf hle hown hR hok' =>
         have hsh : ∀ es, (shape B.blk).runT P w es = (.ok (some (el, B.size)) w, es) := fun es => by
          show (Sem.shape B.blk .pure).runT P w es = _
          simp only [Sem.runT, hs]
         have hview : ∀ es, (viewAt B.blk).runT P w es = (.ok none w, es) := fun es => by
          unfold viewAt
          refine (runT_ok (hsh es)).trans ?_
          rfl
         have hseen : ∀ es, (Conv.seenAt { a with block := B.blk }).runT P w es = (.ok { a with block := B.blk } w, es) := fun es => by
          unfold Conv.seenAt
          refine (runT_ok (hview es)).trans ?_
          rfl
         have hcells : ∀ es, (cellsIn B.blk).runT P w es = (.ok (some B.size) w, es) := fun es => by
          unfold cellsIn
          refine (runT_ok (hsh es)).trans ?_
          rfl
         unfold Go.convert
         refine (runT_ok (s := underlying s) (runT_und (hty _ _ e1).2)).trans ?_
         refine (runT_ok (s := underlying t) (runT_und (hty _ _ e2).2)).trans ?_
         refine (runT_ok (s := underlying s) (runT_und (hty _ _ e1).2)).trans ?_
         refine (runT_ok (s := underlying t) (runT_und (hty _ _ e2).2)).trans ?_
         refine (runT_ok (hseen _)).trans ?_
         refine (runT_ok (hcells _)).trans ?_
         refine (runT_ok (psize_ok hty e3 _)).trans ?_
         have hno : (decide (a.off ≥ B.size) && a.spot.isNone) = false := by
          have : ¬ a.off ≥ B.size := by omega
          simp [this]
         simp only [hno]
         rw [if_neg (by simp; exact c1)]
         rfl
     ·cases hp
    ·cases hp
   ·cases hp
  ·cases hp
 ·cases hp
end
end Go.Gd
namespace Go.Gd
open Go Go.Gw Go.Conc
def pcopy (ty : Tys) (H : PH) (dT : TypeId) (d s : Value) : Option (Value × PH) :=
 match ty.get dT with
 | some (_, .slice elem) => match psize ty elem with
  | some size => match d with
   | .slice (some a) dLen _ => match s with
    | .slice (some b) sLen _ => match pread H b (Nat.min sLen dLen * size) with
     | some l => match a.spot with
      | none => match H.t.get a.block with
       | some (.cells tr sz el es true 0 true false) => cond (l.all flatV && (Nat.ble (a.off + l.length) sz && Nat.ble sz (2 ^ T.deep)))
        (some (goInt (Nat.min sLen dLen), (H.upT (H.t.set a.block (.cells (setFrom l tr a.off) sz el es true 0 true false))))) none
       | _ => none
      | _ => none
     | none => none
    | .slice none 0 _ => some (goInt 0, H)
    | _ => none
   | .slice none 0 _ => match s with
    | .slice _ _ _ => some (goInt 0, H)
    | _ => none
   | _ => none
  | none => none
 | _ => none
section
variable {P : Program} {ty : Tys} {ρ : Ren} {pf : PF} {fr : Frame} {H : PH} {c : Ctx} {w : World}
theorem run_copy {dT : TypeId} {ats : Array TypeId} (hats : ats[0]? = some dT) {tt elem : TypeId} {size : Nat} (hs : P.underlying dT = some (.slice elem)) (hsz : ∀ es, (sizeOf elem).runT P w es = (.ok size w, es)) {base : Option Addr} {dLen dCap n sl : Nat} {x : Value} (hn : ∀ es, (Builtin.lenOf x).runT P w es = (.ok sl w, es)) (hm : Nat.min sl dLen = n)
  {cells : Array Value} {es es1 es2 : Array Event} {w' : World} (h1 : (Builtin.firstCells size n x).runT P w es = (.ok cells w, es1)) (h2 : ∀ a, base = some a → (storeCells a cells.toList).runT P w es1 = (.ok () w', es2)) (h3 : base = none → w' = w ∧ es2 = es1) :
  (Builtin.copy_ ats tt #[.slice base dLen dCap, x]).runT P w es = (.ok (goInt n) w', es2) := by
 unfold Builtin.copy_
 simp only [hats, List.getElem?_toArray, List.getElem?_cons_zero, List.getElem?_cons_succ]
 refine (runT_ok (runT_und hs)).trans ?_
 simp only
 refine (runT_ok (hn es)).trans ?_
 refine (runT_ok (hsz es)).trans ?_
 rw [hm]
 refine (runT_ok h1).trans ?_
 cases base with
 | none =>
  obtain ⟨rfl, rfl⟩ := h3 rfl
  rfl
 | some a =>
  simp only
  refine (runT_ok (h2 a rfl)).trans ?_
  rfl
theorem copy_sound {hn : Nat} {o : Oper} (hty : TysOk P ty) (h : EvR H.ng ρ pf fr o) (hH : HR ρ H c w) (hok : COk c w) {dT : TypeId} {x y : Operand} {ats : Array TypeId} (hats : ats[0]? = some dT) {as : Array Operand} (has : as = #[x, y]) (ho : o.op = .call { callee := .builtin .copy, args := as, argTypes := ats })
  {d s v : Value} (hx : peval H.ng pf x = some d) (hy : peval H.ng pf y = some s) {H' : PH} (hp : pcopy ty H dT d s = some (v, H')) : Sound P ρ hn v H' c w (execOp fr.eval o) := by
 have hd := h x (by simp [ho, Op.operands, Call.operands, has]) _ hx
 have hs := h y (by simp [ho, Op.operands, Call.operands, has]) _ hy
 unfold pcopy at hp
 split at hp
 ·rename_i ti elem e1
  split at hp
  ·rename_i size e2
   have hsz := psize_ok (P := P) (w := w) hty e2
   have hund := (hty _ _ e1).2
   have hterm : ∀ {r : Value} {w' : World} {es : Array Event}, (Builtin.copy_ ats o.type #[fr.eval x, fr.eval y]).runT P w #[] = (.ok r w', es) → (execOp fr.eval o).runT P w #[] = (.ok (.value r) w', es) := fun {r w' es} hr => by
    have he' : execOp fr.eval o = (Builtin.copy_ ats o.type #[fr.eval x, fr.eval y]).bind fun r => Sem.pure (Next.value r) := by
     rw [builtin_term ho, has]
     simp only [List.map_toArray, List.map_cons, List.map_nil]
     rfl
    rw [he', runT_ok hr]
    rfl
   generalize hex : fr.eval x = ux at hd hterm
   generalize hey : fr.eval y = uy at hs hterm
   cases hd with
   | sl hB hc =>
    rename_i a B dLen dCap dCap'
    simp only at hp
    cases hs with
    | sl0 m mc =>
     split at hp
     ·rename_i heq; cases heq
     ·rename_i heq
      simp only [Value.slice.injEq] at heq
      obtain ⟨-, rfl, rfl⟩ := heq
      simp only [Option.some.injEq, Prod.mk.injEq] at hp
      obtain ⟨rfl, rfl⟩ := hp
      refine Sound.pure hH hok (.int _ _) (hterm ?_)
      exact run_copy hats hund hsz (sl := 0) (n := 0) (cells := #[]) (fun _ => rfl) (by simp) (es1 := #[]) rfl (fun a' ha => rfl) (fun e => by cases e)
     ·cases hp
    | sl hB2 hc2 =>
     rename_i b B2 sLen sCap sCap'
     simp only at hp
     split at hp
     ·rename_i l e3
      split at hp
      ·rename_i e4
       split at hp
       ·rename_i tr sz el es e5
        cases e6 : (l.all flatV && (Nat.ble (a.off + l.length) sz && Nat.ble sz (2 ^ T.deep))) with
        | false => rw [e6] at hp; cases hp
        | true =>
         rw [e6] at hp
         simp only [cond_true, Option.some.injEq, Prod.mk.injEq] at hp
         obtain ⟨rfl, rfl⟩ := hp
         simp only [Bool.and_eq_true] at e6
         obtain ⟨c1, c2, c3⟩ := e6
         obtain ⟨l', ev, q1, q2, q3⟩ := run_read (P := P) hH hB2 e3 #[]
         obtain ⟨w', wv, r1, r2, r3, r4⟩ := run_storeCells (P := P) hB q1 tr a.off 0 H w (#[] ++ ev.toArray) hH e5 c1 (by have := Nat.le_of_ble_eq_true c2; omega) (Nat.le_of_ble_eq_true c3)
         have hM : c.M B.blk := by
          have := hH.rel _ _ _ hB e5
          cases this with
          | cells hs he hf hle hown hR hok' => exact (hown rfl).1
         have r3' : HR ρ { H with t := H.t.set a.block (.cells (setFrom l tr a.off) sz el es true 0 true false) } c w' := r3
         refine ⟨ρ, c.M, c.R, goInt (Nat.min sLen dLen), w', #[] ++ ev.toArray ++ wv.toArray, .refl ρ, .int _ _, .inl (hterm ?_), r3', ⟨fun x hx => by rw [r4.size]; exact hok.ml x hx, fun x hx => by rw [r4.size]; exact hok.rl x hx, hok.rm⟩, Only.guar hok r4 hM,
          Foot.app (Foot.app (Foot.nil _ _ _) (q3.foot _)) (r2.foot hM _), Neut.app (Neut.app (fun e he => by simp at he) q3.neut) r2.neut, Only.fra r4 hB⟩
         refine run_copy hats hund hsz (sl := sLen) (fun _ => rfl) rfl q2 (fun a' ha => ?_) (fun e => by cases e)
         cases ha
         have ea : ({ a with block := B.blk } : Addr) = ⟨B.blk, a.off, none⟩ := by
          obtain ⟨b, off, sp⟩ := a
          simp only at e4
          subst e4
          rfl
         rw [ea]
         simpa using r1
       ·cases hp
      ·cases hp
     ·cases hp
    | _ => cases hp
   | sl0 dl dc =>
    simp only at hp
    split at hp
    ·rename_i heq; cases heq
    ·rename_i heq
     simp only [Value.slice.injEq] at heq
     obtain ⟨-, rfl, rfl⟩ := heq
     split at hp
     ·rename_i z m mc
      simp only [Option.some.injEq, Prod.mk.injEq] at hp
      obtain ⟨rfl, rfl⟩ := hp
      refine Sound.pure hH hok (.int _ _) (hterm ?_)
      cases hs with
      | sl0 =>
       exact run_copy hats hund hsz (sl := m) (n := 0) (cells := #[]) (fun _ => rfl) (by simp) (es1 := #[]) rfl (fun a' ha => by cases ha) (fun _ => ⟨rfl, rfl⟩)
      | sl hB2 hc2 =>
       exact run_copy hats hund hsz (sl := m) (n := 0) (cells := #[]) (fun _ => rfl) (by simp) (es1 := #[]) (by simp [Builtin.firstCells, loadCells, loadCellsFrom, pure]) (fun a' ha => by cases ha) (fun _ => ⟨rfl, rfl⟩)
     ·cases hp
    ·cases hp
   | _ => cases hp
  ·cases hp
 ·cases hp
end
end Go.Gd
namespace Go.Gd
open Go Go.Gw Go.Conc
def rBin (P : Program) (ty : Tys) (ng : Nat) (pf : PF) (o : Oper) (op : BinOp) (t : TypeId) (x y : Operand) : Option Value :=
 match peval ng pf x with
 | some a => match peval ng pf y with
  | some b => match a with
   | .int k m => match b with
    | .int k' n => pbin op t k m k' n
    | _ => none
   | a => match (match ty.get t with | some (_, d) => peqNil d a b | none => none) with
    | some r => peqOp op r
    | none => ppure P ng pf o
  | none => none
 | none => none
def rField (ty : Tys) (t : TypeId) (k : Nat) (a : Addr) : Option Value :=
 match ty.get t with
 | some (_, .struct fs) => match fs.toList[k]? with
  | some f => match psize ty f.type with
   | some n => cond (Nat.beq n 0) none (some (.pointer (some (a.add f.offset))))
   | none => none
  | none => none
 | _ => none
def rIndexAddr (ty : Tys) (t : TypeId) (u : Value) (n : Nat) : Option Value :=
 match ty.get t with
 | some (_, .slice elem) => match u with
  | .slice (some a) len _ => match psize ty elem with
   | some sz => cond (Nat.blt n len) (some (.pointer (some (a.add (n * sz))))) none
   | none => none
  | _ => none
 | some (_, .array len elem) => match u with
  | .pointer (some a) => match psize ty elem with
   | some sz => cond (Nat.blt n len) (some (.pointer (some (a.add (n * sz))))) none
   | none => none
  | _ => none
 | _ => none
def rIndex (ty : Tys) (t : TypeId) (u : Value) (n : Nat) : Option Value :=
 match ty.get t with
 | some (_, .array len elem) => match u with
  | .agg cs => match psize ty elem with
   | some sz => cond (Nat.blt n len) (ppart ty elem cs (n * sz)) none
   | none => none
  | _ => none
 | some (_, .string) => match u with
  | .string s => match s.data.toList[n]? with
   | some b => some (.int .u8 b.toNat)
   | none => none
  | _ => none
 | _ => none
def rSlice (ty : Tys) (H : PH) (t : TypeId) (u : Value) (lo hi mx : Option Nat) : Option Value :=
 match ty.get t with
 | some (_, .slice elem) => match u with
  | .slice a len cap => match psize ty elem with
   | some sz => psliceS H sz a len cap lo hi mx
   | none => none
  | _ => none
 | some (_, .array n elem) => match u with
  | .pointer (some a) => match psize ty elem with
   | some sz => match pbounds n n lo hi mx with
    | some (l, h, m) => cond (Nat.blt (m - l) big) (some (.slice (some (cond (Nat.beq m l) a (a.add (l * sz)))) (h - l) (m - l))) none
    | none => none
   | none => none
  | _ => none
 | _ => none
def rLen (ty : Tys) (H : PH) (t : TypeId) (u : Value) : Option Value :=
 match ty.get t with
 | some (_, .slice _) => match u with
  | .slice _ n _ => some (goInt n)
  | _ => none
 | some (_, .string) => match u with
  | .string s => some (goInt s.size)
  | _ => none
 | some (_, .array n _) => some (goInt n)
 | some (_, .map _ _) => match pentries H u with
  | some (es, _) => some (goInt es.size)
  | none => none
 | _ => none
def rMin (b : Bool) (u v : Value) : Option Value :=
 match u with
 | .int k x => match v with
  | .int _ y => some (.int k (cond b (cond (ilt y x) y x) (cond (ilt x y) y x)))
  | _ => none
 | _ => none
def popR (P : Program) (ty : Tys) (pf : PF) (H : PH) (o : Oper) : Option Value :=
 match o.op with
 | .move x => peval H.ng pf x
 | .assign x => peval H.ng pf x
 | .load t x => match peval H.ng pf x with
  | some u => match paddr u with
   | some a => pload ty H t a
   | none => none
  | none => none
 | .binOp op t x y _ => rBin P ty H.ng pf o op t x y
 | .fieldAddr t x k => match peval H.ng pf x with
  | some u => match paddr u with
   | some a => rField ty t k a
   | none => none
  | none => none
 | .indexAddr t x y => match peval H.ng pf x with
  | some u => match peval H.ng pf y with
   | some (.int _ (.ofNat n)) => rIndexAddr ty t u n
   | _ => none
  | none => none
 | .extract x k => match peval H.ng pf x with
  | some (.tuple vs) => vs.toList[k]?
  | _ => none
 | .pick x y z => match peval H.ng pf x with
  | some (.bool b) => peval H.ng pf (if b then y else z)
  | _ => none
 | .unOp .not _ x => match peval H.ng pf x with
  | some (.bool b) => some (.bool !b)
  | _ => none
 | .unOp _ _ _ => ppure P H.ng pf o
 | .nilCheck x => match peval H.ng pf x with
  | some (.pointer (some a)) => some (.pointer (some a))
  | some (.func (.func f) xs ys) => some (.func (.func f) xs ys)
  | _ => none
 | .makeInterface t x => match ty.get t with
  | some (_, .interface _) => none
  | some _ => match peval H.ng pf x with
   | some v => some (.iface t v)
   | none => none
  | none => none
 | .makeFunc (.func f) xs ys => match pevals H.ng pf xs.toList with
  | some us => match pevals H.ng pf ys.toList with
   | some vs => some (.func (.func f) us.toArray vs.toArray)
   | none => none
  | none => none
 | .field t x k => match peval H.ng pf x with
  | some (.agg cs) => match ty.get t with
   | some (_, .struct fs) => match fs.toList[k]? with
    | some f => ppart ty f.type cs f.offset
    | none => none
   | _ => none
  | _ => none
 | .index t x y => match peval H.ng pf x with
  | some u => match peval H.ng pf y with
   | some (.int _ (.ofNat n)) => rIndex ty t u n
   | _ => none
  | none => none
 | .slice t x lo hi mx => match peval H.ng pf x with
  | some (.string _) => ppure P H.ng pf o
  | some u => match popt H.ng pf lo with
   | some l => match popt H.ng pf hi with
    | some h => match popt H.ng pf mx with
     | some m => rSlice ty H t u l h m
     | none => none
    | none => none
   | none => none
  | none => none
 | .lookup t x y ok => match peval H.ng pf x with
  | some u => match peval H.ng pf y with
   | some k => plookup P ty H t u k ok
   | none => none
  | none => none
 | .typeAssert x _ a ok => match peval H.ng pf x with
  | some u => ptypeAssert ty u a ok
  | none => none
 | .build t ps => match pparts H.ng pf ps.toList with
  | some vs => pbuild ty t vs
  | none => none
 | .convert s t x => match peval H.ng pf x with
  | some (.int _ a) => match ty.get s with
   | some _ => match ty.get t with
    | some (_, .int k) => some (.int k (wrapF k a))
    | _ => ppure P H.ng pf o
   | none => none
  | some (.pointer (some a)) => pconvPtr ty H s t a
  | some _ => ppure P H.ng pf o
  | none => none
 | .call c => match c.callee with
  | .builtin .len => match c.args.toList with
   | [x] => match c.argTypes.toList with
    | [t] => match peval H.ng pf x with
     | some u => rLen ty H t u
     | none => none
    | _ => none
   | _ => none
  | .builtin .min => ppure P H.ng pf o
  | .builtin .max => ppure P H.ng pf o
  | _ => none
 | _ => none
section
variable {P : Program} {ty : Tys} {ρ : Ren} {pf : PF} {fr : Frame} {H : PH} {c : Ctx} {w : World}
theorem psize_get {t : TypeId} {n : Nat} (h : psize ty t = some n) : ∃ i d, ty.get t = some (i, d) ∧ i.size = n := by
 unfold psize at h
 cases e : ty.get t with
 | none => rw [e] at h; cases h
 | some x => rw [e] at h; exact ⟨x.1, x.2, rfl, Option.some.inj h⟩
theorem popR_sound (hty : TysOk P ty) {o : Oper} (h : EvR H.ng ρ pf fr o) (hH : HR ρ H c w) (hok : COk c w) {v : Value} (hp : popR P ty pf H o = some v) {hn : Nat} : Sound P ρ hn v H c w (execOp fr.eval o) := by
 unfold popR at hp
 have pure' : (∀ cs b, o.op ≠ .select cs b) → ppure P H.ng pf o = some v → Sound P ρ hn v H c w (execOp fr.eval o) := fun hs hp => ppure_sound h hH hok hs hp
 split at hp
 ·rename_i x ho
  exact move_sound h hH hok (.inl ho) hp
 ·rename_i x ho
  exact move_sound h hH hok (.inr ho) hp
 ·rename_i t x ho
  split at hp
  ·rename_i u e1
   split at hp
   ·rename_i a e2
    exact load_sound hty h hH hok ho e1 e2 hp
   ·cases hp
  ·cases hp
 ·rename_i op t x y t' ho
  have hs : ∀ cs b, o.op ≠ .select cs b := fun cs b e => by rw [ho] at e; cases e
  unfold rBin at hp
  split at hp
  ·rename_i a e1
   split at hp
   ·rename_i b e2
    split at hp
    ·split at hp
     ·exact binOp_int_sound h hH hok ho e1 e2 hp
     ·cases hp
    ·split at hp
     ·rename_i r e3
      split at e3
      ·rename_i i d e4
       exact eqNil_sound hty h hH hok ho e4 e1 e2 e3 hp
      ·cases e3
     ·exact pure' hs hp
   ·cases hp
  ·cases hp
 ·rename_i t x k ho
  split at hp
  ·rename_i u e1
   split at hp
   ·rename_i a e2
    unfold rField at hp
    split at hp
    ·rename_i i fs e3
     split at hp
     ·rename_i f e4
      split at hp
      ·rename_i n e5
       cases e6 : Nat.beq n 0 with
       | true => rw [e6] at hp; cases hp
       | false =>
        rw [e6] at hp
        simp only [cond_false, Option.some.injEq] at hp
        subst hp
        obtain ⟨fi, fd, g1, g2⟩ := psize_get e5
        exact fieldAddr_sound hty h hH hok ho e3 (by rw [← Array.getElem?_toList]; exact e4) g1 (by rw [g2]; exact Nat.ne_of_beq_eq_false e6) e1 e2
      ·cases hp
     ·cases hp
    ·cases hp
   ·cases hp
  ·cases hp
 ·rename_i t x y ho
  split at hp
  ·rename_i u e1
   split at hp
   ·rename_i k n e2
    unfold rIndexAddr at hp
    split at hp
    ·rename_i i elem e3
     split at hp
     ·rename_i a len cap
      split at hp
      ·rename_i sz e4
       cases e5 : Nat.blt n len with
       | false => rw [e5] at hp; cases hp
       | true =>
        rw [e5] at hp
        simp only [cond_true, Option.some.injEq] at hp
        subst hp
        obtain ⟨ei, ed, g1, rfl⟩ := psize_get e4
        have hlt : n < len := Nat.le_of_ble_eq_true e5
        exact indexAddr_slice_sound hty h hH hok ho e3 g1 e1 e2 (Int.natCast_nonneg n) (by simp only [Int.ofNat_eq_natCast]; omega)
      ·cases hp
     ·cases hp
    ·rename_i i len elem e3
     split at hp
     ·rename_i a
      split at hp
      ·rename_i sz e4
       cases e5 : Nat.blt n len with
       | false => rw [e5] at hp; cases hp
       | true =>
        rw [e5] at hp
        simp only [cond_true, Option.some.injEq] at hp
        subst hp
        obtain ⟨ei, ed, g1, rfl⟩ := psize_get e4
        have hlt : n < len := Nat.le_of_ble_eq_true e5
        exact indexAddr_array_sound hty h hH hok ho e3 g1 e1 e2 (Int.natCast_nonneg n) (by simp only [Int.ofNat_eq_natCast]; omega)
      ·cases hp
     ·cases hp
    ·cases hp
   ·cases hp
  ·cases hp
 ·rename_i x k ho
  split at hp
  ·rename_i vs e1
   exact extract_sound h hH hok ho e1 hp
  ·cases hp
 ·rename_i x y z ho
  split at hp
  ·rename_i b e1
   exact pick_sound h hH hok ho e1 hp
  ·cases hp
 ·rename_i t x ho
  split at hp
  ·rename_i b e1
   simp only [Option.some.injEq] at hp
   subst hp
   exact not_sound h hH hok ho e1
  ·cases hp
 ·rename_i ho
  exact pure' (fun cs b e => by rw [ho] at e; cases e) hp
 ·rename_i x ho
  split at hp
  ·rename_i a e1
   simp only [Option.some.injEq] at hp
   subst hp
   exact nilCheck_ptr_sound h hH hok ho e1
  ·rename_i f xs ys e1
   simp only [Option.some.injEq] at hp
   subst hp
   exact nilCheck_func_sound h hH hok ho e1
  ·cases hp
 ·rename_i t x ho
  split at hp
  ·cases hp
  ·rename_i z hne e1
   split at hp
   ·rename_i u e2
    simp only [Option.some.injEq] at hp
    subst hp
    obtain ⟨i, d⟩ := z
    exact makeInterface_sound hty h hH hok ho e1 (fun ms e => by subst e; exact hne _ _ rfl) e2
   ·cases hp
  ·cases hp
 ·rename_i f xs ys ho
  split at hp
  ·rename_i us e1
   split at hp
   ·rename_i vs e2
    simp only [Option.some.injEq] at hp
    subst hp
    exact makeFunc_sound h hH hok ho (.func f) e1 e2
   ·cases hp
  ·cases hp
 ·rename_i t x k ho
  split at hp
  ·rename_i cs e1
   split at hp
   ·rename_i i fs e2
    split at hp
    ·rename_i f e3
     exact field_sound hty h hH hok ho e2 (by rw [← Array.getElem?_toList]; exact e3) e1 hp
    ·cases hp
   ·cases hp
  ·cases hp
 ·rename_i t x y ho
  split at hp
  ·rename_i u e1
   split at hp
   ·rename_i k n e2
    unfold rIndex at hp
    split at hp
    ·rename_i i len elem e3
     split at hp
     ·rename_i cs
      split at hp
      ·rename_i sz e4
       cases e5 : Nat.blt n len with
       | false => rw [e5] at hp; cases hp
       | true =>
        rw [e5] at hp
        exact index_sound hty h hH hok ho e3 e4 e1 e2 (Nat.le_of_ble_eq_true e5) hp
      ·cases hp
     ·cases hp
    ·rename_i i e3
     split at hp
     ·rename_i s
      split at hp
      ·rename_i b e4
       simp only [Option.some.injEq] at hp
       subst hp
       exact indexStr_sound hty h hH hok ho e3 e1 e2 e4
      ·cases hp
     ·cases hp
    ·cases hp
   ·cases hp
  ·cases hp
 ·rename_i t x lo hi mx ho
  split at hp
  ·exact pure' (fun cs b e => by rw [ho] at e; cases e) hp
  ·rename_i u hns e1
   split at hp
   ·rename_i l e2
    split at hp
    ·rename_i h' e3
     split at hp
     ·rename_i m e4
      unfold rSlice at hp
      split at hp
      ·rename_i i elem e5
       split at hp
       ·rename_i a len cap
        split at hp
        ·rename_i sz e6
         obtain ⟨ei, ed, g1, rfl⟩ := psize_get e6
         exact slice_sound hty h hH hok ho e5 g1 e1 e2 e3 e4 hp
        ·cases hp
       ·cases hp
      ·rename_i i n elem e5
       split at hp
       ·rename_i a
        split at hp
        ·rename_i sz e6
         split at hp
         ·rename_i l0 h0 m0 e7
          cases e8 : Nat.blt (m0 - l0) big with
          | false => rw [e8] at hp; cases hp
          | true =>
           rw [e8] at hp
           simp only [cond_true, Option.some.injEq] at hp
           subst hp
           exact sliceArr_sound hty h hH hok ho e5 e6 e1 e2 e3 e4 e7 e8
         ·cases hp
        ·cases hp
       ·cases hp
      ·cases hp
     ·cases hp
    ·cases hp
   ·cases hp
  ·cases hp
 ·rename_i t x y ok ho
  split at hp
  ·rename_i u e1
   split at hp
   ·rename_i k e2
    exact lookup_sound hty h hH hok ho e1 e2 hp
   ·cases hp
  ·cases hp
 ·rename_i x xt a ok ho
  split at hp
  ·rename_i u e1
   exact typeAssert_sound hty h hH hok ho e1 hp
  ·cases hp
 ·rename_i t ps ho
  split at hp
  ·rename_i vs e1
   exact build_sound hty h hH hok ho e1 hp
  ·cases hp
 ·rename_i s t x ho
  have hs : ∀ cs b, o.op ≠ .select cs b := fun cs b e => by rw [ho] at e; cases e
  split at hp
  ·rename_i k a e1
   split at hp
   ·rename_i z e2
    split at hp
    ·rename_i it k' e3
     simp only [Option.some.injEq] at hp
     subst hp
     obtain ⟨is, ds⟩ := z
     exact convert_int_sound hty h hH hok ho e2 e3 e1
    ·exact pure' hs hp
   ·cases hp
  ·rename_i a e1
   exact convPtr_sound hty h hH hok ho e1 hp
  ·exact pure' hs hp
  ·cases hp
 ·rename_i cl ho
  have hs : ∀ cs b, o.op ≠ .select cs b := fun cs b e => by rw [ho] at e; cases e
  obtain ⟨callee, as, ats⟩ := cl
  simp only at hp
  split at hp
  ·split at hp
   ·rename_i x e1
    split at hp
    ·rename_i t e2
     have ea : as = #[x] := Array.toList_inj.1 (by simpa using e1)
     have et : ats = #[t] := Array.toList_inj.1 (by simpa using e2)
     subst ea et
     split at hp
     ·rename_i u e3
      unfold rLen at hp
      split at hp
      ·rename_i i el e4
       split at hp
       ·simp only [Option.some.injEq] at hp
        subst hp
        exact len_slice_sound h hH hok ho (hty _ _ e4).2 e3
       ·cases hp
      ·rename_i i e4
       split at hp
       ·simp only [Option.some.injEq] at hp
        subst hp
        exact len_string_sound hty h hH hok ho e4 e3
       ·cases hp
      ·rename_i i n el e4
       simp only [Option.some.injEq] at hp
       subst hp
       exact len_array_sound hty hH hok ho e4
      ·rename_i i k el e4
       split at hp
       ·rename_i es cl e5
        simp only [Option.some.injEq] at hp
        subst hp
        exact len_map_sound hty h hH hok ho e4 e3 e5
       ·cases hp
      ·cases hp
     ·cases hp
    ·cases hp
   ·cases hp
  ·exact pure' hs hp
  ·exact pure' hs hp
  ·cases hp
 ·cases hp
end
end Go.Gd
namespace Go.Gd
open Go Go.Gw Go.Conc
def popW (P : Program) (ty : Tys) (pf : PF) (H : PH) (o : Oper) : Option (Value × PH) :=
 match o.op with
 | .store t x y => match peval H.ng pf x with
  | some (.pointer (some a)) => match peval H.ng pf y with
   | some v => match pstore ty H t a v with
    | some H' => some (undef, H')
    | none => match pstoreF ty H t a v with
     | some H' => some (undef, H')
     | none => none
   | none => none
  | _ => none
 | .box t x => match peval H.ng pf x with
  | some u => match pnew H u.cells.toList t 0 with
   | some H' => some (.pointer (some ⟨H.next, 0, none⟩), H')
   | none => none
  | none => none
 | .alloc t => match ty.get t with
  | some (i, _) => match i.zero with
   | some z => cond (ground 6 z) (match pnew H z.cells.toList t 0 with
    | some H' => some (.pointer (some ⟨H.next, 0, none⟩), H')
    | none => none) none
   | none => none
  | none => none
 | .buildSlice t n ps => match pparts H.ng pf ps.toList with
  | some vs => pbuildSlice ty H t n vs
  | none => none
 | .makeMap _ none => match pnewObj H (.map #[] 0) with
  | some H' => some (.map (some H.next), H')
  | none => none
 | .makeSlice t x y => match peval H.ng pf x with
  | some (.int _ (.ofNat l)) => match peval H.ng pf y with
   | some (.int _ (.ofNat n)) => pmakeSlice ty H t l n
   | _ => none
  | _ => none
 | .mapUpdate t m x y => match peval H.ng pf m with
  | some u => match peval H.ng pf x with
   | some k => match peval H.ng pf y with
    | some v => match pupdate P ty H t u k v with
     | some H' => some (undef, H')
     | none => none
    | none => none
   | none => none
  | none => none
 | .insert t m x y => match peval H.ng pf m with
  | some u => match peval H.ng pf x with
   | some k => match peval H.ng pf y with
    | some v => match pupdate P ty H t u k v with
     | some H' => some (undef, H')
     | none => none
    | none => none
   | none => none
  | none => none
 | .range t x => match ty.get t with
  | some (_, .string) => match peval H.ng pf x with
   | some (.string s) => match pnewObj H (.stringIter s 0) with
    | some H' => some (.pointer (some ⟨H.next, 0, none⟩), H')
    | none => none
   | _ => none
  | _ => none
 | .next x true => match peval H.ng pf x with
  | some (.pointer (some ⟨r, 0, none⟩)) => pnext H r
  | _ => none
 | .call c => match c.callee with
  | .builtin .append => match c.args.toList with
   | [x, y] => match c.argTypes.toList with
    | [s, t] => match peval H.ng pf x with
     | some u => match peval H.ng pf y with
      | some v => pappend ty H s t u v
      | none => none
     | none => none
    | _ => none
   | _ => none
  | .builtin .copy => match c.args.toList with
   | [x, y] => match c.argTypes.toList with
    | s :: _ => match peval H.ng pf x with
     | some u => match peval H.ng pf y with
      | some v => pcopy ty H s u v
      | none => none
     | none => none
    | _ => none
   | _ => none
  | .builtin .delete => match c.args.toList with
   | [x, y] => match c.argTypes.toList with
    | [s, _] => match peval H.ng pf x with
     | some u => match peval H.ng pf y with
      | some v => match pdelete P ty H s u v with
       | some H' => some (undef, H')
       | none => none
      | none => none
     | none => none
    | _ => none
   | _ => none
  | _ => none
 | _ => none
section
variable {P : Program} {ty : Tys} {ρ : Ren} {pf : PF} {fr : Frame} {H : PH} {c : Ctx} {w : World}
theorem pnew_next {l : List Value} {e es : Nat} {H' : PH} (h : pnew H l e es = some H') : H.next ≤ H'.next := by
 unfold pnew at h
 cases e1 : Nat.ble (H.next + 1) (2 ^ T.deep) <;> rw [e1] at h
 ·cases h
 ·cases e2 : Nat.ble l.length (2 ^ T.deep) <;> rw [e2] at h
  ·cases h
  ·cases h; exact Nat.le_succ _
theorem pnewObj_next {x : Obj} {H' : PH} (h : pnewObj H x = some H') : H.next ≤ H'.next := by
 unfold pnewObj at h
 cases e1 : Nat.ble (H.next + 1) (2 ^ T.deep) <;> rw [e1] at h
 ·cases h
 ·cases h; exact Nat.le_succ _
theorem Sound.next {hn : Nat} {v : Value} {H' : PH} {s : Sem Next} (_h : Sound P ρ hn v H' c w s) : True := trivial
theorem popW_sound (hty : TysOk P ty) {o : Oper} (h : EvR H.ng ρ pf fr o) (hH : HR ρ H c w) (hok : COk c w) {v : Value} {H' : PH} (hp : popW P ty pf H o = some (v, H')) : Sound P ρ H.next v H' c w (execOp fr.eval o) := by
 unfold popW at hp
 split at hp
 ·rename_i t x y ho
  split at hp
  ·rename_i a e1
   split at hp
   ·rename_i u e2
    split at hp
    ·rename_i H1 e3
     simp only [Option.some.injEq, Prod.mk.injEq] at hp
     obtain ⟨rfl, rfl⟩ := hp
     exact store_sound hty h hH hok ho e1 (a := a) rfl e2 e3
    ·split at hp
     ·rename_i H1 e3
      simp only [Option.some.injEq, Prod.mk.injEq] at hp
      obtain ⟨rfl, rfl⟩ := hp
      exact storeF_sound hty h hH hok ho e1 e2 e3
     ·cases hp
   ·cases hp
  ·cases hp
 ·rename_i t x ho
  split at hp
  ·rename_i u e1
   split at hp
   ·rename_i H1 e2
    simp only [Option.some.injEq, Prod.mk.injEq] at hp
    obtain ⟨rfl, rfl⟩ := hp
    exact box_sound h hH hok ho e1 e2
   ·cases hp
  ·cases hp
 ·rename_i t ho
  split at hp
  ·rename_i i d e1
   split at hp
   ·rename_i z e2
    cases e3 : ground 6 z with
    | false => rw [e3] at hp; cases hp
    | true =>
     rw [e3] at hp
     simp only [cond_true] at hp
     split at hp
     ·rename_i H1 e4
      simp only [Option.some.injEq, Prod.mk.injEq] at hp
      obtain ⟨rfl, rfl⟩ := hp
      exact alloc_sound hty hH hok ho e1 e2 e3 e4
     ·cases hp
   ·cases hp
  ·cases hp
 ·rename_i t n ps ho
  split at hp
  ·rename_i vs e1
   exact buildSlice_sound hty h hH hok ho e1 hp
  ·cases hp
 ·rename_i t ho
  split at hp
  ·rename_i H1 e1
   simp only [Option.some.injEq, Prod.mk.injEq] at hp
   obtain ⟨rfl, rfl⟩ := hp
   exact makeMap_sound hH hok ho e1
  ·cases hp
 ·rename_i t x y ho
  split at hp
  ·rename_i k l e1
   split at hp
   ·rename_i k' n e2
    exact makeSlice_sound hty h hH hok ho e1 e2 hp
   ·cases hp
  ·cases hp
 ·rename_i t m x y ho
  split at hp
  ·rename_i u e1
   split at hp
   ·rename_i k e2
    split at hp
    ·rename_i z e3
     split at hp
     ·rename_i H1 e4
      simp only [Option.some.injEq, Prod.mk.injEq] at hp
      obtain ⟨rfl, rfl⟩ := hp
      exact update_sound hty h hH hok (.inl ho) e1 e2 e3 e4
     ·cases hp
    ·cases hp
   ·cases hp
  ·cases hp
 ·rename_i t m x y ho
  split at hp
  ·rename_i u e1
   split at hp
   ·rename_i k e2
    split at hp
    ·rename_i z e3
     split at hp
     ·rename_i H1 e4
      simp only [Option.some.injEq, Prod.mk.injEq] at hp
      obtain ⟨rfl, rfl⟩ := hp
      exact update_sound hty h hH hok (.inr ho) e1 e2 e3 e4
     ·cases hp
    ·cases hp
   ·cases hp
  ·cases hp
 ·rename_i t x ho
  split at hp
  ·rename_i i e1
   split at hp
   ·rename_i s e2
    split at hp
    ·rename_i H1 e3
     simp only [Option.some.injEq, Prod.mk.injEq] at hp
     obtain ⟨rfl, rfl⟩ := hp
     exact range_sound hty h hH hok ho e1 e2 e3
    ·cases hp
   ·cases hp
  ·cases hp
 ·rename_i x ho
  split at hp
  ·rename_i r e1
   exact next_sound h hH hok ho e1 hp
  ·cases hp
 ·rename_i cl ho
  obtain ⟨callee, as, ats⟩ := cl
  simp only at hp
  split at hp
  ·split at hp
   ·rename_i x y e1
    split at hp
    ·rename_i s t e2
     have ea : as = #[x, y] := Array.toList_inj.1 (by simpa using e1)
     have et : ats = #[s, t] := Array.toList_inj.1 (by simpa using e2)
     split at hp
     ·rename_i u e3
      split at hp
      ·rename_i z e4
       exact append_sound hty h hH hok et ea ho e3 e4 hp
      ·cases hp
     ·cases hp
    ·cases hp
   ·cases hp
  ·split at hp
   ·rename_i x y e1
    split at hp
    ·rename_i s rest e2
     have ea : as = #[x, y] := Array.toList_inj.1 (by simpa using e1)
     have et : ats[0]? = some s := by rw [← Array.getElem?_toList, e2]; rfl
     split at hp
     ·rename_i u e3
      split at hp
      ·rename_i z e4
       exact copy_sound hty h hH hok et ea ho e3 e4 hp
      ·cases hp
     ·cases hp
    ·cases hp
   ·cases hp
  ·split at hp
   ·rename_i x y e1
    split at hp
    ·rename_i s t e2
     have ea : as = #[x, y] := Array.toList_inj.1 (by simpa using e1)
     have et : ats = #[s, t] := Array.toList_inj.1 (by simpa using e2)
     subst ea et
     split at hp
     ·rename_i u e3
      split at hp
      ·rename_i z e4
       split at hp
       ·rename_i H1 e5
        simp only [Option.some.injEq, Prod.mk.injEq] at hp
        obtain ⟨rfl, rfl⟩ := hp
        exact delete_sound hty h hH hok ho e3 e4 e5
       ·cases hp
      ·cases hp
     ·cases hp
    ·cases hp
   ·cases hp
  ·cases hp
 ·cases hp
def pcells (ty : Tys) (pf : PF) (ng : Nat) (o : Oper) : Option (List Value × TypeId × Nat × (Nat → Value)) :=
 match o.op with
 | .box t x => match peval ng pf x with
  | some u => some (u.cells.toList, t, 0, fun b => .pointer (some ⟨b, 0, none⟩))
  | none => none
 | .alloc t => match ty.get t with
  | some (i, _) => match i.zero with
   | some z => cond (ground 6 z) (some (z.cells.toList, t, 0, fun b => .pointer (some ⟨b, 0, none⟩))) none
   | none => none
  | none => none
 | .buildSlice t len ps => match pparts ng pf ps.toList with
  | some vs => match ty.get t with
   | some (_, .slice elem) => match ty.get elem with
    | some (i, _) => cond (Nat.ble (len * i.size) 16777216 && Nat.blt len big) (match (cond (Nat.beq (len * i.size) 0) (some []) (match i.zero with | some z => cond (ground 6 z) (some (zrow z (len * i.size))) none | none => none)) with
     | some cs => match fillL (fun k => some (k * i.size, i.size)) vs cs with
      | some r => some (r, elem, i.size, fun b => .slice (some ⟨b, 0, none⟩) len len)
      | none => none
     | none => none) none
    | none => none
   | _ => none
  | none => none
 | _ => none
end
end Go.Gd
namespace Go.Gd
open Go Go.Gw Go.Conc
section
variable {P : Program} {ty : Tys} {ρ : Ren} {pf : PF} {fr : Frame} {H : PH} {c : Ctx} {w : World}
theorem buildSlice_run {o : Oper} (hty : TysOk P ty) {ng : Nat} (h : EvR ng ρ pf fr o) {t : TypeId} {len : Nat} {parts : Array (Nat × Operand)} (ho : o.op = .buildSlice t len parts) {ps : List (Nat × Value)} (hx : pparts ng pf parts.toList = some ps) {i0 i : TypeInfo} {elem : TypeId} {d : TypeDesc} (e1 : ty.get t = some (i0, .slice elem)) (e2 : ty.get elem = some (i, d))
  (e3 : Nat.ble (len * i.size) 16777216 = true) {cs r : List Value} (e4 : (cond (Nat.beq (len * i.size) 0) (some []) (match i.zero with | some z => cond (ground 6 z) (some (zrow z (len * i.size))) none | none => none)) = some cs) (e5 : fillL (fun k => some (k * i.size, i.size)) ps cs = some r) :
  ∃ r' : List Value, VRL ρ r r' ∧ (execOp fr.eval o).runT P w #[] = (.ok (.value (.slice (some ⟨w.heap.size, 0, none⟩) len len)) (World.grow w (.cells r'.toArray elem)), #[]) := by
 obtain ⟨h1, h2⟩ := pparts_VR h (fun x hx => by rw [ho]; simp [Op.operands]; exact ⟨x.1, by simpa using hx⟩) hx
 have hcs : VRL ρ cs cs ∧ ∀ es, (if len * i.size = 0 then pure #[] else do pure (← zeroValue elem).cells : Sem (Array Value)).runT P w es = (.ok (if len * i.size = 0 then #[] else (i.zero.getD undef).cells) w, es) ∧
   ((Array.range (len * i.size)).map fun k => (if len * i.size = 0 then #[] else (i.zero.getD undef).cells)[k % (if len * i.size = 0 then #[] else (i.zero.getD undef).cells).size]!).toList = cs := by
  cases eb : Nat.beq (len * i.size) 0 with
  | true =>
   rw [eb] at e4
   have e4 := Option.some.inj e4
   subst e4
   have eb := Nat.eq_of_beq_eq_true eb
   exact ⟨.nil, fun es => ⟨by simp only [eb, if_true]; rfl, by simp [eb]⟩⟩
  | false =>
   rw [eb] at e4
   have eb := Nat.ne_of_beq_eq_false eb
   cases e6 : i.zero with
   | none => rw [e6] at e4; cases e4
   | some z =>
    rw [e6] at e4
    simp only [cond_false] at e4
    cases e7 : ground 6 z with
    | false => rw [e7] at e4; cases e4
    | true =>
     rw [e7] at e4
     have e4 := Option.some.inj e4
     subst e4
     refine ⟨zrow_VRL e7 _, fun es => ⟨?_, ?_⟩⟩
     ·simp only [if_neg eb]
      refine (runT_ok (s := zeroValue elem) (runT_zero hty e2 e6 _)).trans ?_
      rfl
     ·simp only [if_neg eb, Option.getD_some]
      simp [zrow]
 have hpl : (parts.map fun (i, x) => (i, fr.eval x)).toList = parts.toList.map fun x => (x.1, fr.eval x.2) := by simp
 obtain ⟨r', q1, q2⟩ := fill_rel (fun k => some (k * i.size, i.size)) h1 h2 (cs' := (Array.range (len * i.size)).map fun k => (if len * i.size = 0 then #[] else (i.zero.getD undef).cells)[k % (if len * i.size = 0 then #[] else (i.zero.getD undef).cells).size]!) (by rw [(hcs.2 #[]).2]; exact hcs.1) e5
 refine ⟨r'.toList, q2, ?_⟩
 unfold execOp
 rw [ho]
 show ((Instr.buildSlice t len (parts.map fun (i, x) => (i, fr.eval x))).bind fun r => Sem.pure (Next.value r)).runT P w #[] = _
 have key : (Instr.buildSlice t len (parts.map fun (i, x) => (i, fr.eval x))).runT P w #[] = (.ok (.slice (some ⟨w.heap.size, 0, none⟩) len len) (World.grow w (.cells r'.toList.toArray elem)), #[]) := by
  unfold Instr.buildSlice
  refine (runT_ok (s := underlying t) (runT_und (hty _ _ e1).2)).trans ?_
  refine (runT_ok (runT_size (hty _ _ e2).1)).trans ?_
  have hle := Nat.le_of_ble_eq_true e3
  simp only [if_neg (show ¬ len * i.size > 2 ^ 24 by simp; omega)]
  have hrun := (hcs.2 #[]).1
  by_cases h0 : len * i.size = 0
  ·simp only [if_pos h0] at hrun q1 ⊢
   refine (runT_ok (s := (pure #[] : Sem (Array Value))) hrun).trans ?_
   simp only [hpl, q1]
   simp only [Array.toArray_toList]
   rfl
  ·simp only [if_neg h0] at hrun q1 ⊢
   have hrun' : ((zeroValue elem).bind fun z => Sem.pure z.cells).runT P w #[] = (.ok (i.zero.getD undef).cells w, #[]) := hrun
   rw [runT_bind] at hrun'
   show ((zeroValue elem).bind fun z => _).runT P w #[] = _
   rw [runT_bind]
   cases hz : (zeroValue elem).runT P w #[] with
   | mk r0 es0 =>
    rw [hz] at hrun'
    cases r0 with
    | halt hh ww => simp at hrun'
    | ok z0 w0 =>
     simp only [Sem.runT, Prod.mk.injEq, Result.ok.injEq] at hrun'
     obtain ⟨⟨g1, g2⟩, g3⟩ := hrun'
     subst g2 g3
     simp only
     refine (runT_ok (s := (pure z0.cells : Sem (Array Value))) (a := z0.cells) (w' := w0) (es' := #[]) rfl).trans ?_
     rw [g1]
     simp only [hpl, q1]
     simp only [Array.toArray_toList]
     rfl
 rw [runT_ok key]
 rfl
theorem pcells_sound (hty : TysOk P ty) {o : Oper} {ng : Nat} (h : EvR ng ρ pf fr o) {b : Nat} (hb : ρ b = none) {l : List Value} {elem es : Nat} {vf : Nat → Value} (hp : pcells ty pf ng o = some (l, elem, es, vf)) {tr : T Value} (hg : ∀ k, k < l.length → tr.get k = l[k]?) :
  SoundA P ρ b (.cells tr l.length elem es true 0 true false) (vf b) c w (execOp fr.eval o) ∧ newBlk (some (vf b)) = [b] ∧ opAllocs o.op = true := by
 have hput : ∀ (B : RB), ρ.put b B b = some B := fun B => put_self _ _ _
 have main : ∀ (l' : List Value) (v' : Nat → Value), VRL ρ l l' → (execOp fr.eval o).runT P w #[] = (.ok (.value (v' w.heap.size)) (World.grow w (.cells l'.toArray elem)), #[]) → VR (ρ.put b ⟨w.heap.size, l.length, es⟩) (vf b) (v' w.heap.size) → SoundA P ρ b (.cells tr l.length elem es true 0 true false) (vf b) c w (execOp fr.eval o) := fun l' v' hl hrun hv => by
  have hh := heap_grow_new w (.cells l'.toArray elem)
  refine ⟨⟨w.heap.size, l.length, es⟩, v' w.heap.size, _, rfl, hv, hrun, .cells ?_ rfl (fun _ => rfl) (Nat.le_refl _) (fun _ => ⟨.inr rfl, fun _ off => ?_⟩) (fun e => by cases e) (fun _ k hk => ?_)⟩
  ·simp only [World.shape?, hh]
   simp [hl.length]
  ·simp only [World.frozen?, hh]
   simp
  ·obtain ⟨v, hv⟩ : ∃ v, l[k]? = some v := ⟨l[k], List.getElem?_eq_getElem hk⟩
   obtain ⟨v', h1, h2⟩ := hl.get k _ hv
   refine ⟨v, v', (hg k hk).trans hv, ?_, h2.mono (Ren.put_le hb)⟩
   simp only [World.cell?, hh]
   simpa using h1
 unfold pcells at hp
 split at hp
 ·rename_i t x ho
  split at hp
  ·rename_i u e1
   simp only [Option.some.injEq, Prod.mk.injEq] at hp
   obtain ⟨rfl, rfl, rfl, rfl⟩ := hp
   have hv := h x (by simp [ho, Op.operands]) _ e1
   refine ⟨main (fr.eval x).cells.toList (fun n => .pointer (some ⟨n, 0, none⟩)) (VR.cells hv) ?_ (ptr_put _ _ _ _ _), rfl, by rw [ho]; rfl⟩
   unfold execOp
   rw [ho]
   rfl
  ·cases hp
 ·rename_i t ho
  split at hp
  ·rename_i i d e1
   split at hp
   ·rename_i z e2
    cases e3 : ground 6 z with
    | false => rw [e3] at hp; cases hp
    | true =>
     rw [e3] at hp
     simp only [cond_true, Option.some.injEq, Prod.mk.injEq] at hp
     obtain ⟨rfl, rfl, rfl, rfl⟩ := hp
     refine ⟨main z.cells.toList (fun n => .pointer (some ⟨n, 0, none⟩)) (VR.cells (ground_refl 6 e3)) ?_ (ptr_put _ _ _ _ _), rfl, by rw [ho]; rfl⟩
     unfold execOp
     rw [ho]
     show (((zeroValue t).bind fun z => (newVar t z).bind fun a => Sem.pure (Value.pointer (some a))).bind fun r => Sem.pure (Next.value r)).runT P w #[] = _
     rw [runT_ok (s := (zeroValue t).bind fun z => (newVar t z).bind fun a => Sem.pure (Value.pointer (some a))) (a := .pointer (some ⟨w.heap.size, 0, none⟩)) (w' := World.grow w (.cells z.cells t)) (es' := #[])]
     ·simp only [Array.toArray_toList]; rfl
     ·rw [runT_ok (runT_zero hty e1 e2 _)]; rfl
   ·cases hp
  ·cases hp
 ·rename_i t len ps ho
  split at hp
  ·rename_i vs e0
   split at hp
   ·rename_i i0 elem' e1
    split at hp
    ·rename_i i d e2
     cases e30 : Nat.ble (len * i.size) 16777216 && Nat.blt len big with
     | false => rw [e30] at hp; cases hp
     | true =>
      rw [e30] at hp
      obtain ⟨e3, e31⟩ := Bool.and_eq_true_iff.1 e30
      simp only [cond_true] at hp
      split at hp
      ·rename_i cs e4
       split at hp
       ·rename_i r e5
        simp only [Option.some.injEq, Prod.mk.injEq] at hp
        obtain ⟨rfl, rfl, rfl, rfl⟩ := hp
        obtain ⟨r', q1, q2⟩ := buildSlice_run (w := w) hty h ho e0 e1 e2 e3 e4 e5
        exact ⟨main r' (fun n => .slice (some ⟨n, 0, none⟩) len len) q1 q2 (.sl (a := ⟨b, 0, none⟩) (B := ⟨w.heap.size, r.length, i.size⟩) (put_self _ _ _) (.inl ⟨ne_big e31, rfl⟩)), rfl, by rw [ho]; rfl⟩
       ·cases hp
      ·cases hp
    ·cases hp
   ·cases hp
  ·cases hp
 ·cases hp
end
end Go.Gd
namespace Go.Gd
open Go Go.Gw Go.Conc
structure Cfg where
 P : Program
 ty : Tys
 fns : Fns
structure CfgOk (C : Cfg) : Prop where
 ty : TysOk C.P C.ty
 fns : FnsOk C.P C.fns
 mixed : C.P.follows .mixedOrders = true
def pcallee (C : Cfg) (pf : PF) (H : PH) (c : Call) : Option (FuncId × Func × Code × List Value) :=
 match c.callee with
 | .value f => match peval H.ng pf f with
  | some (.func (.func g) xs ys) => match pevals H.ng pf c.args.toList with
   | some vs => match C.fns.get g with
    | some fn => match fn.body with
     | some body => cond (penterable fn && Nat.ble (xs.toList ++ vs ++ ys.toList).length (2 ^ T.deep)) (some (g, fn, body, xs.toList ++ vs ++ ys.toList)) none
     | none => none
    | none => none
   | none => none
  | _ => none
 | .invoke r nm => match peval H.ng pf r with
  | some (.iface t v) => match pmethod C.ty t nm with
   | some g => match pevals H.ng pf c.args.toList with
    | some vs => match C.fns.get g with
     | some fn => match fn.body with
      | some body => cond (penterable fn && Nat.ble (v :: vs).length (2 ^ T.deep)) (some (g, fn, body, v :: vs)) none
      | none => none
     | none => none
    | none => none
   | none => none
  | _ => none
 | .builtin _ => none
theorem pcallee_sound {C : Cfg} (hC : CfgOk C) {pf : PF} {H : PH} {o : Oper} {cl : Call} (ho : o.op = .call cl) {g : FuncId} {fn : Func} {body : Code} {args : List Value} (hp : pcallee C pf H cl = some (g, fn, body, args)) :
  C.P.funcs[g]? = some fn ∧ fn.body = some body ∧ args.length ≤ 2 ^ T.deep ∧ ∀ (ρ : Ren) (c : Ctx) (fr : Frame) (w : World), EvR H.ng ρ pf fr o → HR ρ H c w → COk c w → CallS C.P ρ g args w (execOp fr.eval o) := by
 obtain ⟨callee, as, ats⟩ := cl
 unfold pcallee at hp
 simp only at hp
 cases callee with
 | builtin b => cases hp
 | value f =>
  simp only at hp
  split at hp
  ·rename_i g' xs ys e1
   split at hp
   ·rename_i vs e2
    split at hp
    ·rename_i fn' e3
     split at hp
     ·rename_i body' e4
      cases e5 : penterable fn' && Nat.ble (xs.toList ++ vs ++ ys.toList).length (2 ^ T.deep) with
      | false => rw [e5] at hp; cases hp
      | true =>
       rw [e5] at hp
       simp only [cond_true, Option.some.injEq, Prod.mk.injEq] at hp
       obtain ⟨rfl, rfl, rfl, rfl⟩ := hp
       obtain ⟨q1, q2⟩ := Bool.and_eq_true_iff.1 e5
       exact ⟨hC.fns _ _ e3, e4, Nat.le_of_ble_eq_true q2, fun ρ c fr w h _ _ => callS_value h ho e1 (hC.fns _ _ e3) q1 e2⟩
     ·cases hp
    ·cases hp
   ·cases hp
  ·cases hp
 | invoke r nm =>
  simp only at hp
  split at hp
  ·rename_i t v e1
   split at hp
   ·rename_i g' e2
    split at hp
    ·rename_i vs e3
     split at hp
     ·rename_i fn' e4
      split at hp
      ·rename_i body' e5
       cases e6 : penterable fn' && Nat.ble (v :: vs).length (2 ^ T.deep) with
       | false => rw [e6] at hp; cases hp
       | true =>
        rw [e6] at hp
        simp only [cond_true, Option.some.injEq, Prod.mk.injEq] at hp
        obtain ⟨rfl, rfl, rfl, rfl⟩ := hp
        obtain ⟨q1, q2⟩ := Bool.and_eq_true_iff.1 e6
        exact ⟨hC.fns _ _ e4, e5, Nat.le_of_ble_eq_true q2, fun ρ c fr w h _ _ => callS_invoke hC.ty h ho e1 e2 (hC.fns _ _ e4) q1 e3⟩
      ·cases hp
     ·cases hp
    ·cases hp
   ·cases hp
  ·cases hp
def notEarly (k : CallKind) : Bool := match k with | .early => false | _ => true
def stepOps (C : Cfg) (pf : PF) (cs : List PF) (H : PH) (d : Nat) (all : Array Oper) (i : Nat) (o : Oper) (l : List Oper) (k : List PItem) : Option DS :=
 match pwanted pf all o with
 | none => none
 | some false => match pput pf o.dst undef with
  | some tm => some ⟨(pf.up tm (.ops all (i + 1) l :: k)), cs, H, d⟩
  | none => none
 | some true => match popR C.P C.ty pf H o with
  | some v => match pput pf o.dst v with
   | some tm => some ⟨(pf.up tm (.ops all (i + 1) l :: k)), cs, H, d⟩
   | none => none
  | none => match popW C.P C.ty pf H o with
   | some (v, H') => cond (Nat.ble H.next H'.next) (match pput pf o.dst v with
    | some tm => some ⟨(pf.up tm (.ops all (i + 1) l :: k)), cs, H', d⟩
    | none => none) none
   | none => match o.op with
    | .call c => match c.callee with
     | .builtin .recover => match pf.round with
      | none => match precover pf cs with
       | some (v, cs') => match pput pf o.dst v with
        | some tm => some ⟨(pf.up tm (.ops all (i + 1) l :: k)), cs', H, d⟩
        | none => none
       | none => none
      | _ => none
     | _ => match pcallee C pf H c with
      | some (g, fn, body, args) => some ⟨penter g fn body args .normal, pf :: cs, H, d⟩
      | none => none
    | .defer c => match pf.round with
     | none => match pdeferred H.ng pf o c with
      | some df => match pput pf o.dst undef with
       | some tm => some ⟨(pf.upD tm (.ops all (i + 1) l :: k) df), cs, H, d⟩
       | none => none
      | none => none
     | _ => none
    | .panic x => match peval H.ng pf x with
     | some (.iface t v) => some ⟨(pf.upM (.panicking [⟨.iface t v, false, false⟩])), cs, H, d⟩
     | _ => none
    | _ => none
section
variable {C : Cfg} {ty : TypeId} {Post : Value → World → Prop} {main : Bool} {E : Env}
theorem popR_notDefer {P : Program} {tys : Tys} {pf : PF} {H : PH} {o : Oper} {v : Value} (h : popR P tys pf H o = some v) : ∀ c, o.op ≠ .defer c := fun c e => by
 unfold popR at h
 rw [e] at h
 cases h
theorem popW_notDefer {P : Program} {tys : Tys} {pf : PF} {H : PH} {o : Oper} {r : Value × PH} (h : popW P tys pf H o = some r) : ∀ c, o.op ≠ .defer c := fun c e => by
 unfold popW at h
 rw [e] at h
 cases h
theorem stepOps_sound (hC : CfgOk C) (hb : main = true ∨ E.send ≠ none) {pf : PF} {cs : List PF} {H : PH} {d : Nat} {all : Array Oper} {i : Nat} {o : Oper} {l : List Oper} {k : List PItem} (hm : pf.mode = .run) (hk : notEarly pf.kind = true) (ht : pf.todo = .ops all i (o :: l) :: k) {s' : DS}
  (hp : stepOps C pf cs H d all i o l k = some s') : Reach C.P ty Post main E ⟨pf, cs, H, d⟩ s' := by
 have hk' : pf.kind ≠ .early := fun e => by rw [e] at hk; cases hk
 unfold stepOps at hp
 split at hp
 ·cases hp
 ·rename_i hw
  split at hp
  ·rename_i tm e1
   simp only [Option.some.injEq] at hp
   subst hp
   exact Reach.pass (s := ⟨pf, cs, H, d⟩) hb hm ht hw e1
  ·cases hp
 ·rename_i hw
  split at hp
  ·rename_i v e1
   split at hp
   ·rename_i tm e2
    simp only [Option.some.injEq] at hp
    subst hp
    exact Reach.op (s := ⟨pf, cs, H, d⟩) hb hm ht hk' (popR_notDefer e1) hw (Nat.le_refl _) e2 fun ρ c fr w h1 h2 h3 h4 => by
     have := (popR_sound (P := C.P) hC.ty h1 h2 h3 e1 (hn := H.next)).d (fn := pf.fn)
     rw [h4] at this
     exact this
   ·cases hp
  ·split at hp
   ·rename_i v H' e1
    cases e3 : Nat.ble H.next H'.next with
    | false => rw [e3] at hp; cases hp
    | true =>
     rw [e3] at hp
     simp only [cond_true] at hp
     split at hp
     ·rename_i tm e2
      simp only [Option.some.injEq] at hp
      subst hp
      exact Reach.op (s := ⟨pf, cs, H, d⟩) hb hm ht hk' (popW_notDefer e1) hw (Nat.le_of_ble_eq_true e3) e2 fun ρ c fr w h1 h2 h3 h4 => by
       have := (popW_sound (P := C.P) hC.ty h1 h2 h3 e1).d (fn := pf.fn)
       rw [h4] at this
       exact this
     ·cases hp
   ·split at hp
    ·rename_i cl eo
     split at hp
     ·rename_i ec
      split at hp
      ·rename_i er
       split at hp
       ·rename_i v cs' e1
        split at hp
        ·rename_i tm e2
         simp only [Option.some.injEq] at hp
         subst hp
         obtain ⟨callee, as, ats⟩ := cl
         have ec : callee = .builtin .recover := ec
         subst ec
         exact Reach.recover (s := ⟨pf, cs, H, d⟩) hb hm ht er eo hw e1 e2
        ·cases hp
       ·cases hp
      ·cases hp
     ·split at hp
      ·rename_i g fn body args e1
       simp only [Option.some.injEq] at hp
       subst hp
       obtain ⟨q1, q2, q3, q4⟩ := pcallee_sound hC eo e1
       exact Reach.call (s := ⟨pf, cs, H, d⟩) hb hm ht hk' (fun c e => by rw [eo] at e; cases e) hw q1 q2 q3 fun ρ c fr w h1 h2 h3 => q4 ρ c fr w h1 h2 h3
      ·cases hp
    ·rename_i cl eo
     split at hp
     ·rename_i er
      split at hp
      ·rename_i df e1
       split at hp
       ·rename_i tm e2
        simp only [Option.some.injEq] at hp
        subst hp
        exact Reach.defer (s := ⟨pf, cs, H, d⟩) hb hm ht hk' eo er hw e1 e2
       ·cases hp
      ·cases hp
     ·cases hp
    ·rename_i x eo
     split at hp
     ·rename_i t v e1
      simp only [Option.some.injEq] at hp
      subst hp
      exact Reach.panic (s := ⟨pf, cs, H, d⟩) hb hm ht hk' eo hw e1
     ·cases hp
    ·cases hp
end
end Go.Gd
namespace Go.Gd
open Go Go.Gw Go.Conc
def planned (pf : PF) (dst : Option Tmp) (v : Value) : Bool :=
 match dst with
 | none => true
 | some t => Nat.blt t pf.nt && (match pf.tmps.get t with | some u => veq 8 v u | none => false)
theorem planned_eq {pf : PF} {dst : Option Tmp} {v : Value} (h : planned pf dst v = true) : ∀ t, dst = some t → pf.tmps.get t = some v ∧ t < pf.nt := fun t e => by
 subst e
 unfold planned at h
 simp only [Bool.and_eq_true] at h
 obtain ⟨h1, h2⟩ := h
 split at h2
 ·rename_i u e
  rw [veq_eq 8 _ _ h2]
  exact ⟨e, Nat.le_of_ble_eq_true h1⟩
 ·cases h2
def cellsEq (tr : T Value) (l : List Value) : Nat → Bool :=
 List.rec (motive := fun _ => Nat → Bool) (fun _ => true) (fun v _ ih k => (match tr.get k with | some u => veq 8 v u | none => false) && ih (k + 1)) l
theorem cellsEq_get {tr : T Value} : ∀ {l : List Value} {off : Nat}, cellsEq tr l off = true → ∀ k, k < l.length → tr.get (off + k) = l[k]?
 | [], off, _, k, hk => by simp at hk
 | v :: l, off, h, k, hk => by
  have h : ((match tr.get off with | some u => veq 8 v u | none => false) && cellsEq tr l (off + 1)) = true := h
  simp only [Bool.and_eq_true] at h
  cases k with
  | zero =>
   split at h
   ·rename_i u e
    rw [veq_eq 8 _ _ h.1]
    simpa using e
   ·exact absurd h.1 (by simp)
  | succ k =>
   have := cellsEq_get h.2 k (by simpa using hk)
   rw [show off + (k + 1) = off + 1 + k by omega, this]
   rfl
def fok (C : Cfg) (pf : PF) (H : PH) (all : Array Oper) (i : Nat) : Bool :=
 match all.toList[i]? with
 | none => false
 | some o => match pwanted pf all o with
  | none => false
  | some false => planned pf o.dst undef
  | some true => match popR C.P C.ty pf H o with
   | some v => planned pf o.dst v
   | none => match pcells C.ty pf H.ng o with
    | some (l, elem, es, vf) => match o.dst with
     | some t => match pf.tmps.get t with
      | some v => match newBlk (some v) with
       | [b] => veq 8 (vf b) v && (Nat.blt t pf.nt && (match H.t.get b with
        | some (.cells tr n el es' true 0 true false) => Nat.beq n l.length && (Nat.beq el elem && (Nat.beq es' es && cellsEq tr l 0))
        | _ => false))
       | _ => false
      | none => false
     | none => false
    | none => false
def foks (C : Cfg) (pf : PF) (H : PH) (all : Array Oper) (fs : List Nat) : Bool := fs.all fun i => !lateB all i && fok C pf H all i
section
variable {C : Cfg} {ty : TypeId} {Post : Value → World → Prop} {main : Bool} {E : Env}
theorem pcells_notDefer {tys : Tys} {pf : PF} {ng : Nat} {o : Oper} {r : List Value × TypeId × Nat × (Nat → Value)} (h : pcells tys pf ng o = some r) : ∀ c, o.op ≠ .defer c := fun c e => by
 unfold pcells at h
 rw [e] at h
 cases h
theorem fok_sound (hC : CfgOk C) {pf : PF} {cs : List PF} {H : PH} {d : Nat} {all : Array Oper} {i : Nat} (h : fok C pf H all i = true) : FOk C.P ⟨pf, cs, H, d⟩ all i := by
 unfold fok at h
 split at h
 ·cases h
 ·rename_i o e0
  have ho : all[i]? = some o := by rw [← Array.getElem?_toList]; exact e0
  split at h
  ·cases h
  ·rename_i hw
   exact .pass ho hw (planned_eq h)
  ·rename_i hw
   split at h
   ·rename_i v e1
    exact .val ho hw (popR_notDefer e1) (planned_eq h) fun ρ c fr w h1 h2 h3 => (popR_sound hC.ty h1 h2 h3 e1).d
   ·split at h
    ·rename_i l elem es vf e1
     split at h
     ·rename_i t e2
      split at h
      ·rename_i v e3
       split at h
       ·rename_i b e4
        simp only [Bool.and_eq_true] at h
        obtain ⟨c1, c2, c3⟩ := h
        have c1 := veq_eq 8 _ _ c1
        split at c3
        ·rename_i tr n el es' e5
         simp only [Bool.and_eq_true] at c3
         obtain ⟨d1, d2, d3, d4⟩ := c3
         have d1 := Nat.eq_of_beq_eq_true d1
         have d2 := Nat.eq_of_beq_eq_true d2
         have d3 := Nat.eq_of_beq_eq_true d3
         subst d1 d2 d3
         have hg : ∀ k, k < l.length → tr.get k = l[k]? := fun k hk => by simpa using cellsEq_get d4 k hk
         have hal : opAllocs o.op = true := by
          unfold pcells at e1
          split at e1
          ·rename_i q; rw [q]; rfl
          ·rename_i q; rw [q]; rfl
          ·rename_i q; rw [q]; rfl
          ·cases e1
         exact .alloc ho hw (pcells_notDefer e1) hal (fun t' ht' => by
          rw [e2] at ht'; cases ht'
          exact ⟨e3, Nat.le_of_ble_eq_true c2⟩) ⟨t, e2⟩ e4 e5 rfl fun ρ c fr w h1 h2 h3 h4 => by
           have := (pcells_sound (P := C.P) (c := c) (w := w) hC.ty h1 h4 e1 hg).1
           rw [c1] at this
           exact this
        ·cases c3
       ·cases h
      ·cases h
     ·cases h
    ·cases h
theorem foks_sound (hC : CfgOk C) {pf : PF} {cs : List PF} {H : PH} {d : Nat} {all : Array Oper} {fs : List Nat} (h : foks C pf H all fs = true) : (∀ i ∈ fs, lateB all i = false) ∧ ∀ i ∈ fs, FOk C.P ⟨pf, cs, H, d⟩ all i := by
 have key : ∀ i ∈ fs, lateB all i = false ∧ fok C pf H all i = true := fun i hi => by
  have := List.all_eq_true.1 h i hi
  simpa using this
 exact ⟨fun i hi => (key i hi).1, fun i hi => fok_sound hC (key i hi).2⟩
end
def looksOnly (o : Oper) : Bool :=
 match o.op with
 | .move _ | .load .. | .binOp .. | .fieldAddr .. | .indexAddr .. | .extract .. | .pick .. | .unOp .. | .nilCheck _ | .makeInterface .. | .makeFunc .. | .field .. | .index .. | .slice .. | .lookup .. | .typeAssert .. | .build .. | .convert .. | .box .. | .alloc .. | .buildSlice .. => true
 | .call { callee := .builtin .len, .. } | .call { callee := .builtin .min, .. } | .call { callee := .builtin .max, .. } => true
 | _ => false
def sweep (all : List (Nat × Bool × Nat)) (mask : Nat) : List Nat × List (Nat × Bool × Nat) × Nat :=
 match all with
 | [] => ([], [], mask)
 | (i, f, b) :: l => if f && Nat.beq (Nat.land b mask) b then
   match sweep l (Nat.lor mask (2 ^ i)) with
   | (t, r, m) => (i :: t, r, m)
  else match sweep l mask with
   | (t, r, m) => (t, (i, f, b) :: r, m)
def takeOne (all : List (Nat × Bool × Nat)) (mask : Nat) : Option (Nat × List (Nat × Bool × Nat)) :=
 match all with
 | [] => none
 | (i, f, b) :: l => if Nat.beq (Nat.land b mask) b then some (i, l) else match takeOne l mask with
  | some (j, r) => some (j, (i, f, b) :: r)
  | none => none
def asapGo (fuel : Nat) (all : List (Nat × Bool × Nat)) (mask : Nat) : List Nat :=
 match fuel with
 | 0 => all.map (·.1)
 | n + 1 => match sweep all mask with
  | (t, r, m) => t ++ (match takeOne r m with
   | some (j, r') => j :: asapGo n r' (Nat.lor m (2 ^ j))
   | none => r.map (·.1))
def asap (ops : Array Oper) : List Nat :=
 asapGo ops.size ((numbered ops).map fun (o, i) => (i, looksOnly o, (Region.before ops).getD i 0)) 0
def orderOk (ops : Array Oper) (es : List Nat) : Bool := es.all (fun i => Nat.blt i ops.size) && (List.range ops.size).all fun i => es.any (Nat.beq i)
theorem orderOk_spec {ops : Array Oper} {es : List Nat} (h : orderOk ops es = true) : (∀ i ∈ es, i < ops.size) ∧ ∀ i, i < ops.size → i ∈ es := by
 unfold orderOk at h
 rw [Bool.and_eq_true] at h
 refine ⟨fun i hi => Nat.le_of_ble_eq_true (List.all_eq_true.1 h.1 i hi), fun i hi => ?_⟩
 have := List.all_eq_true.1 h.2 i (List.mem_range.2 hi)
 obtain ⟨j, h1, h2⟩ := List.any_eq_true.1 this
 rw [Nat.eq_of_beq_eq_true h2]
 exact h1
def stepDraw (C : Cfg) (pf : PF) (cs : List PF) (H : PH) (d : Nat) (all : Array Oper) (fs es : List Nat) (k : List PItem) : Option DS :=
 cond (tmpsOk all) (match es with
  | [] => cond (foks C pf H all fs) (some ⟨(pf.go (k)), cs, H, d⟩) none
  | e :: es => match all.toList[e]? with
   | none => none
   | some o => match pwanted pf all o with
    | none => none
    | some false => match pput pf o.dst undef with
     | some tm => some ⟨(pf.up tm (.dreg all (e :: fs) es :: k)), cs, H, d⟩
     | none => none
    | some true => match (cond (looksOnly o) (popR C.P C.ty pf H o) none) with
     | some v => cond (opAllocs o.op) none (match pput pf o.dst v with
      | some tm => some ⟨(pf.up tm (.dreg all (e :: fs) es :: k)), cs, H, d⟩
      | none => none)
     | none => match pcells C.ty pf H.ng o with
      | some (l, elem, sz, vf) => match o.dst with
       | some _t => match pput pf o.dst (vf H.next) with
        | some tm => cond (Nat.ble (H.next + 1) (2 ^ T.deep)) (match newBlk (some (vf H.next)) with
         | [b] => cond (Nat.beq b H.next) (some ⟨(pf.up tm (.dreg all (e :: fs) es :: k)), cs, (H.upN (H.t.set H.next (.cells (setFrom l .nil 0) l.length elem sz true 0 true false))), d⟩) none
         | _ => none) none
        | none => none
       | none => none
      | none => cond (foks C pf H all fs && chained (Region.before all) e es) (match (match popR C.P C.ty pf H o with | some v => some (v, H) | none => popW C.P C.ty pf H o) with
       | some (v, H') => cond (Nat.ble H.next H'.next) (match pput pf o.dst v with
        | some tm => some ⟨(pf.up tm (.dreg all (behind (Region.before all) e fs) es :: k)), cs, H', d⟩
        | none => none) none
       | none => match o.op with
        | .call c => match pcallee C pf H c with
         | some (g, fn, body, args) => cond (fs.any (Nat.beq e)) none (some ⟨penter g fn body args .normal, (pf.go (.dcall all (behind (Region.before all) e fs) e es :: k)) :: cs, H, d⟩)
         | none => none
        | _ => none) none) none
section
variable {C : Cfg} {ty : TypeId} {Post : Value → World → Prop} {main : Bool} {E : Env}
theorem pput_dst {pf : PF} {t : Tmp} {v : Value} {tm : T Value} (h : pput pf (some t) v = some tm) : tm.get t = some v := by
 rw [put_get h t]; simp
theorem stepDraw_sound (hC : CfgOk C) (hb : main = true ∨ E.send ≠ none) {pf : PF} {cs : List PF} {H : PH} {d : Nat} {all : Array Oper} {fs es : List Nat} {k : List PItem} (hm : pf.mode = .run) (hk : notEarly pf.kind = true) (ht : pf.todo = .dreg all fs es :: k) {s' : DS}
  (hp : stepDraw C pf cs H d all fs es k = some s') : Reach C.P ty Post main E ⟨pf, cs, H, d⟩ s' := by
 have hk' : pf.kind ≠ .early := fun e => by rw [e] at hk; cases hk
 unfold stepDraw at hp
 cases htm : tmpsOk all with
 | false => rw [htm] at hp; cases hp
 | true =>
  rw [htm] at hp
  simp only [cond_true] at hp
  cases es with
  | nil =>
   simp only at hp
   cases hf : foks C pf H all fs with
   | false => rw [hf] at hp; cases hp
   | true =>
    rw [hf] at hp
    simp only [cond_true, Option.some.injEq] at hp
    subst hp
    obtain ⟨q1, q2⟩ := foks_sound hC (cs := cs) (d := d) hf
    exact Reach.drawEnd (s := ⟨pf, cs, H, d⟩) hb hm hk' ht htm q1 q2
  | cons e es =>
   simp only at hp
   split at hp
   ·cases hp
   ·rename_i o e0
    have ho : all[e]? = some o := by rw [← Array.getElem?_toList]; exact e0
    split at hp
    ·cases hp
    ·rename_i hw
     split at hp
     ·rename_i tm e1
      simp only [Option.some.injEq] at hp
      subst hp
      refine Reach.ahead (s := ⟨pf, cs, H, d⟩) ht htm ho e1 (.inl ⟨rfl, fun _ => ?_⟩)
      cases hd : o.dst with
      | none => rfl
      | some t =>
       rw [hd] at e1
       simp only [Option.bind_some]
       rw [pput_dst e1]
       rfl
     ·cases hp
    ·rename_i hw
     split at hp
     ·rename_i v e1
      cases ea : opAllocs o.op with
      | true => rw [ea] at hp; cases hp
      | false =>
       rw [ea] at hp
       simp only [cond_false] at hp
       split at hp
       ·rename_i tm e2
        simp only [Option.some.injEq] at hp
        subst hp
        exact Reach.ahead (s := ⟨pf, cs, H, d⟩) ht htm ho e2 (.inl ⟨rfl, fun q => by rw [ea] at q; cases q⟩)
       ·cases hp
     ·split at hp
      ·rename_i l elem sz vf e2
       split at hp
       ·rename_i t e3
        split at hp
        ·rename_i tm e4
         cases e5 : Nat.ble (H.next + 1) (2 ^ T.deep) with
         | false => rw [e5] at hp; cases hp
         | true =>
          rw [e5] at hp
          simp only [cond_true] at hp
          split at hp
          ·rename_i b e6
           cases e7 : Nat.beq b H.next with
           | false => rw [e7] at hp; cases hp
           | true =>
            rw [e7] at hp
            simp only [cond_true, Option.some.injEq] at hp
            subst hp
            have e7 := Nat.eq_of_beq_eq_true e7
            refine Reach.ahead (s := ⟨pf, cs, H, d⟩) ht htm ho e4 (.inr ⟨_, rfl, Nat.le_of_ble_eq_true e5, ?_⟩)
            rw [e3] at e4 ⊢
            simp only [Option.bind_some]
            rw [pput_dst e4, e6, e7]
          ·cases hp
        ·cases hp
       ·cases hp
      ·cases ef : foks C pf H all fs && chained (Region.before all) e es with
       | false => rw [ef] at hp; cases hp
       | true =>
        rw [ef] at hp
        obtain ⟨ef1, ef2⟩ := Bool.and_eq_true_iff.1 ef
        obtain ⟨q1, q2⟩ := foks_sound hC (cs := cs) (d := d) ef1
        simp only [cond_true] at hp
        split at hp
        ·rename_i v H' e3
         cases e4 : Nat.ble H.next H'.next with
         | false => rw [e4] at hp; cases hp
         | true =>
          rw [e4] at hp
          simp only [cond_true] at hp
          split at hp
          ·rename_i tm e5
           simp only [Option.some.injEq] at hp
           subst hp
           have hsnd : (∀ c, o.op ≠ .defer c) ∧ ∀ (ρ : Ren) (c : Ctx) (fr : Frame) (w : World), EvR H.ng ρ pf fr o → HR ρ H c w → COk c w → Sound C.P ρ H.next v H' c w (execOp fr.eval o) := by
            split at e3
            ·rename_i v' e6
             simp only [Option.some.injEq, Prod.mk.injEq] at e3
             obtain ⟨rfl, rfl⟩ := e3
             exact ⟨popR_notDefer e6, fun ρ c fr w h1 h2 h3 => popR_sound hC.ty h1 h2 h3 e6⟩
            ·exact ⟨popW_notDefer e3, fun ρ c fr w h1 h2 h3 => popW_sound hC.ty h1 h2 h3 e3⟩
           exact Reach.drawVal (s := ⟨pf, cs, H, d⟩) hb hm hk' ht htm ef2 q1 (fun i hi _ => q2 i hi) ho hsnd.1 hw (Nat.le_of_ble_eq_true e4) e5 fun ρ c fr w h1 h2 h3 h4 => by
            have := (hsnd.2 ρ c fr w h1 h2 h3).d (fn := pf.fn)
            rw [h4] at this
            exact this
          ·cases hp
        ·split at hp
         ·rename_i cl eo
          split at hp
          ·rename_i g fn body args e5
           cases e6 : fs.any (Nat.beq e) with
           | true => rw [e6] at hp; cases hp
           | false =>
            rw [e6] at hp
            simp only [cond_false, Option.some.injEq] at hp
            subst hp
            obtain ⟨g1, g2, g3, g4⟩ := pcallee_sound hC eo e5
            have hne : e ∉ fs := fun hm => by
             have := List.any_eq_true.2 ⟨e, hm, Nat.beq_refl e⟩
             rw [e6] at this; cases this
            exact Reach.drawCall (s := ⟨pf, cs, H, d⟩) hb hm hk' ht htm ef2 q1 (fun i hi _ => q2 i hi) hne ho (fun c e => by rw [eo] at e; cases e) hw g1 g2 g3 fun ρ c fr w h1 h2 h3 => g4 ρ c fr w h1 h2 h3
          ·cases hp
         ·cases hp
end
end Go.Gd
namespace Go.Gd
open Go Go.Gw Go.Conc
def pdelDeferred (P : Program) (tys : Tys) (H : PH) (ats : List TypeId) (as : List Value) : Option PH :=
 match ats with
 | [s, _] => match as with
  | [u, v] => pdelete P tys H s u v
  | _ => none
 | _ => none
section
variable {P : Program} {ρ : Ren} {H : PH} {c : Ctx} {w : World}
theorem delDeferred_sound {tys : Tys} (hty : TysOk P tys) (hH : HR ρ H c w) (hok : COk c w) {ats : Array TypeId} {t : TypeId} {cs0 : Array Bool} {as as' : Array Value} (hx : VRL ρ as.toList as'.toList) {H' : PH} (hp : pdelDeferred P tys H ats.toList as.toList = some H') :
  Sound P ρ H.next undef H' c w (builtin .delete ats t cs0 as') := by
 obtain ⟨ats⟩ := ats
 obtain ⟨as⟩ := as
 obtain ⟨as'⟩ := as'
 unfold pdelDeferred at hp
 simp only at hp hx
 split at hp
 ·rename_i s kt
  split at hp
  ·rename_i u v
   cases hx with
   | cons h1 hx =>
    rename_i u' l'
    cases hx with
    | cons h2 hx =>
     rename_i v' l'
     cases hx
     let o : Oper := { dst := none, op := .call { callee := .builtin .delete, args := #[.tmp 0, .tmp 1], argTypes := #[s, kt] }, type := t, pos := "", after := #[], guard := none }
     let fr : Frame := { fn := 0, tmps := #[u', v'], todo := [], defers := [], mode := .run, kind := .normal, roundOf := none }
     let pf : PF := ⟨0, (T.nil.set 0 u).set 1 v, 2, [], [], .run, .normal, none⟩
     have g0 : pf.tmps.get 0 = some u := by
      show ((T.nil.set 0 u).set 1 v).get 0 = _
      rw [T.get_set _ _ _ _ (by decide), if_neg (by decide), T.get_set _ _ _ _ (by decide), if_pos rfl]
     have g1 : pf.tmps.get 1 = some v := by
      show ((T.nil.set 0 u).set 1 v).get 1 = _
      rw [T.get_set _ _ _ _ (by decide), if_pos rfl]
     have hev : EvR H.ng ρ pf fr o := by
      refine EvR.of (fun k x hk => ?_) hH o
      by_cases e0 : k = 0
      ·subst e0; rw [g0] at hk; cases hk; exact ⟨u', rfl, h1⟩
      ·by_cases e1 : k = 1
       ·subst e1; rw [g1] at hk; cases hk; exact ⟨v', rfl, h2⟩
       ·have : pf.tmps.get k = none := by
         show ((T.nil.set 0 u).set 1 v).get k = _
         rw [T.get_set _ _ _ _ (by decide), if_neg e1, T.get_set _ _ _ _ (by decide), if_neg e0]; rfl
        rw [this] at hk; cases hk
     have := delete_sound (hn := H.next) hty hev hH hok (o := o) rfl (x := .tmp 0) (y := .tmp 1) g0 g1 hp
     rw [builtin_term (o := o) rfl] at this
     have hmap : Array.map fr.eval #[Operand.tmp 0, Operand.tmp 1] = #[u', v'] := by
      simp [Frame.eval, fr]
     rw [hmap] at this
     exact this
  ·cases hp
 ·cases hp
end
def stepEnd (C : Cfg) (pf : PF) (cs : List PF) (H : PH) (d : Nat) : Option DS :=
 match pf.defers with
 | ⟨tg, as⟩ :: ds => match tg with
  | .fn (.func f) ys => match C.fns.get f with
   | some fn => match fn.body with
    | some body => cond (penterable fn && Nat.ble (as.toList.length + ys.toList.length) (2 ^ T.deep)) (some ⟨penter f fn body (as.toList ++ ys.toList) .deferred, (pf.upDs ds) :: cs, H, d⟩) none
    | none => none
   | none => none
  | .builtin .delete ats _ _ => match pdelDeferred C.P C.ty H ats.toList as.toList with
   | some H' => cond (Nat.ble H.next H'.next) (some ⟨(pf.upDs ds), cs, H', d⟩) none
   | none => none
  | _ => none
 | [] => match C.fns.get pf.fn with
  | none => none
  | some fn => match cs with
   | [] => none
   | pc :: cs' => match pf.mode with
    | .panicking ch => some ⟨(pc.upM (praise ch pc.mode)), cs', H, d⟩
    | .returning => cond (plainTodo pf.todo) (match presults C.ty H pf.tmps fn.results.toList with
     | none => none
     | some vs => match pf.kind with
      | .deferred => match pafter pc.mode with
       | some m => some ⟨(pc.upM m), cs', H, d⟩
       | none => none
      | .normal => match pc.todo with
       | .ops all i (o :: l) :: k => match pput pc o.dst (presV vs) with
        | some tm => some ⟨(pc.up tm (.ops all (i + 1) l :: k)), cs', H, d⟩
        | none => none
       | .dcall all fs e es :: k => match all.toList[e]? with
        | some o => match pput pc o.dst (presV vs) with
         | some tm => cond (tmpsOk all && chained (Region.before all) e es) (some ⟨(pc.up tm (.dreg all (behind (Region.before all) e fs) es :: k)), cs', H, d⟩) none
         | none => none
        | none => none
       | _ => none
      | _ => none) none
    | _ => none
def dstep (C : Cfg) (s : DS) : Option DS :=
 match s with
 | ⟨fr, cs, H, d⟩ => match fr.mode with
  | .run => match fr.todo with
   | .ops all i (o :: l) :: k => cond (notEarly fr.kind) (stepOps C fr cs H d all i o l k) none
   | .dreg all fs es :: k => cond (notEarly fr.kind) (stepDraw C fr cs H d all fs es k) none
   | .code (.region _ ops true) :: k => cond (edgesOk ops && orderOk ops (asap ops)) (some ⟨fr.go (.dreg ops [] (asap ops) :: k), cs, H, d⟩) none
   | _ => match pctl H.ng fr with
    | some pf => some ⟨pf, cs, H, d⟩
    | none => none
  | _ => stepEnd C fr cs H d
section
variable {C : Cfg} {ty : TypeId} {Post : Value → World → Prop} {main : Bool} {E : Env}
theorem stepEnd_sound (hC : CfgOk C) (hb : main = true ∨ E.send ≠ none) {pf : PF} {cs : List PF} {H : PH} {d : Nat} (hm : pf.mode ≠ .run) {s' : DS}
  (hp : stepEnd C pf cs H d = some s') : Reach C.P ty Post main E ⟨pf, cs, H, d⟩ s' := by
 unfold stepEnd at hp
 split at hp
 ·rename_i tg as ds ed
  split at hp
  ·rename_i f ys
   split at hp
   ·rename_i fn e1
    split at hp
    ·rename_i body e2
     cases e3 : penterable fn && Nat.ble (as.toList.length + ys.toList.length) (2 ^ T.deep) with
     | false => rw [e3] at hp; cases hp
     | true =>
      rw [e3] at hp
      simp only [cond_true, Option.some.injEq] at hp
      subst hp
      obtain ⟨q1, q2⟩ := Bool.and_eq_true_iff.1 e3
      exact Reach.callDeferred (s := ⟨pf, cs, H, d⟩) hb hm ed (hC.fns _ _ e1) e2 q1 (by simpa using Nat.le_of_ble_eq_true q2)
    ·cases hp
   ·cases hp
  ·rename_i ats t cs0
   split at hp
   ·rename_i H' e1
    cases e3 : Nat.ble H.next H'.next with
    | false => rw [e3] at hp; cases hp
    | true =>
     rw [e3] at hp
     simp only [cond_true, Option.some.injEq] at hp
     subst hp
     exact Reach.deferredOp (s := ⟨pf, cs, H, d⟩) hb hm ed (Nat.le_of_ble_eq_true e3) fun ρ c w as' h1 h2 h3 => delDeferred_sound hC.ty h2 h3 h1 e1
   ·cases hp
  ·cases hp
 ·rename_i ed
  split at hp
  ·cases hp
  ·rename_i fn e1
   split at hp
   ·cases hp
   ·rename_i pc cs'
    split at hp
    ·rename_i ch em
     simp only [Option.some.injEq] at hp
     subst hp
     exact Reach.unwound (s := ⟨pf, pc :: cs', H, d⟩) hb em ed (hC.fns _ _ e1) rfl
    ·rename_i em
     cases ept : plainTodo pf.todo with
     | false => rw [ept] at hp; cases hp
     | true =>
      rw [ept] at hp
      simp only [cond_true] at hp
      split at hp
      ·cases hp
      ·rename_i vs e2
       split at hp
       ·rename_i ek
        split at hp
        ·rename_i m e3
         simp only [Option.some.injEq] at hp
         subst hp
         exact Reach.retDeferred (s := ⟨pf, pc :: cs', H, d⟩) hC.ty hb em ed ept ek (hC.fns _ _ e1) e2 rfl e3
        ·cases hp
       ·rename_i ek
        split at hp
        ·rename_i all i o l k et
         split at hp
         ·rename_i tm e3
          simp only [Option.some.injEq] at hp
          subst hp
          exact Reach.ret (s := ⟨pf, pc :: cs', H, d⟩) hC.ty hb em ed ept ek (hC.fns _ _ e1) e2 rfl et e3
         ·cases hp
        ·rename_i all fs e es k et
         split at hp
         ·rename_i o e4
          split at hp
          ·rename_i tm e3
           cases e5 : tmpsOk all && chained (Region.before all) e es with
           | false => rw [e5] at hp; cases hp
           | true =>
            rw [e5] at hp
            simp only [cond_true, Option.some.injEq] at hp
            subst hp
            obtain ⟨q1, q2⟩ := Bool.and_eq_true_iff.1 e5
            exact Reach.retDraw (s := ⟨pf, pc :: cs', H, d⟩) hC.ty hb em ed ept ek (hC.fns _ _ e1) e2 rfl et q1 (by rw [← Array.getElem?_toList]; exact e4) e3 q2
          ·cases hp
         ·cases hp
        ·cases hp
       ·cases hp
    ·cases hp
theorem dstep_sound (hC : CfgOk C) (hb : main = true ∨ E.send ≠ none) {s s' : DS} (hp : dstep C s = some s') : Reach C.P ty Post main E s s' := by
 obtain ⟨fr, cs, H, d⟩ := s
 unfold dstep at hp
 simp only at hp
 split at hp
 ·rename_i hm
  split at hp
  ·rename_i all i o l k ht
   cases hk : notEarly fr.kind with
   | false => rw [hk] at hp; cases hp
   | true =>
    rw [hk] at hp
    exact stepOps_sound hC hb hm hk ht hp
  ·rename_i all fs es k ht
   cases hk : notEarly fr.kind with
   | false => rw [hk] at hp; cases hp
   | true =>
    rw [hk] at hp
    exact stepDraw_sound hC hb hm hk ht hp
  ·rename_i id ops k ht
   cases hk : edgesOk ops && orderOk ops (asap ops) with
   | false => rw [hk] at hp; cases hp
   | true =>
    rw [hk] at hp
    simp only [cond_true, Option.some.injEq] at hp
    subst hp
    obtain ⟨q1, q2⟩ := Bool.and_eq_true_iff.1 hk
    obtain ⟨q3, q4⟩ := orderOk_spec q2
    exact Reach.draw (s := ⟨fr, cs, H, d⟩) hC.mixed hb hm ht q1 q3 q4
  ·split at hp
   ·rename_i pf e1
    simp only [Option.some.injEq] at hp
    subst hp
    exact Reach.pctl (s := ⟨fr, cs, H, d⟩) hb e1
   ·cases hp
 ·rename_i hm
  exact stepEnd_sound hC hb (fun e => hm e) hp
def diter (C : Cfg) (k : Nat) : DS → DS :=
 Nat.rec (motive := fun _ => DS → DS) (fun s => match dstep C s with | some s' => s' | none => s) (fun _ ih s => DS.casesOn (ih s) fun a b c d => ih ⟨a, b, c, d⟩) k
theorem diter_reach (hC : CfgOk C) (hb : main = true ∨ E.send ≠ none) : ∀ (k : Nat) (s : DS), Reach C.P ty Post main E s (diter C k s)
 | 0, s => by
  show Reach C.P ty Post main E s (match dstep C s with | some s' => s' | none => s)
  split
  ·rename_i s' e
   exact dstep_sound hC hb e
  ·exact .refl s
 | k + 1, s => (diter_reach hC hb k s).trans (diter_reach hC hb k (diter C k s))
end
end Go.Gd
namespace Go.Gd
open Go Go.Gw Go.Conc
section
variable {P : Program} {ty : TypeId} {tys : Tys} {Post : Value → World → Prop} {main : Bool} {n : Nat} {E : Env} {ρ : Ren} {s s' : DS} {c : Ctx} {g : Goroutine} {w : World}
theorem Reach.heap (_hb : main = true ∨ E.send ≠ none) (hnx : s.H.next ≤ s'.H.next) (hdd' : s'.d = s.d)
  (hst : ∀ (E : Env) ρ c fr cs pd pds w, FrR ρ s.fr fr pd → FsR ρ s.cs cs pds → HR ρ s.H c w → COk c w → ∃ ρ' M' R' w' fr₁ cs₁ pd₁ pds₁ es, ρ.le ρ' ∧ FrR ρ' s'.fr fr₁ pd₁ ∧ FsR ρ' s'.cs cs₁ pds₁ ∧ (pd₁ ++ pds₁).Sublist (pd ++ pds) ∧
   HR ρ' s'.H { c with M := M', R := R' } w' ∧ COk { c with M := M', R := R' } w' ∧ Guar c M' R' w w' ∧ Foot c w w' es ∧ Neut es ∧ Fra ρ ρ' s.H.next c M' w w' ∧ stepG P main (G fr (cs ++ E.base)) w = .go (G fr₁ (cs₁ ++ E.base)) w' (seen P fr.fn es)) :
  Reach P ty Post main E s s' := by
 refine ⟨1, fun E hb n hn ρ c g w h => ?_⟩
 cases h with
 | mk hf hc hnd hpn hH hok hdd h1 h2 h3 hkp =>
  rename_i fr cs pd pds
  refine W.dpriv rfl (hb.imp id fun e => by rw [h1]; exact e) fun w₁ r => ?_
  obtain ⟨ρ', M', R', w', fr₁, cs₁, pd₁, pds₁, es, a1, q1, q2, q3, a4, a5, a6, a7, a8, a9, q5⟩ := hst E ρ c fr cs pd pds w₁ hf hc (hH.rely r) (hok.rely r)
  have hsub := seen_sub P fr.fn es
  have hdf2 : deafBehind c.d (seen P fr.fn es) = c.d := deaf_neut _ _ fun e he => a8 e (hsub e he)
  refine ⟨_, w', _, M', R', q5, rfl, a6, fun e he => a7 e (hsub e he), ?_⟩
  rw [hdf2]
  refine hn ρ' { c with M := M', R := R' } _ w' (.mk q1 q2 (hnd.sublist q3) (fun b' hb' => ?_) a4 a5 (hdd.trans hdd'.symm) h1 h2 h3 ((hkp.rely r).step (hok.rely r) a6 a9 a1))
  obtain ⟨p1, p2⟩ := hpn b' (q3.subset hb')
  refine ⟨?_, Nat.lt_of_lt_of_le p2 hnx⟩
  cases hx : ρ' b' with
  | none => rfl
  | some B =>
   rcases a9.new b' B hx with h | h
   ·rw [p1] at h; cases h
   ·omega
theorem Guar.trans {M₁ M₂ : Nat → Prop} {R₁ R₂ : Addr → Prop} {w' w'' : World} (g : Guar c M₁ R₁ w w') (g' : Guar { c with M := M₁, R := R₁ } M₂ R₂ w' w'') : Guar c M₂ R₂ w w'' := by
 have nm : ∀ b, b < w.heap.size → ¬ c.M b → ¬ M₁ b := fun b hb hn hm => by
  rcases (g.mine b hm).2 with h | h
  ·exact hn h
  ·omega
 refine ⟨g'.tape.trans g.tape, g'.os.trans g.os, g'.output.trans g.output, Nat.le_trans g.size g'.size, fun b hb => (g'.shape b (Nat.lt_of_lt_of_le hb g.size)).trans (g.shape b hb), fun b hb hn => (g'.keep b (Nat.lt_of_lt_of_le hb g.size) (nm b hb hn)).trans (g.keep b hb hn), fun b hb => ?_, fun a ha => g'.more a (g.more a ha), fun a ha => ?_⟩
 ·refine ⟨(g'.mine b hb).1, ?_⟩
  rcases (g'.mine b hb).2 with h | h
  ·exact (g.mine b h).2
  ·exact .inr (Nat.le_trans g.size h)
 ·rcases g'.ro a ha with h | ⟨h1, h2, h3⟩
  ·rcases g.ro a h with h | ⟨h1, h2, h3⟩
   ·exact .inl h
   ·refine .inr ⟨Nat.lt_of_lt_of_le h1 g'.size, h2, fun hm => ?_⟩
    rcases (g'.mine _ hm).2 with h' | h'
    ·exact h3 h'
    ·omega
  ·refine .inr ⟨h1, ?_, h3⟩
   rcases h2 with h2 | h2
   ·exact (g.mine _ h2).2
   ·exact .inr (Nat.le_trans g.size h2)
theorem Fra.trans {ρ' ρ'' : Ren} {hn hn' : Nat} {M₁ M₂ : Nat → Prop} {R₁ : Addr → Prop} {w' w'' : World} (f : Fra ρ ρ' hn c M₁ w w') (f' : Fra ρ' ρ'' hn' { c with M := M₁, R := R₁ } M₂ w' w'') (hok : COk c w) (hs : w.heap.size ≤ w'.heap.size) (hle : hn ≤ hn') : Fra ρ ρ'' hn c M₂ w w'' := by
 refine ⟨fun b hb hx => ?_, fun x B hx => ?_, fun x B hx => ?_⟩
 ·obtain ⟨h1, h2⟩ := f.own b hb hx
  obtain ⟨h3, h4⟩ := f'.own b h1 fun x B hB e => by
   rcases f.ran x B hB with ⟨y, B', hy, e'⟩ | hl
   ·exact hx y B' hy (e'.trans e)
   ·have := hok.ml b hb
    omega
  exact ⟨h3, h4.trans h2⟩
 ·rcases f'.ran x B hx with ⟨y, B', hy, e⟩ | hl
  ·rcases f.ran y B' hy with ⟨z, B'', hz, e'⟩ | hl
   ·exact .inl ⟨z, B'', hz, e'.trans e⟩
   ·exact .inr (by omega)
  ·exact .inr (Nat.le_trans hs hl)
 ·rcases f'.new x B hx with h | h
  ·exact f.new x B h
  ·exact .inr (Nat.le_trans hle h)
theorem FrR.setDefers {pf : PF} {fr : Frame} {pd : List Nat} {ds : List Deferred} {ds' : List Deferred} (h : FrR ρ pf fr pd) (hd : LR (DfR ρ) ds ds') : FrR ρ { pf with defers := ds } { fr with defers := ds' } pd :=
 ⟨h.fn, h.size, h.todo, hd, h.mode, h.kind, h.round⟩
def tmpsOut (tm : T Value) (n : Nat) : List Value := (List.range n).map fun k => match tm.get k with | some v => v | none => hole
def tmpsIn (l : List Value) : Nat → T Value → T Value :=
 List.rec (motive := fun _ => Nat → T Value → T Value) (fun _ t => t) (fun v _ ih k t => ih (k + 1) (cond (isHole v) t (t.set k v))) l
theorem tmpsIn_get : ∀ (l : List Value) (off : Nat) (t : T Value) (k : Nat) (v : Value), off + l.length ≤ 2 ^ T.deep → (tmpsIn l off t).get k = some v → (off ≤ k ∧ l[k - off]? = some v ∧ isHole v = false) ∨ t.get k = some v
 | [], _, _, _, _, _, h => .inr h
 | u :: l, off, t, k, v, hl, h => by
  have h : (tmpsIn l (off + 1) (cond (isHole u) t (t.set off u))).get k = some v := h
  simp only [List.length_cons] at hl
  rcases tmpsIn_get l (off + 1) _ k v (by omega) h with ⟨h1, h2, h3⟩ | h1
  ·refine .inl ⟨by omega, ?_, h3⟩
   rw [show k - off = (k - (off + 1)) + 1 by omega]
   exact h2
  ·cases hh : isHole u with
   | true => rw [hh] at h1; exact .inr h1
   | false =>
    rw [hh] at h1
    simp only [cond_false] at h1
    rw [T.get_set _ _ _ _ (by omega)] at h1
    by_cases e : k = off
    ·subst e
     rw [if_pos rfl] at h1
     cases h1
     exact .inl ⟨Nat.le_refl _, by simp, hh⟩
    ·rw [if_neg e] at h1
     exact .inr h1
theorem tmpsOut_get {tm : T Value} {n k : Nat} {v : Value} (h : (tmpsOut tm n)[k]? = some v) (hh : isHole v = false) : tm.get k = some v ∧ k < n := by
 unfold tmpsOut at h
 simp only [List.getElem?_map, Option.map_eq_some_iff] at h
 obtain ⟨j, hj, e⟩ := h
 have hk : k < n := by
  by_cases hk : k < n
  ·exact hk
  ·rw [List.getElem?_eq_none (by simpa using hk)] at hj; cases hj
 rw [List.getElem?_range hk] at hj
 cases hj
 cases hg : tm.get k with
 | none =>
  rw [hg] at e
  subst e
  cases hh
 | some u =>
  rw [hg] at e
  exact ⟨by rw [← e], hk⟩
end
end Go.Gd
namespace Go.Gd
open Go Go.Gw Go.Conc
@[reducible] noncomputable def PF.goD (pf : PF) (k : List PItem) (d : Deferred) : PF := PF.casesOn pf fun fn tm nt _ ds m kd r => ⟨fn, tm, nt, k, d :: ds, m, kd, r⟩
section
variable {P : Program} {ty : TypeId} {tys : Tys} {Post : Value → World → Prop} {main : Bool} {n : Nat} {E : Env} {ρ : Ren} {s s' : DS} {c : Ctx} {g : Goroutine} {w : World}
theorem HR.newObj {o₀ : Obj} {H H' : PH} (hH : HR ρ H c w) (hp : pnewObj H o₀ = some H') {o' : Obj} (hor : OR (ρ.put H.next ⟨w.heap.size, 0, 0⟩) o₀ o') :
  HR (ρ.put H.next ⟨w.heap.size, 0, 0⟩) H' (Ctx.own c w.heap.size) (World.grow w o') ∧ H'.next = H.next + 1 ∧ H'.ng = H.ng := by
 unfold pnewObj at hp
 cases e1 : Nat.ble (H.next + 1) (2 ^ T.deep) with
 | false => rw [e1] at hp; cases hp
 | true =>
  rw [e1] at hp
  simp only [cond_true, Option.some.injEq] at hp
  subst hp
  exact ⟨hH.new (Nat.le_of_ble_eq_true e1) rfl rfl (.obj (heap_grow_new _ _) hor (.inr rfl)), rfl, rfl⟩
theorem apply_enter {fr : Frame} {cs : List Frame} {sm : Sem Next} {w w' : World} {f : FuncId} {args : Array Value} {es : Array Event} {it : Item} {m : List Item} (hk : fr.kind ≠ .early) (ht : fr.todo = it :: m) (hit : ∀ a b c d, it ≠ .call a b c d) (hrun : sm.runT P w #[] = (.ok (.enter f args) w', es)) :
  stepG.apply P true fr cs none sm w = .go (G (Frame.enter P f args .normal) (fr :: cs)) w' (seen P fr.fn es) := by
 unfold stepG.apply
 have hke : (fr.kind == CallKind.early) = false := by simpa using hk
 simp only [if_true, hrun, hke, ht]
 cases it with
 | call a b c d => exact absurd rfl (hit a b c d)
 | _ => rfl
theorem apply_skip {fr : Frame} {cs : List Frame} {sm : Sem Next} {w w' : World} {es : Array Event} (hk : fr.kind ≠ .early) (hrun : sm.runT P w #[] = (.ok .skip w', es)) :
  stepG.apply P true fr cs none sm w = .go (G (fr.finish undef) cs) w' (seen P fr.fn es) := by
 unfold stepG.apply
 have hke : (fr.kind == CallKind.early) = false := by simpa using hk
 simp only [if_true, hrun, hke]
 rfl
theorem apply_round {fr : Frame} {cs : List Frame} {sm : Sem Next} {w w' : World} {es : Array Event} {l : Nat} {f : FuncId} {tm : Array Value} {a b : Code} (hk : fr.kind ≠ .early) (hrun : sm.runT P w #[] = (.ok (.round l f tm a b) w', es)) :
  stepG.apply P true fr cs none sm w = .go (G (Frame.round l f tm a b .normal) (fr :: cs)) w' (seen P fr.fn es) := by
 unfold stepG.apply
 have hke : (fr.kind == CallKind.early) = false := by simpa using hk
 simp only [if_true, hrun, hke]
 rfl
theorem eval_rel {pf : PF} {fr : Frame} (hvt : ∀ k v, pf.tmps.get k = some v → ∃ v', fr.tmps[k]? = some v' ∧ VR ρ v v') {H : PH} (hH : HR ρ H c w) {f : Operand} {v : Value} (h : peval H.ng pf f = some v) : VR ρ v (fr.eval f) :=
 EvR.of hvt hH { dst := none, op := .move f, type := 0, pos := "", after := #[], guard := none } f (by simp [Op.operands]) v h
def prangeIn (C : Cfg) (pf : PF) (cs : List PF) (H : PH) (d : Nat) (f : Operand) (ps : Array Tmp) (a b : Code) (k : List PItem) : Option DS :=
 match pf.round with
 | some _ => none
 | none => match peval H.ng pf f with
  | some (.func (.func g) xs ys) => match C.fns.get g with
   | some fn => match fn.body with
    | some body => cond (penterable fn && Nat.ble (xs.toList ++ [Value.func (.yield (H.next + 1)) #[] #[]] ++ ys.toList).length (2 ^ T.deep)) (match pnewObj H (.deferred (some [])) with
     | some H1 => match pnewObj H1 (.loop { state := .ready, pending := none, fn := pf.fn, tmps := (tmpsOut pf.tmps pf.nt).toArray, params := ps, assign := a, body := b, defers := H.next }) with
      | some H2 => some ⟨penter g fn body (xs.toList ++ [Value.func (.yield (H.next + 1)) #[] #[]] ++ ys.toList) .normal, pf.goD (.rf (H.next + 1) :: k) ⟨.collected H.next, #[]⟩ :: cs, H2, d⟩
      | none => none
     | none => none) none
    | none => none
   | none => none
  | _ => none
theorem prangeIn_sound {C : Cfg} (hC : CfgOk C) (hb : main = true ∨ E.send ≠ none) {pf : PF} {cs : List PF} {H : PH} {d : Nat} {f : Operand} {ps : Array Tmp} {a b : Code} {k : List PItem} (hm : pf.mode = .run) (hk : notEarly pf.kind = true) (ht : pf.todo = .code (.rangeFunc f ps a b) :: k) {s' : DS}
  (hp : prangeIn C pf cs H d f ps a b k = some s') : Reach C.P ty Post main E ⟨pf, cs, H, d⟩ s' := by
 unfold prangeIn at hp
 split at hp
 ·cases hp
 ·rename_i hrd
  split at hp
  ·rename_i g xs ys e1
   split at hp
   ·rename_i fn e2
    split at hp
    ·rename_i body e3
     cases e4 : penterable fn && Nat.ble (xs.toList ++ [Value.func (.yield (H.next + 1)) #[] #[]] ++ ys.toList).length (2 ^ T.deep) with
     | false => rw [e4] at hp; cases hp
     | true =>
      rw [e4] at hp
      simp only [cond_true] at hp
      obtain ⟨q1, q2⟩ := Bool.and_eq_true_iff.1 e4
      have q2 := Nat.le_of_ble_eq_true q2
      split at hp
      ·rename_i H1 e5
       split at hp
       ·rename_i H2 e6
        simp only [Option.some.injEq] at hp
        subst hp
        have hn1 : H1.next = H.next + 1 := by
         unfold pnewObj at e5
         cases e : Nat.ble (H.next + 1) (2 ^ T.deep) with
         | false => rw [e] at e5; cases e5
         | true => rw [e] at e5; cases e5; rfl
        have hn2 : H2.next = H1.next + 1 := by
         unfold pnewObj at e6
         cases e : Nat.ble (H1.next + 1) (2 ^ T.deep) with
         | false => rw [e] at e6; cases e6
         | true => rw [e] at e6; cases e6; rfl
        refine Reach.heap (s := ⟨pf, cs, H, d⟩) hb (by show H.next ≤ H2.next; omega) rfl fun E ρ c fr crs pd pds w hf hc hH hok => ?_
        obtain ⟨hpd, htd, hvt⟩ := hf.plain' (by rw [ht]; rfl)
        have htd : LR (ItR ρ) pf.todo fr.todo := htd
        rw [ht] at htd
        obtain ⟨b', m, e, hi, hkm⟩ := htd.cons_inv
        cases hi
        have hround : fr.roundOf = none := by
         have : RdR ρ pf.round fr.roundOf := hf.round
         rw [hrd] at this
         generalize fr.roundOf = z at this
         cases this; rfl
        let B1 : RB := ⟨w.heap.size, 0, 0⟩
        let ρ1 := ρ.put H.next B1
        let w1 := World.grow w (.deferred (some []))
        obtain ⟨hH1, -, g1⟩ := hH.newObj e5 (o' := .deferred (some [])) .deferred0
        have hok1 := hok.grow (.deferred (some []))
        have hle1 : ρ.le ρ1 := Ren.put_le hH.free
        let L' : Loop := { state := .ready, pending := none, fn := fr.fn, tmps := fr.tmps, params := ps, assign := a, body := b, defers := w.heap.size }
        let B2 : RB := ⟨w1.heap.size, 0, 0⟩
        let ρ2 := ρ1.put H1.next B2
        have hle2 : ρ1.le ρ2 := Ren.put_le hH1.free
        have hB1 : ρ2 H.next = some B1 := hle2 _ _ (put_self _ _ _)
        have hB2 : ρ2 (H.next + 1) = some B2 := by rw [← hn1]; exact put_self _ _ _
        have hle : ρ.le ρ2 := fun x X h => hle2 _ _ (hle1 _ _ h)
        have hfsz : fr.tmps.size = pf.nt := hf.size
        have hor : OR ρ2 (.loop { state := .ready, pending := none, fn := pf.fn, tmps := (tmpsOut pf.tmps pf.nt).toArray, params := ps, assign := a, body := b, defers := H.next }) (.loop L') :=
         .loop rfl rfl hf.fn ⟨by show fr.tmps.size = _; rw [hfsz]; simp [tmpsOut], fun j v hj hh => by
          obtain ⟨z1, z2⟩ := tmpsOut_get (by simpa using hj) hh
          obtain ⟨v', p1, p2⟩ := hvt j v z1
          exact ⟨v', p1, p2.mono hle⟩⟩ rfl rfl rfl ⟨B1, hB1, rfl⟩
        obtain ⟨hH2, -, g2⟩ := hH1.newObj e6 hor
        have hok2 := hok1.grow (.loop L')
        have hev := eval_rel hvt hH e1
        generalize hfe : fr.eval f = u at hev
        cases hev with
        | func hfn hxs hys =>
         rename_i fn' xs' ys'
         cases hfn
         let w2 := World.grow w1 (.loop L')
         refine ⟨ρ2, _, _, w2, Frame.enter C.P g (xs' ++ #[Value.func (.yield w1.heap.size) #[] #[]] ++ ys') .normal, { fr with todo := .inRangeFunc w1.heap.size :: m, defers := ⟨.collected w.heap.size, #[]⟩ :: fr.defers } :: crs, [], pd ++ pds, #[], hle, ?_, ?_, by simp, hH2, hok2, Guar.trans (Guar.grow hok _) (Guar.grow hok1 _), Foot.nil _ _ _, fun e he => by simp at he, ?_, ?_⟩
         ·refine FrR.enter (hC.fns _ _ e2) e3 ?_ q2 .normal
          have := ((hxs.mono hle).append (.cons (.func (.yield hB2) .nil .nil) .nil : VRL ρ2 [Value.func (.yield (H.next + 1)) #[] #[]] [Value.func (.yield w1.heap.size) #[] #[]])).append (hys.mono hle)
          simpa using this
         ·have hfm := hf.mono hle
          refine .cons ?_ (hc.mono hle)
          subst hpd
          exact ⟨hfm.fn, hfm.size, ⟨_, .plain (.cons (.rf hB2) (hkm.mono fun _ _ => ItR.mono hle)), fun j v hj _ => by
           obtain ⟨v', p1, p2⟩ := hvt j v hj
           exact ⟨v', p1, p2.mono hle⟩⟩, .cons (.mk (.collected hB1) .nil) hfm.defers, hfm.mode, hfm.kind, hfm.round⟩
         ·exact Fra.trans (hn' := H1.next) (Fra.grow hok _ rfl (Nat.le_refl _)) (Fra.grow hok1 _ rfl (Nat.le_refl _)) hok (by simp [World.grow]) (by show H.next ≤ H1.next; omega)
         ·have hr := FrR.run hf hm
          have hrun : (Instr.enterLoop fr.fn fr.tmps ps a b none).runT C.P w #[] = (.ok (w1.heap.size, [⟨.collected w.heap.size, #[]⟩]) w2, #[]) := rfl
          have hke : (fr.kind == CallKind.early) = false := by
           have : fr.kind ≠ .early := by
            rw [hf.kind]
            intro e
            have hk : notEarly pf.kind = true := hk
            rw [e] at hk; cases hk
           simpa using this
          have hse : seen C.P fr.fn #[] = #[] := by rw [seen_def]; rfl
          have hcf := run_callFunc (P := C.P) (w := w2) (hC.fns _ _ e2) q1 (xs' ++ #[Value.func (.yield w1.heap.size) #[] #[]] ++ ys') #[]
          rw [show stepG C.P main (G fr (crs ++ E.base)) w = stepG.exec C.P main true fr (crs ++ E.base) none w by simp [stepG, G, hr]]
          unfold stepG.exec
          simp only [e, hround, hrun, hse]
          let frX : Frame := { fr with todo := .inRangeFunc w1.heap.size :: m, defers := ⟨.collected w.heap.size, #[]⟩ :: fr.defers, roundOf := none }
          have hfe' : frX.eval f = .func (.func g) xs' ys' := by
           rw [← hfe]; cases f <;> rfl
          have hinv : (do let dd ← resolve frX.eval { callee := .value f, args := #[.const (.func (.yield w1.heap.size) #[] #[])], argTypes := #[] } 0; invoke dd.target dd.args : Sem Next) = callFunc g (xs' ++ #[Value.func (.yield w1.heap.size) #[] #[]] ++ ys') := by
           have hr0 : resolve frX.eval { callee := .value f, args := #[.const (.func (.yield w1.heap.size) #[] #[])], argTypes := #[] } 0 = pure { target := .fn (.func g) ys', args := xs' ++ #[Value.func (.yield w1.heap.size) #[] #[]] } := by
            unfold resolve
            simp only [hfe', Deferred.ofValue]
            simp [Frame.eval]
           rw [hr0]
           rfl
          have hX := apply_enter (P := C.P) (fr := frX) (cs := crs ++ E.base) (it := .inRangeFunc w1.heap.size) (m := m) (w := w2) (w' := w2) (f := g) (args := xs' ++ #[Value.func (.yield w1.heap.size) #[] #[]] ++ ys') (es := #[]) (by simpa [frX] using hke) rfl (fun _ _ _ _ e => by cases e) ((congrArg (fun z => Sem.runT C.P z w2 #[]) hinv).trans hcf)
          refine (congrArg (GStep.after #[]) hX).trans ?_
          have hse' : seen C.P frX.fn #[] = #[] := hse
          rw [hse']
          rfl
       ·cases hp
      ·cases hp
    ·cases hp
   ·cases hp
  ·cases hp
end
end Go.Gd
namespace Go.Gd
open Go Go.Gw Go.Conc
@[reducible] noncomputable def loopSt (L : Loop) (s : LoopState) : Loop := Loop.casesOn L fun _ p fn tm ps a b d => ⟨s, p, fn, tm, ps, a, b, d⟩
@[reducible] noncomputable def loopEnd (L : Loop) (s : LoopState) (p : Option Code) : Loop := Loop.casesOn L fun _ _ fn tm ps a b d => ⟨s, p, fn, tm, ps, a, b, d⟩
section
variable {P : Program} {ty : TypeId} {tys : Tys} {Post : Value → World → Prop} {main : Bool} {n : Nat} {E : Env} {ρ : Ren} {s s' : DS} {c : Ctx} {g : Goroutine} {w : World}
theorem Reach.setO (hb : main = true ∨ E.send ≠ none) {l : Nat} {o o₁ : Obj} (ho : s.H.t.get l = some (.obj o)) {fr' : PF} {cs' : List PF}
  (hst : ∀ (E : Env) ρ c fr crs pd pds w, FrR ρ s.fr fr pd → FsR ρ s.cs crs pds → HR ρ s.H c w → COk c w → ∃ B, ρ l = some B ∧ ∀ o', w.heap[B.blk]? = some o' → OR ρ o o' → ∃ o₁' fr₁ cs₁ pd₁ pds₁ es, OR ρ o₁ o₁' ∧ FrR ρ fr' fr₁ pd₁ ∧ FsR ρ cs' cs₁ pds₁ ∧ (pd₁ ++ pds₁).Sublist (pd ++ pds) ∧
   (∀ e ∈ es, e = ObjEv B.blk false false ∨ e = ObjEv B.blk true false) ∧ stepG P main (G fr (crs ++ E.base)) w = .go (G fr₁ (cs₁ ++ E.base)) (World.setO w B.blk o₁') (seen P fr.fn es)) :
  Reach P ty Post main E s ⟨fr', cs', s.H.upT (s.H.t.set l (.obj o₁)), s.d⟩ := by
 refine Reach.heap hb (Nat.le_refl _) rfl fun E ρ c fr crs pd pds w hf hc hH hok => ?_
 obtain ⟨B, hB, h⟩ := hst E ρ c fr crs pd pds w hf hc hH hok
 obtain ⟨o', hw, hoo, hM⟩ := hH.obj hB ho
 obtain ⟨o₁', fr₁, cs₁, pd₁, pds₁, es, a1, a2, a3, a4, a5, a6⟩ := h o' hw hoo
 have honly := setO_only hw hoo.noCells a1.noCells
 refine ⟨ρ, c.M, c.R, _, fr₁, cs₁, pd₁, pds₁, es, .refl ρ, a2, a3, a4, hH.setObj hB ho a1, ⟨fun x hx => by rw [honly.size]; exact hok.ml x hx, fun x hx => by rw [honly.size]; exact hok.rl x hx, hok.rm⟩, honly.guar hok hM, fun e he x hx => ?_, fun e he => ?_, honly.fra hB, a6⟩
 ·rcases a5 e he with rfl | rfl
  ·exact obj_foot hM false false (by simp) _ _ (by simp) x hx
  ·exact obj_foot hM true false (by simp) _ _ (by simp) x hx
 ·rcases a5 e he with rfl | rfl <;> exact ⟨(fun e => by cases e), (fun e => by cases e)⟩
def setAll (ps : List Tmp) : List Value → T Value → T Value :=
 List.rec (motive := fun _ => List Value → T Value → T Value) (fun _ t => t) (fun p _ ih vs t => match vs with | [] => t | v :: vs => ih vs (t.set p v)) ps
theorem setAll_rel : ∀ {ps : List Tmp} {vs vs' : List Value} {t : T Value} {a : Array Value} {n : Nat}, VRL ρ vs vs' → (∀ p ∈ ps, p < n) → n ≤ 2 ^ T.deep → a.size = n → (∀ k v, t.get k = some v → ∃ v', a[k]? = some v' ∧ VR ρ v v') →
  ((ps.zip vs').foldl (fun tmps (x : Tmp × Value) => tmps.setIfInBounds x.1 x.2) a).size = n ∧ ∀ k v, (setAll ps vs t).get k = some v → ∃ v', ((ps.zip vs').foldl (fun tmps (x : Tmp × Value) => tmps.setIfInBounds x.1 x.2) a)[k]? = some v' ∧ VR ρ v v'
 | [], _, _, _, _, _, _, _, _, hs, h => ⟨hs, h⟩
 | p :: ps, [], _, _, _, _, .nil, _, _, hs, h => ⟨hs, h⟩
 | p :: ps, v :: vs, v' :: vs', t, a, n, .cons hv hl, hp, hn, hs, h => by
  have hpn : @LT.lt Nat _ p n := hp p (by simp)
  have hpd : @LT.lt Nat _ p (2 ^ T.deep) := Nat.lt_of_lt_of_le hpn hn
  have hpa : @LT.lt Nat _ p a.size := by rw [hs]; exact hpn
  simp only [List.zip_cons_cons, List.foldl_cons]
  refine setAll_rel (t := t.set p v) hl (fun q hq => hp q (by simp [hq])) hn (by simpa using hs) fun k u hk => ?_
  rw [T.get_set _ _ _ _ hpd] at hk
  by_cases e : k = p
  ·subst e
   rw [if_pos rfl] at hk
   cases hk
   exact ⟨v', by rw [Array.getElem?_setIfInBounds_self_of_lt hpa], hv⟩
  ·rw [if_neg e] at hk
   obtain ⟨u', h1, h2⟩ := h k u hk
   exact ⟨u', by rw [Array.getElem?_setIfInBounds_ne (fun z => e z.symm)]; exact h1, h2⟩
def pyield (pf : PF) (H : PH) (c : Call) : Option PF :=
 match c.callee with
 | .value f => match peval H.ng pf f with
  | some (.func (.yield l) xs _ys) => match xs.toList with
   | [] => match pevals H.ng pf c.args.toList with
    | some vs => match H.t.get l with
     | some (.obj (.loop L)) => cond (Nat.beq vs.length L.params.toList.length && (L.params.toList.all (fun p => Nat.blt p L.tmps.toList.length) && Nat.ble L.tmps.toList.length (2 ^ T.deep)))
      (some ⟨L.fn, setAll L.params.toList vs (tmpsIn L.tmps.toList 0 .nil), L.tmps.toList.length, [.code L.assign, .br, .code L.body], [], .run, .normal, some l⟩) none
     | _ => none
    | none => none
   | _ => none
  | _ => none
 | _ => none
theorem pyield_sound (hb : main = true ∨ E.send ≠ none) (hm : s.fr.mode = .run) {all : Array Oper} {i : Nat} {o : Oper} {l : List Oper} {k : List PItem} (ht : s.fr.todo = .ops all i (o :: l) :: k) (hk : s.fr.kind ≠ .early)
  (hw : pwanted s.fr all o = some true) {cl : Call} (ho : o.op = .call cl) {pf : PF} (hp : pyield s.fr s.H cl = some pf) : Reach P ty Post main E s ⟨pf, s.fr :: s.cs, s.H, s.d⟩ := by
 obtain ⟨callee, as, ats⟩ := cl
 unfold pyield at hp
 simp only at hp
 split at hp
 ·rename_i f
  split at hp
  ·rename_i lp xs ys e1
   split at hp
   ·rename_i e2
    split at hp
    ·rename_i vs e3
     split at hp
     ·rename_i L e4
      cases e5 : Nat.beq vs.length L.params.toList.length && (L.params.toList.all (fun p => Nat.blt p L.tmps.toList.length) && Nat.ble L.tmps.toList.length (2 ^ T.deep)) with
      | false => rw [e5] at hp; cases hp
      | true =>
       rw [e5] at hp
       simp only [cond_true, Option.some.injEq] at hp
       subst hp
       simp only [Bool.and_eq_true] at e5
       obtain ⟨q1, q2, q3⟩ := e5
       have q1 := Nat.eq_of_beq_eq_true q1
       have q3 := Nat.le_of_ble_eq_true q3
       have q2 : ∀ p ∈ L.params.toList, p < L.tmps.toList.length := fun p hp => Nat.le_of_ble_eq_true (List.all_eq_true.1 q2 p hp)
       refine Reach.heap (s' := ⟨_, _, _, _⟩) hb (Nat.le_refl _) rfl fun E ρ c fr crs pd pds w hf hc hH hok => ?_
       obtain ⟨hpd, hoa, hvt, rest, m, e, hkm, hit⟩ := hf.ops ht
       have hev := EvR.of hvt hH o
       have h1 := hev f (by simp [ho, Op.operands, Call.operands]) _ e1
       have h2 := pevals_VR hev (fun z hz => by rw [ho]; simp [Op.operands, Call.operands] at hz ⊢; exact .inr hz) e3
       generalize hfe : fr.eval f = u at h1
       cases h1 with
       | func hfn hxs hys =>
        rename_i fn' xs' ys'
        cases hfn with
        | yield hB =>
         rename_i B
         obtain ⟨o', hw', hor, hM⟩ := hH.obj hB e4
         cases hor with
         | loop a1 a2 a3 a4 a5 a6 a7 a8 =>
          rename_i L'
          have hxs' : xs' = #[] := by
           rw [e2] at hxs
           have := hxs.length
           simp only [List.length_nil, Array.length_toList] at this
           exact Array.eq_empty_of_size_eq_zero this.symm
          subst hxs'
          have hlen := h2.length
          have hsz : (as.map fr.eval).size = L'.params.size := by
           rw [a5]
           simp only [Array.size_map]
           have : as.size = (as.toList.map fr.eval).length := by simp
           rw [this, ← hlen, q1]
           simp
          obtain ⟨z1, z2⟩ := setAll_rel (ρ := ρ) (ps := L.params.toList) (t := tmpsIn L.tmps.toList 0 .nil) (a := L'.tmps) (n := L.tmps.toList.length) h2 q2 q3 (by rw [a4.1]; simp) fun j v hj => by
           rcases tmpsIn_get _ _ _ _ _ (by omega) hj with ⟨-, x1, x2⟩ | x1
           ·exact a4.2 j v (by simpa using x1) x2
           ·cases x1
          have hterm : execOp fr.eval o = Instr.yield B.blk (as.map fr.eval) := by
           unfold execOp
           rw [ho]
           simp only [resolve, hfe]
           show Instr.yield B.blk (#[] ++ as.map fr.eval) = _
           rw [Array.empty_append]
          have hrun : (execOp fr.eval o).runT P w #[] = (.ok (.round B.blk L'.fn ((L.params.toList.zip (as.toList.map fr.eval)).foldl (fun tmps (x : Tmp × Value) => tmps.setIfInBounds x.1 x.2) L'.tmps) L'.assign L'.body) w, #[ObjEv B.blk false false]) := by
           rw [hterm]
           unfold Instr.yield Instr.getLoop
           refine (runT_ok (s := _) (a := L') (w' := w) (es' := #[ObjEv B.blk false false]) ((runT_ok (runT_getObj hw' rfl #[])).trans rfl)).trans ?_
           rw [if_neg (by rw [hsz]; simp)]
           simp only [pure, Sem.runT]
           rw [← Array.foldl_toList, Array.toList_zip, a5]
           simp
          refine ⟨ρ, c.M, c.R, w, Frame.round B.blk L'.fn ((L.params.toList.zip (as.toList.map fr.eval)).foldl (fun tmps (x : Tmp × Value) => tmps.setIfInBounds x.1 x.2) L'.tmps) L'.assign L'.body .normal, fr :: crs, [], pd ++ pds, #[ObjEv B.blk false false], .refl ρ, ?_, .cons hf hc, by simp, hH, hok, Guar.refl hok, obj_foot hM false false (by simp) w, obj_neut _ _ _, Fra.refl _ _ _ _, ?_⟩
          ·refine ⟨a3, z1, ⟨_, .plain (.cons ?_ (.cons .br (.cons ?_ .nil))), fun j v hj _ => z2 j v hj⟩, .nil, .run, rfl, .some hB⟩
           ·rw [a6]; exact .code _
           ·rw [a7]; exact .code _
          ·rw [stepG_apply (FrR.run hf hm) e hoa (wanted_of (fun _ _ t v _ _ hv => hvt t v hv) hw) (fun c hc => by rw [ho] at hc; cases hc)]
           exact apply_round (by rw [hf.kind]; exact hk) hrun
     ·cases hp
    ·cases hp
   ·cases hp
  ·cases hp
 ·cases hp
end
end Go.Gd
namespace Go.Gd
open Go Go.Gw Go.Conc
section
variable {P : Program} {ty : TypeId} {tys : Tys} {Post : Value → World → Prop} {main : Bool} {n : Nat} {E : Env} {ρ : Ren} {s s' : DS} {c : Ctx} {g : Goroutine} {w : World}
theorem run_getLoop {b : Nat} {L : Loop} (h : w.heap[b]? = some (.loop L)) (es : Array Event) : (Instr.getLoop b).runT P w es = (.ok L w, es.push (ObjEv b false false)) := by
 unfold Instr.getLoop
 exact (runT_ok (runT_getObj h rfl es)).trans rfl
theorem OR.loop_inv {L : Loop} {o' : Obj} (h : OR ρ (.loop L) o') : ∃ L', o' = .loop L' ∧ L'.state = L.state ∧ L'.pending = L.pending ∧ ∀ st p, OR ρ (.loop (loopEnd L st p)) (.loop { L' with state := st, pending := p }) := by
 cases h with
 | loop a1 a2 a3 a4 a5 a6 a7 a8 => exact ⟨_, rfl, a1, a2, fun st p => .loop rfl rfl a3 a4 a5 a6 a7 a8⟩
def pbegin (pf : PF) (cs : List PF) (H : PH) (d : Nat) (k : List PItem) : Option DS :=
 match pf.round with
 | none => none
 | some l => match H.t.get l with
  | some (.obj (.loop L)) => match L.state with
   | .ready => some ⟨pf.go k, cs, H.upT (H.t.set l (.obj (.loop (loopEnd L .busy L.pending)))), d⟩
   | _ => none
  | _ => none
theorem pbegin_sound (hb : main = true ∨ E.send ≠ none) {pf : PF} {cs : List PF} {H : PH} {d : Nat} {k : List PItem} (hm : pf.mode = .run) (hk : notEarly pf.kind = true) (ht : pf.todo = .br :: k) {s' : DS} (hp : pbegin pf cs H d k = some s') : Reach P ty Post main E ⟨pf, cs, H, d⟩ s' := by
 unfold pbegin at hp
 split at hp
 ·cases hp
 ·rename_i l hrd
  split at hp
  ·rename_i L e1
   split at hp
   ·rename_i e2
    simp only [Option.some.injEq] at hp
    subst hp
    refine Reach.setO (s := ⟨pf, cs, H, d⟩) hb e1 fun E ρ c fr crs pd pds w hf hc hH hok => ?_
    have hrr : RdR ρ pf.round fr.roundOf := hf.round
    rw [hrd] at hrr
    generalize hro : fr.roundOf = ro at hrr
    cases hrr with
    | some hB =>
     rename_i B
     refine ⟨B, hB, fun o' hw' hor => ?_⟩
     obtain ⟨L', rfl, b1, b2, b3⟩ := hor.loop_inv
     obtain ⟨hpd, htd, hvt⟩ := hf.plain' (by rw [ht]; rfl)
     have htd : LR (ItR ρ) pf.todo fr.todo := htd
     rw [ht] at htd
     obtain ⟨b', m, e, hi, hkm⟩ := htd.cons_inv
     cases hi
     subst hpd
     refine ⟨_, { fr with todo := m }, crs, [], pds, #[ObjEv B.blk false false, ObjEv B.blk true false], b3 .busy L.pending, hf.with hvt hkm, hc, by simp, by simp, ?_⟩
     have hr := FrR.run hf hm
     have hke : fr.kind ≠ .early := by
      rw [hf.kind]
      intro e
      have hk : notEarly pf.kind = true := hk
      rw [e] at hk; cases hk
     have hrun : (Instr.beginRound B.blk).runT P w #[] = (.ok () (World.setO w B.blk (.loop { L' with state := .busy })), #[ObjEv B.blk false false, ObjEv B.blk true false]) := by
      unfold Instr.beginRound
      refine (runT_ok (run_getLoop hw' #[])).trans ?_
      refine (runT_ok (runT_setObj hw' rfl _)).trans ?_
      rw [b1, e2]
      rfl
     have hrun' : (do Instr.beginRound B.blk; pure .skip : Sem Next).runT P w #[] = (.ok .skip (World.setO w B.blk (.loop { L' with state := .busy })), #[ObjEv B.blk false false, ObjEv B.blk true false]) := (runT_ok hrun).trans rfl
     have hst : stepG P main (G fr (crs ++ E.base)) w = stepG.apply P true fr (crs ++ E.base) none (do Instr.beginRound B.blk; pure .skip) w := by
      rw [show stepG P main (G fr (crs ++ E.base)) w = stepG.exec P main true fr (crs ++ E.base) none w by simp [stepG, G, hr]]
      unfold stepG.exec
      simp only [e, hro]
      rfl
     rw [hst, apply_skip hke hrun']
     have hfin : fr.finish undef = { fr with todo := m } := by simp only [Frame.finish, e]
     rw [hfin, ← b2]
   ·cases hp
  ·cases hp
theorem LR.exit_none {id : Nat} : ∀ {k : List PItem} {m : List Item}, LR (ItR ρ) k m → pexit id k = none → exitTo id m = none
 | _, _, .nil, _ => rfl
 | a :: k, b :: m, .cons hab ht, h => by
  cases hab with
  | inBlock id' =>
   simp only [pexit, exitTo] at h ⊢
   split at h
   ·cases h
   ·rename_i e
    rw [if_neg e]
    exact LR.exit_none ht h
  | _ =>
   have h' : pexit id k = none := h
   exact (LR.exit_none ht h' : exitTo id m = none)
def pjump : List PItem → Option (Option Code)
 | [] => some none
 | .code .ret :: _ => some (some .ret)
 | .code (.exit id) :: k => match pexit id k with
  | none => some (some (.exit id))
  | some _ => none
 | _ => none
def jumpBool : Option Code → Bool
 | none => true
 | some _ => false
def pleave (pf : PF) (cs : List PF) (H : PH) (d : Nat) : Option DS :=
 match pf.round with
 | none => none
 | some l => match pf.kind with
  | .normal => match pjump pf.todo with
   | none => none
   | some j => match H.t.get l with
    | some (.obj (.loop L)) => match cs with
     | [] => none
     | pc :: cs' => match pc.todo with
      | .ops all i (o :: rest) :: k => match pput pc o.dst (.bool (jumpBool j)) with
       | some tm => some ⟨pc.up tm (.ops all (i + 1) rest :: k), cs', H.upT (H.t.set l (.obj (.loop (loopEnd L (cond (jumpBool j) .ready .done) j)))), d⟩
       | none => none
      | _ => none
    | _ => none
  | _ => none
theorem pleave_sound (hb : main = true ∨ E.send ≠ none) {pf : PF} {cs : List PF} {H : PH} {d : Nat} (hm : pf.mode = .run) {s' : DS} (hp : pleave pf cs H d = some s') : Reach P ty Post main E ⟨pf, cs, H, d⟩ s' := by
 unfold pleave at hp
 split at hp
 ·cases hp
 ·rename_i l hrd
  split at hp
  ·rename_i hkd
   split at hp
   ·cases hp
   ·rename_i j ej
    split at hp
    ·rename_i L e1
     split at hp
     ·cases hp
     ·rename_i pc cs'
      split at hp
      ·rename_i all i o rest k et
       split at hp
       ·rename_i tm e3
        simp only [Option.some.injEq] at hp
        subst hp
        refine Reach.setO (s := ⟨pf, pc :: cs', H, d⟩) hb e1 fun E ρ c fr crs pd pds w hf hc hH hok => ?_
        have hrr : RdR ρ pf.round fr.roundOf := hf.round
        rw [hrd] at hrr
        generalize hro : fr.roundOf = ro at hrr
        cases hrr with
        | some hB =>
         rename_i B
         refine ⟨B, hB, fun o' hw' hor => ?_⟩
         obtain ⟨L', rfl, b1, b2, b3⟩ := hor.loop_inv
         have hptd : plainTodo pf.todo = true := by
          cases hpt : pf.todo with
          | nil => rfl
          | cons it k' =>
           rw [hpt] at ej
           cases it <;> first | rfl | cases ej
         obtain ⟨hpd, htd, hvt⟩ := hf.plain' hptd
         have htd : LR (ItR ρ) pf.todo fr.todo := htd
         cases hc with
         | cons hc1 hct =>
          rename_i cfr crest pd1 pds1
          have hfr := hc1.put et e3 (v' := .bool (jumpBool j)) (.bool _)
          have hpd1 := (hc1.ops et).1
          subst hpd hpd1
          refine ⟨_, cfr.finish (.bool (jumpBool j)), crest, [], pds1, #[ObjEv B.blk false false, ObjEv B.blk true false], b3 _ j, hfr, hct, by simp, by simp, ?_⟩
          have hr := FrR.run hf hm
          have hjb : j.isNone = jumpBool j := by cases j <;> rfl
          have hrun : (Instr.endRound B.blk j).runT P w #[] = (.ok (.bool (jumpBool j)) (World.setO w B.blk (.loop { L' with state := cond (jumpBool j) .ready .done, pending := j })), #[ObjEv B.blk false false, ObjEv B.blk true false]) := by
           unfold Instr.endRound
           refine (runT_ok (run_getLoop hw' #[])).trans ?_
           refine (runT_ok (runT_setObj hw' rfl _)).trans ?_
           rw [hjb]
           cases jumpBool j <;> rfl
          have hdo : doReturn P main fr ((cfr :: crest) ++ E.base) none (.bool (jumpBool j)) (World.setO w B.blk (.loop { L' with state := cond (jumpBool j) .ready .done, pending := j })) = .go (G (cfr.finish (.bool (jumpBool j))) (crest ++ E.base)) (World.setO w B.blk (.loop { L' with state := cond (jumpBool j) .ready .done, pending := j })) := by
           have hkn : fr.kind = .normal := by rw [hf.kind]; exact hkd
           simp [doReturn, hkn, G]
          have hst : stepG P main (G fr ((cfr :: crest) ++ E.base)) w = (doReturn P main fr ((cfr :: crest) ++ E.base) none (.bool (jumpBool j)) (World.setO w B.blk (.loop { L' with state := cond (jumpBool j) .ready .done, pending := j }))).after (seen P fr.fn #[ObjEv B.blk false false, ObjEv B.blk true false]) := by
           rw [show stepG P main (G fr ((cfr :: crest) ++ E.base)) w = stepG.exec P main true fr ((cfr :: crest) ++ E.base) none w by simp [stepG, G, hr]]
           unfold stepG.exec
           generalize hpt : pf.todo = td at ej htd
           cases td with
           | nil =>
            cases ej
            have e := htd.nil_inv
            simp only [e, hro, hrun]
           | cons it k' =>
            obtain ⟨b', m, e, hi, hkm⟩ := htd.cons_inv
            cases hi with
            | code cd =>
             cases cd with
             | ret =>
              cases ej
              simp only [e, hro, hrun]
             | exit id =>
              simp only [pjump] at ej
              split at ej
              ·rename_i ex
               cases ej
               have hx := LR.exit_none hkm ex
               simp only [e, hro, hx, Option.elim, hrun]
              ·cases ej
             | _ => cases ej
            | _ => cases ej
          rw [hst, hdo, after_go, Array.append_empty]
       ·cases hp
      ·cases hp
    ·cases hp
  ·cases hp
end
end Go.Gd
namespace Go.Gd
open Go Go.Gw Go.Conc
section
variable {P : Program} {ty : TypeId} {tys : Tys} {Post : Value → World → Prop} {main : Bool} {n : Nat} {E : Env} {ρ : Ren} {s s' : DS} {c : Ctx} {g : Goroutine} {w : World}
theorem Reach.retRange (hty : TysOk P tys) (hb : main = true ∨ E.send ≠ none) (hm : s.fr.mode = .returning) (hdf : s.fr.defers = []) (hpt : plainTodo s.fr.todo = true) (hk : s.fr.kind = .normal) {fn : Func} (hf : P.funcs[s.fr.fn]? = some fn) {vs : List Value} (hv : presults tys s.H s.fr.tmps fn.results.toList = some vs)
  {pf : PF} {cs' : List PF} (hcs : s.cs = pf :: cs') {l : Nat} {k : List PItem} (ht : pf.todo = .rf l :: k) :
  Reach P ty Post main E s { s with fr := { pf with todo := .erf l :: k }, cs := cs' } := by
 refine Reach.frames hb fun E ρ c fr cs pd pds w hfr hc hH hok => ?_
 rw [hcs] at hc
 cases hc with
 | cons hc1 hct =>
  rename_i cfr crest pd1 pds1
  obtain ⟨hpd, _, hvt⟩ := hfr.plain' hpt
  obtain ⟨v', ev, q1, q2, q3⟩ := run_resultsV (P := P) hty hH hvt hv
  have hmode : fr.mode = .returning := by
   have := hfr.mode
   rw [hm] at this
   generalize fr.mode = b at this
   cases this; rfl
  have hdef : fr.defers = [] := by
   have := hfr.defers
   rw [hdf] at this
   exact this.nil_inv
  obtain ⟨hpd1, htd1, hvt1⟩ := hc1.plain' (by rw [ht]; rfl)
  rw [ht] at htd1
  obtain ⟨b', m, e, hi, hkm⟩ := htd1.cons_inv
  cases hi with
  | rf hB =>
   rename_i B
   subst hpd hpd1
   have hst := stepG_ret (P := P) (main := main) (cs := (cfr :: crest) ++ E.base) hmode hdef (by rw [hfr.fn]; exact hf) q3
   have hfin : cfr.finish v' = { cfr with todo := .endRangeFunc B.blk :: m } := by simp only [Frame.finish, e]
   have hdo : doReturn P main fr ((cfr :: crest) ++ E.base) none v' w = .go (G { cfr with todo := .endRangeFunc B.blk :: m } (crest ++ E.base)) w := by
    have hkn : fr.kind = .normal := by rw [hfr.kind]; exact hk
    simp [doReturn, hkn, G, hfin]
   rw [hdo, after_go, Array.append_empty] at hst
   exact ⟨_, crest, [], pds1, ev, hc1.with hvt1 (.cons (.erf hB) hkm), hct, by simp, q2, hst⟩
def jumpItems : Option Code → List PItem
 | none => []
 | some c => [.code c]
def pendLoop (pf : PF) (cs : List PF) (H : PH) (d : Nat) (l : Nat) (k : List PItem) : Option DS :=
 match H.t.get l with
 | some (.obj (.loop L)) => match L.state with
  | .busy => none
  | _ => some ⟨pf.go (jumpItems L.pending ++ k), cs, H.upT (H.t.set l (.obj (.loop (loopEnd L .exhausted L.pending)))), d⟩
 | _ => none
theorem pendLoop_sound (hb : main = true ∨ E.send ≠ none) {pf : PF} {cs : List PF} {H : PH} {d : Nat} {l : Nat} {k : List PItem} (hm : pf.mode = .run) (ht : pf.todo = .erf l :: k) {s' : DS} (hp : pendLoop pf cs H d l k = some s') : Reach P ty Post main E ⟨pf, cs, H, d⟩ s' := by
 unfold pendLoop at hp
 split at hp
 ·rename_i L e1
  have hbusy : L.state ≠ .busy ∧ some (⟨pf.go (jumpItems L.pending ++ k), cs, H.upT (H.t.set l (.obj (.loop (loopEnd L .exhausted L.pending)))), d⟩ : DS) = some s' := by
   split at hp
   ·cases hp
   ·rename_i hne
    exact ⟨hne, hp⟩
  obtain ⟨hne, hp⟩ := hbusy
  simp only [Option.some.injEq] at hp
  subst hp
  refine Reach.setO (s := ⟨pf, cs, H, d⟩) hb e1 fun E ρ c fr crs pd pds w hf hc hH hok => ?_
  obtain ⟨hpd, htd, hvt⟩ := hf.plain' (by rw [ht]; rfl)
  have htd : LR (ItR ρ) pf.todo fr.todo := htd
  rw [ht] at htd
  obtain ⟨b', m, e, hi, hkm⟩ := htd.cons_inv
  cases hi with
  | erf hB =>
   rename_i B
   refine ⟨B, hB, fun o' hw' hor => ?_⟩
   obtain ⟨L', rfl, b1, b2, b3⟩ := hor.loop_inv
   subst hpd
   have hr := FrR.run hf hm
   have hbf : (L'.state == LoopState.busy) = false := by
    rw [b1]
    cases hs : L.state <;> first | rfl | exact absurd hs hne
   have hrun : (Instr.endLoop B.blk).runT P w #[] = (.ok L'.pending (World.setO w B.blk (.loop { L' with state := .exhausted })), #[ObjEv B.blk false false, ObjEv B.blk true false]) := by
    unfold Instr.endLoop
    refine (runT_ok (run_getLoop hw' #[])).trans ?_
    simp only [hbf]
    refine (runT_ok (runT_setObj hw' rfl _)).trans ?_
    rfl
   refine ⟨.loop { L' with state := .exhausted }, { fr with todo := (L'.pending.map Item.code).toList ++ m }, crs, [], pds, #[ObjEv B.blk false false, ObjEv B.blk true false], by rw [← b2]; exact b3 .exhausted _, hf.with hvt ?_, hc, by simp, by simp, ?_⟩
   ·rw [b2]
    cases L.pending with
    | none => exact hkm
    | some cd => exact .cons (.code cd) hkm
   ·rw [show stepG P main (G fr (crs ++ E.base)) w = stepG.exec P main true fr (crs ++ E.base) none w by simp [stepG, G, hr]]
    unfold stepG.exec
    simp only [e, hrun]
    rw [show ∀ (es : Array Event) (g : Goroutine) (w : World), (GStep.go g w).after es = .go g w (es ++ #[]) from fun _ _ _ => rfl, Array.append_empty]
    rfl
 ·cases hp
def pcollect (pf : PF) (cs : List PF) (H : PH) (d : Nat) (r : Nat) (ds : List Deferred) : Option DS :=
 match H.t.get r with
 | some (.obj (.deferred (some []))) => some ⟨pf.upDs ds, cs, H.upT (H.t.set r (.obj (.deferred none))), d⟩
 | _ => none
theorem pcollect_sound (hb : main = true ∨ E.send ≠ none) {pf : PF} {cs : List PF} {H : PH} {d : Nat} {r : Nat} {as : Array Value} {ds : List Deferred} (hm : pf.mode ≠ .run) (hd : pf.defers = ⟨.collected r, as⟩ :: ds) {s' : DS} (hp : pcollect pf cs H d r ds = some s') : Reach P ty Post main E ⟨pf, cs, H, d⟩ s' := by
 unfold pcollect at hp
 split at hp
 ·rename_i e1
  simp only [Option.some.injEq] at hp
  subst hp
  refine Reach.setO (s := ⟨pf, cs, H, d⟩) hb e1 fun E ρ c fr crs pd pds w hf hc hH hok => ?_
  have hdf := hf.defers
  have hdf : LR (DfR ρ) pf.defers fr.defers := hdf
  rw [hd] at hdf
  obtain ⟨d', ds', e2, hd1, hds⟩ := hdf.cons_inv
  cases hd1 with
  | mk htg hx =>
   cases htg with
   | collected hB =>
    rename_i B
    refine ⟨B, hB, fun o' hw' hor => ?_⟩
    cases hor
    refine ⟨.deferred none, { fr with defers := ds' }, crs, pd, pds, #[ObjEv B.blk false false, ObjEv B.blk true false], .deferredX, hf.setDefers hds, hc, List.Sublist.refl _, by simp, ?_⟩
    have hrun : (Instr.takeDeferred B.blk).runT P w #[] = (.ok [] (World.setO w B.blk (.deferred none)), #[ObjEv B.blk false false, ObjEv B.blk true false]) := by
     unfold Instr.takeDeferred
     refine (runT_ok (runT_getObj hw' rfl #[])).trans ?_
     refine (runT_ok (runT_setObj hw' rfl _)).trans ?_
     rfl
    rw [stepG_unwind (hf.mode.ne_run hm)]
    unfold unwind
    simp only [e2, hrun]
    rw [show ∀ (es : Array Event) (g : Goroutine) (w : World), (GStep.go g w).after es = .go g w (es ++ #[]) from fun _ _ _ => rfl, Array.append_empty]
    rfl
 ·cases hp
def dstep2 (C : Cfg) (s : DS) : Option DS :=
 match s with
 | ⟨fr, cs, H, d⟩ => match fr.mode with
  | .run => match fr.todo with
   | .ops all i (o :: l) :: k => cond (notEarly fr.kind) (match stepOps C fr cs H d all i o l k with
    | some s' => some s'
    | none => match pwanted fr all o with
     | some true => match o.op with
      | .call c => match pyield fr H c with
       | some pf => some ⟨pf, fr :: cs, H, d⟩
       | none => none
      | _ => none
     | _ => none) none
   | .code (.rangeFunc f ps a b) :: k => cond (notEarly fr.kind) (prangeIn C fr cs H d f ps a b k) none
   | .br :: k => cond (notEarly fr.kind) (pbegin fr cs H d k) none
   | .erf l :: k => pendLoop fr cs H d l k
   | _ => match dstep C ⟨fr, cs, H, d⟩ with
    | some s' => some s'
    | none => pleave fr cs H d
  | .returning => match fr.defers with
   | ⟨.collected r, _⟩ :: ds => pcollect fr cs H d r ds
   | [] => match cs with
    | [] => none
    | pc :: cs' => match pc.todo with
     | .rf l :: k => match fr.kind with
      | .normal => cond (plainTodo fr.todo) (match C.fns.get fr.fn with
       | some fn => match presults C.ty H fr.tmps fn.results.toList with
        | some _ => some ⟨pc.go (.erf l :: k), cs', H, d⟩
        | none => none
       | none => none) none
      | _ => none
     | _ => stepEnd C fr cs H d
   | _ => stepEnd C fr cs H d
  | .panicking _ => match fr.defers with
   | ⟨.collected r, _⟩ :: ds => pcollect fr cs H d r ds
   | _ => stepEnd C fr cs H d
theorem dstep2_sound {C : Cfg} (hC : CfgOk C) (hb : main = true ∨ E.send ≠ none) {s s' : DS} (hp : dstep2 C s = some s') : Reach C.P ty Post main E s s' := by
 obtain ⟨fr, cs, H, d⟩ := s
 unfold dstep2 at hp
 simp only at hp
 split at hp
 ·rename_i hm
  split at hp
  ·rename_i all i o l k ht
   cases hk : notEarly fr.kind with
   | false => rw [hk] at hp; cases hp
   | true =>
    rw [hk] at hp
    simp only [cond_true] at hp
    split at hp
    ·rename_i s'' e1
     cases hp
     exact stepOps_sound hC hb hm hk ht e1
    ·split at hp
     ·rename_i hw
      split at hp
      ·rename_i cl eo
       split at hp
       ·rename_i pf e2
        cases hp
        exact pyield_sound (s := ⟨fr, cs, H, d⟩) hb hm ht (fun e => by rw [e] at hk; cases hk) hw eo e2
       ·cases hp
      ·cases hp
     ·cases hp
  ·rename_i f ps a b k ht
   cases hk : notEarly fr.kind with
   | false => rw [hk] at hp; cases hp
   | true =>
    rw [hk] at hp
    exact prangeIn_sound hC hb hm hk ht hp
  ·rename_i k ht
   cases hk : notEarly fr.kind with
   | false => rw [hk] at hp; cases hp
   | true =>
    rw [hk] at hp
    exact pbegin_sound hb hm hk ht hp
  ·rename_i l k ht
   exact pendLoop_sound hb hm ht hp
  ·split at hp
   ·rename_i s'' e1
    cases hp
    exact dstep_sound hC hb e1
   ·exact pleave_sound hb hm hp
 ·rename_i hm
  have hmr : fr.mode ≠ .run := fun e => by rw [hm] at e; cases e
  split at hp
  ·rename_i r as ds ed
   exact pcollect_sound hb hmr ed hp
  ·rename_i ed
   split at hp
   ·cases hp
   ·rename_i pc cs'
    split at hp
    ·rename_i l k et
     split at hp
     ·rename_i ek
      cases ept : plainTodo fr.todo with
      | false => rw [ept] at hp; cases hp
      | true =>
       rw [ept] at hp
       simp only [cond_true] at hp
       split at hp
       ·rename_i fn e1
        split at hp
        ·rename_i vs e2
         cases hp
         exact Reach.retRange (s := ⟨fr, pc :: cs', H, d⟩) hC.ty hb hm ed ept ek (hC.fns _ _ e1) e2 rfl et
        ·cases hp
       ·cases hp
     ·cases hp
    ·exact stepEnd_sound hC hb hmr hp
  ·exact stepEnd_sound hC hb hmr hp
 ·rename_i l hm
  have hmr : fr.mode ≠ .run := fun e => by rw [hm] at e; cases e
  split at hp
  ·rename_i r as ds ed
   exact pcollect_sound hb hmr ed hp
  ·exact stepEnd_sound hC hb hmr hp
end
end Go.Gd
namespace Go.Gd
open Go Go.Gw Go.Conc
section
variable {P : Program} {ty : TypeId} {tys : Tys} {Post : Value → World → Prop} {main : Bool} {n : Nat} {E : Env} {ρ : Ren} {s s' : DS} {c : Ctx} {g : Goroutine} {w : World}
theorem pyield_rel {pf : PF} {H : PH} {fr : Frame} {o : Oper} {cl : Call} (ho : o.op = .call cl) {pf' : PF} (hp : pyield pf H cl = some pf') (hev : EvR H.ng ρ pf fr o) (hH : HR ρ H c w) :
  ∃ (b : Nat) (f : FuncId) (tms : Array Value) (a bd : Code), (execOp fr.eval o).runT P w #[] = (.ok (.round b f tms a bd) w, #[ObjEv b false false]) ∧ FrR ρ pf' (Frame.round b f tms a bd .normal) [] ∧ c.M b := by
 obtain ⟨callee, as, ats⟩ := cl
 unfold pyield at hp
 simp only at hp
 split at hp
 ·rename_i f
  split at hp
  ·rename_i lp xs ys e1
   split at hp
   ·rename_i e2
    split at hp
    ·rename_i vs e3
     split at hp
     ·rename_i L e4
      cases e5 : Nat.beq vs.length L.params.toList.length && (L.params.toList.all (fun p => Nat.blt p L.tmps.toList.length) && Nat.ble L.tmps.toList.length (2 ^ T.deep)) with
      | false => rw [e5] at hp; cases hp
      | true =>
       rw [e5] at hp
       simp only [cond_true, Option.some.injEq] at hp
       subst hp
       simp only [Bool.and_eq_true] at e5
       obtain ⟨q1, q2, q3⟩ := e5
       have q1 := Nat.eq_of_beq_eq_true q1
       have q3 := Nat.le_of_ble_eq_true q3
       have q2 : ∀ p ∈ L.params.toList, p < L.tmps.toList.length := fun p hp => Nat.le_of_ble_eq_true (List.all_eq_true.1 q2 p hp)
       have h1 := hev f (by simp [ho, Op.operands, Call.operands]) _ e1
       have h2 := pevals_VR hev (fun z hz => by rw [ho]; simp [Op.operands, Call.operands] at hz ⊢; exact .inr hz) e3
       generalize hfe : fr.eval f = u at h1
       cases h1 with
       | func hfn hxs hys =>
        rename_i fn' xs' ys'
        cases hfn with
        | yield hB =>
         rename_i B
         obtain ⟨o', hw', hor, hM⟩ := hH.obj hB e4
         cases hor with
         | loop a1 a2 a3 a4 a5 a6 a7 a8 =>
          rename_i L'
          have hxs' : xs' = #[] := by
           rw [e2] at hxs
           have := hxs.length
           simp only [List.length_nil, Array.length_toList] at this
           exact Array.eq_empty_of_size_eq_zero this.symm
          subst hxs'
          have hlen := h2.length
          have hsz : (as.map fr.eval).size = L'.params.size := by
           rw [a5]
           simp only [Array.size_map]
           have : as.size = (as.toList.map fr.eval).length := by simp
           rw [this, ← hlen, q1]
           simp
          obtain ⟨z1, z2⟩ := setAll_rel (ρ := ρ) (ps := L.params.toList) (t := tmpsIn L.tmps.toList 0 .nil) (a := L'.tmps) (n := L.tmps.toList.length) h2 q2 q3 (by rw [a4.1]; simp) fun j v hj => by
           rcases tmpsIn_get _ _ _ _ _ (by omega) hj with ⟨-, x1, x2⟩ | x1
           ·exact a4.2 j v (by simpa using x1) x2
           ·cases x1
          have hterm : execOp fr.eval o = Instr.yield B.blk (as.map fr.eval) := by
           unfold execOp
           rw [ho]
           simp only [resolve, hfe]
           show Instr.yield B.blk (#[] ++ as.map fr.eval) = _
           rw [Array.empty_append]
          have hrun : (execOp fr.eval o).runT P w #[] = (.ok (.round B.blk L'.fn ((L.params.toList.zip (as.toList.map fr.eval)).foldl (fun tmps (x : Tmp × Value) => tmps.setIfInBounds x.1 x.2) L'.tmps) L'.assign L'.body) w, #[ObjEv B.blk false false]) := by
           rw [hterm]
           unfold Instr.yield Instr.getLoop
           refine (runT_ok (s := _) (a := L') (w' := w) (es' := #[ObjEv B.blk false false]) ((runT_ok (runT_getObj hw' rfl #[])).trans rfl)).trans ?_
           rw [if_neg (by rw [hsz]; simp)]
           simp only [pure, Sem.runT]
           rw [← Array.foldl_toList, Array.toList_zip, a5]
           simp
          refine ⟨B.blk, _, _, _, _, hrun, ⟨a3, z1, ⟨_, .plain (.cons ?_ (.cons .br (.cons ?_ .nil))), fun j v hj _ => z2 j v hj⟩, .nil, .run, rfl, .some hB⟩, hM⟩
          ·rw [a6]; exact .code _
          ·rw [a7]; exact .code _
     ·cases hp
    ·cases hp
   ·cases hp
  ·cases hp
 ·cases hp
theorem Reach.drawYield (hb : main = true ∨ E.send ≠ none) (hm : s.fr.mode = .run) (hke : s.fr.kind ≠ .early) {all : Array Oper} {fs es : List Nat} {e : Nat} {k : List PItem} (ht : s.fr.todo = .dreg all fs (e :: es) :: k) (htm : tmpsOk all = true) (hch : chained (Region.before all) e es = true) (hnl : ∀ i ∈ fs, lateB all i = false) (hfs : ∀ i ∈ fs, i ∉ e :: es → FOk P s all i)
  {o : Oper} (hefs : e ∉ fs) (ho : all[e]? = some o) {cl : Call} (hop : o.op = .call cl) (hw : pwanted s.fr all o = some true) {pf' : PF} (hp : pyield s.fr s.H cl = some pf') :
  Reach P ty Post main E s { s with fr := pf', cs := { s.fr with todo := .dcall all (behind (Region.before all) e fs) e es :: k } :: s.cs } := by
 refine Reach.ofProgress hb hm hke ht htm hnl hfs fun E hb n hn ρ c fr cs w L m h hL hh => ?_
 cases h with
 | mk hf' hc hnd hpn hH hok hdd g1 g2 g3 hkp =>
  rename_i cs pd pds
  obtain ⟨l, X, rfl, hkm, hfe, h1, h2, h3, hX, hpd, hvt⟩ := at_head hf' ht hch hL hh
  have look : ∀ t ∈ looksAt all o, ¬ X t := fun t htl hx => by
   obtain ⟨q, q1, q2, q3⟩ := (hX t).1 hx
   exact head_look htm ho hfe htl q q1 (hnl q q2) q3
  have hr := FrR.run hf' hm
  refine W.dpriv rfl (hb.imp id fun e => by rw [g1]; exact e) fun w₁ r => ?_
  have hH1 := hH.rely r
  have hok1 := hok.rely r
  obtain ⟨b, f, tms, a, bd, hrun, hfr, hM⟩ := pyield_rel (P := P) hop hp (EvR.look hvt hH1 look) hH1
  have hst : stepG P main (G fr (cs ++ E.base)) w₁ = .go (G (Frame.round b f tms a bd .normal) (fr :: cs ++ E.base)) w₁ (seen P fr.fn #[ObjEv b false false]) := by
   rw [stepG_apply hr hL ho (wanted_look hvt look hw) (fun c hc => by rw [hop] at hc; cases hc)]
   exact apply_round (by rw [hf'.kind]; exact hke) hrun
  have hsub := seen_sub P fr.fn #[ObjEv b false false]
  have hdf2 : deafBehind c.d (seen P fr.fn #[ObjEv b false false]) = c.d := deaf_neut _ _ fun e he => obj_neut _ _ _ e (hsub e he)
  refine ⟨_, w₁, _, c.M, c.R, hst, rfl, Guar.refl hok1, fun e he => obj_foot hM false false (by simp) w₁ e (hsub e he), ?_⟩
  rw [hdf2]
  have hfe' := hfe
  cases hfe with
  | cons ha hnn tl =>
   have hmem : ∀ q ∈ l, (q ∈ fs ↔ q ∈ behind (Region.before all) e fs) := fun q hq => by
    unfold behind
    rw [List.mem_filter]
    simp [ha q hq]
   have hp' : pends s.fr.tmps all fs l = pends s.fr.tmps all (behind (Region.before all) e fs) l := pends_congr fun i hi => ⟨hmem i hi, fun _ => rfl⟩
   have hfr' : FrR ρ { s.fr with todo := .dcall all (behind (Region.before all) e fs) e es :: k } fr (pends s.fr.tmps all (behind (Region.before all) e fs) l) := by
    refine ⟨hf'.fn, hf'.size, ⟨fun t => ∃ q ∈ l, q ∈ behind (Region.before all) e fs ∧ dstOf all q = some t, by rw [hL]; exact .dcall hkm hfe' h1 (fun i hi => (h2 i hi).imp (hmem i hi).1 id) h3, fun k' u hk' hx => ?_⟩, hf'.defers, hf'.mode, hf'.kind, hf'.round⟩
    refine hvt k' u hk' fun hx' => ?_
    obtain ⟨q, q1, q2, q3⟩ := (hX k').1 hx'
    rcases List.mem_cons.1 q1 with rfl | q1
    ·exact hefs q2
    ·exact hx ⟨q, q1, (hmem q q1).1 q2, q3⟩
   have hdr : DR E ρ { s with fr := pf', cs := { s.fr with todo := .dcall all (behind (Region.before all) e fs) e es :: k } :: s.cs } c (G (Frame.round b f tms a bd .normal) (fr :: cs ++ E.base)) w₁ := by
    have hsub : (pends s.fr.tmps all (behind (Region.before all) e fs) l ++ pds).Sublist (pd ++ pds) := by
     rw [← hp', hpd]
     exact List.Sublist.append pends_tail (.refl _)
    exact .mk hfr (.cons hfr' hc) (by simpa using hnd.sublist hsub) (fun b hb => hpn b (hsub.subset (by simpa using hb))) hH1 hok1 hdd g1 g2 g3 (hkp.rely r)
   exact hn ρ c _ w₁ hdr
theorem FrR.pdOfCall {pf : PF} {fr : Frame} {pd : List Nat} (h : FrR ρ pf fr pd) {all : Array Oper} {fs es : List Nat} {e : Nat} {k : List PItem} (ht : pf.todo = .dcall all fs e es :: k) {l : List Nat} {m : List Item} (hL : fr.todo = .inRegion all (e :: l) :: m) : pd = pends pf.tmps all fs l := by
 obtain ⟨X, htd, _⟩ := h.todo
 rw [ht, hL] at htd
 cases htd with
 | plain hk =>
  obtain ⟨b, m', _, hi, _⟩ := hk.cons_inv
  cases hi
 | dcall hkm hfe h1 h2 h3 => rfl
theorem FrR.finishDcall {pf : PF} {cfr : Frame} {pd1 : List Nat} (hc1 : FrR ρ pf cfr pd1) {all : Array Oper} {fs es : List Nat} {e : Nat} {k : List PItem} (ht : pf.todo = .dcall all fs e es :: k) (htm : tmpsOk all = true) {o : Oper} (ho : all[e]? = some o) {v v' : Value} {tm : T Value} (hp : pput pf o.dst v = some tm) (hv : VR ρ v v') :
  FrR ρ { pf with tmps := tm, todo := .dreg all (behind (Region.before all) e fs) es :: k } (cfr.finish v') pd1 := by
  obtain ⟨X, htd, hvc⟩ := hc1.todo
  rw [ht] at htd
  generalize hcm : cfr.todo = ct at htd
  cases htd with
  | plain hk =>
   obtain ⟨b, m', _, hi, _⟩ := hk.cons_inv
   cases hi
  | dcall hkm hfe h1 h2 h3 =>
   rename_i m l
   have hfe' := hfe
   obtain ⟨p1, p2, p3, p4⟩ := head_put (X := fun t => ∃ q ∈ e :: l, q ∈ fs.filter (fun q => !Nat.beq q e) ∧ dstOf all q = some t) (fs := fs.filter (fun q => !Nat.beq q e)) htm ho hfe h1 (fun i hi => by
    rcases h2 i hi with q | q
    ·refine .inl (List.mem_filter.2 ⟨q, ?_⟩)
     cases hfe' with
     | cons ha hn tl =>
      have : i ≠ e := fun h => hn (h ▸ hi)
      rw [beq_eq]; simpa using this
    ·exact .inr q) (fun t => Iff.rfl) hc1.size (fun k' u hk' hx => hvc k' u hk' fun ⟨i, i1, i2, i3⟩ => hx ⟨i, by simp [i1], List.mem_filter.2 ⟨i2, by
     cases hfe' with
     | cons ha hn tl =>
      have : i ≠ e := fun h => hn (h ▸ i1)
      rw [beq_eq]; simpa using this⟩, i3⟩) hp hv
   cases hfe with
   | cons ha hn tl =>
    have hne : ∀ i ∈ l, i ≠ e := fun i hi h => hn (h ▸ hi)
    have hmm : ∀ i ∈ l, (i ∈ behind (Region.before all) e (fs.filter (fun q => !Nat.beq q e)) ↔ i ∈ behind (Region.before all) e fs) := fun i hi => by
     unfold behind
     rw [List.mem_filter, List.mem_filter, List.mem_filter]
     have : (!Nat.beq i e) = true := by rw [beq_eq]; simpa using hne i hi
     simp [this]
    have hpe : pends tm all (behind (Region.before all) e fs) l = pends pf.tmps all fs l := by
     refine Eq.trans (pends_congr fun i hi => ⟨(hmm i hi).symm, fun _ => rfl⟩) (p3.trans (pends_congr fun i hi => ⟨?_, fun _ => rfl⟩))
     rw [List.mem_filter]
     have : (!Nat.beq i e) = true := by rw [beq_eq]; simpa using hne i hi
     simp [this]
    rw [finish_region hcm ho, ← hpe]
    exact ⟨hc1.fn, p1, ⟨_, .dreg hkm tl h1 (fun i hi => (p2 i hi).imp (hmm i hi).1 id) (fun i hi => h3 i (by simp [hi])), fun k' u hk' hx => p4 k' u hk' fun ⟨i, i1, i2, i3⟩ => hx ⟨i, i1, (hmm i i1).1 i2, i3⟩⟩, hc1.defers, hc1.mode, hc1.kind, hc1.round⟩
def pleaveD (pf : PF) (cs : List PF) (H : PH) (d : Nat) : Option DS :=
 match pf.round with
 | none => none
 | some l => match pf.kind with
  | .normal => match pjump pf.todo with
   | none => none
   | some j => match H.t.get l with
    | some (.obj (.loop L)) => match cs with
     | [] => none
     | pc :: cs' => match pc.todo with
      | .dcall all fs e es :: k => match all.toList[e]? with
       | some o => match pput pc o.dst (.bool (jumpBool j)) with
        | some tm => cond (tmpsOk all) (some ⟨pc.up tm (.dreg all (behind (Region.before all) e fs) es :: k), cs', H.upT (H.t.set l (.obj (.loop (loopEnd L (cond (jumpBool j) .ready .done) j)))), d⟩) none
        | none => none
       | none => none
      | _ => none
    | _ => none
  | _ => none
theorem pl_cond {b : Bool} {x y : DS} (h : cond b (some x) none = some y) : b = true ∧ x = y := by
 cases b with
 | true => exact ⟨rfl, Option.some.inj h⟩
 | false => cases h
theorem pleaveD_sound (hb : main = true ∨ E.send ≠ none) {pf : PF} {cs : List PF} {H : PH} {d : Nat} (hm : pf.mode = .run) {s' : DS} (hp : pleaveD pf cs H d = some s') : Reach P ty Post main E ⟨pf, cs, H, d⟩ s' := by
 unfold pleaveD at hp
 split at hp
 ·cases hp
 ·rename_i l hrd
  split at hp
  ·rename_i hkd
   split at hp
   ·cases hp
   ·rename_i j ej
    split at hp
    ·rename_i L e1
     split at hp
     ·cases hp
     ·rename_i pc cs'
      split at hp
      ·rename_i all fs e es k et
       rcases eo : all.toList[e]? with _ | o
       ·rw [eo] at hp; cases hp
       rw [eo] at hp
       simp only at hp
       split at hp
       ·rename_i tm e3
        replace hp := pl_cond hp
        obtain ⟨htm, hp⟩ := hp
        subst hp
        refine Reach.setO (s := ⟨pf, pc :: cs', H, d⟩) hb e1 fun E ρ c fr crs pd pds w hf hc hH hok => ?_
        have hrr : RdR ρ pf.round fr.roundOf := hf.round
        rw [hrd] at hrr
        generalize hro : fr.roundOf = ro at hrr
        cases hrr with
        | some hB =>
         rename_i B
         refine ⟨B, hB, fun o' hw' hor => ?_⟩
         obtain ⟨L', rfl, b1, b2, b3⟩ := hor.loop_inv
         have hptd : plainTodo pf.todo = true := by
          cases hpt : pf.todo with
          | nil => rfl
          | cons it k' =>
           rw [hpt] at ej
           cases it <;> first | rfl | cases ej
         obtain ⟨hpd, htd, hvt⟩ := hf.plain' hptd
         have htd : LR (ItR ρ) pf.todo fr.todo := htd
         cases hc with
         | cons hc1 hct =>
          rename_i cfr crest pd1 pds1
          have eo' : all[e]? = some o := by rw [← Array.getElem?_toList]; exact eo
          have hfr := hc1.finishDcall et htm eo' e3 (v' := .bool (jumpBool j)) (.bool _)
          subst hpd
          refine ⟨_, cfr.finish (.bool (jumpBool j)), crest, pd1, pds1, #[ObjEv B.blk false false, ObjEv B.blk true false], b3 _ j, hfr, hct, by simp, by simp, ?_⟩
          have hr := FrR.run hf hm
          have hjb : j.isNone = jumpBool j := by cases j <;> rfl
          have hrun : (Instr.endRound B.blk j).runT P w #[] = (.ok (.bool (jumpBool j)) (World.setO w B.blk (.loop { L' with state := cond (jumpBool j) .ready .done, pending := j })), #[ObjEv B.blk false false, ObjEv B.blk true false]) := by
           unfold Instr.endRound
           refine (runT_ok (run_getLoop hw' #[])).trans ?_
           refine (runT_ok (runT_setObj hw' rfl _)).trans ?_
           rw [hjb]
           cases jumpBool j <;> rfl
          have hdo : doReturn P main fr ((cfr :: crest) ++ E.base) none (.bool (jumpBool j)) (World.setO w B.blk (.loop { L' with state := cond (jumpBool j) .ready .done, pending := j })) = .go (G (cfr.finish (.bool (jumpBool j))) (crest ++ E.base)) (World.setO w B.blk (.loop { L' with state := cond (jumpBool j) .ready .done, pending := j })) := by
           have hkn : fr.kind = .normal := by rw [hf.kind]; exact hkd
           simp [doReturn, hkn, G]
          have hst : stepG P main (G fr ((cfr :: crest) ++ E.base)) w = (doReturn P main fr ((cfr :: crest) ++ E.base) none (.bool (jumpBool j)) (World.setO w B.blk (.loop { L' with state := cond (jumpBool j) .ready .done, pending := j }))).after (seen P fr.fn #[ObjEv B.blk false false, ObjEv B.blk true false]) := by
           rw [show stepG P main (G fr ((cfr :: crest) ++ E.base)) w = stepG.exec P main true fr ((cfr :: crest) ++ E.base) none w by simp [stepG, G, hr]]
           unfold stepG.exec
           generalize hpt : pf.todo = td at ej htd
           cases td with
           | nil =>
            cases ej
            have e := htd.nil_inv
            simp only [e, hro, hrun]
           | cons it k' =>
            obtain ⟨b', m, e, hi, hkm⟩ := htd.cons_inv
            cases hi with
            | code cd =>
             cases cd with
             | ret =>
              cases ej
              simp only [e, hro, hrun]
             | exit id =>
              simp only [pjump] at ej
              split at ej
              ·rename_i ex
               cases ej
               have hx := LR.exit_none hkm ex
               simp only [e, hro, hx, Option.elim, hrun]
              ·cases ej
             | _ => cases ej
            | _ => cases ej
          rw [hst, hdo, after_go, Array.append_empty]
       ·cases hp
      ·cases hp
    ·cases hp
  ·cases hp
def pextra (C : Cfg) (fr : PF) (cs : List PF) (H : PH) (d : Nat) : Option DS :=
 match fr.mode with
 | .run => match fr.todo with
  | .dreg all fs (e :: es) :: k => cond (notEarly fr.kind && (tmpsOk all && (foks C fr H all fs && (chained (Region.before all) e es && !(fs.any (Nat.beq e)))))) (match all.toList[e]? with
   | some o => match pwanted fr all o with
    | some true => match o.op with
     | .call c => match pyield fr H c with
      | some pf => some ⟨pf, fr.go (.dcall all (behind (Region.before all) e fs) e es :: k) :: cs, H, d⟩
      | none => none
     | _ => none
    | _ => none
   | none => none) none
  | _ => pleaveD fr cs H d
 | _ => none
theorem pextra_sound {C : Cfg} (hC : CfgOk C) (hb : main = true ∨ E.send ≠ none) {fr : PF} {cs : List PF} {H : PH} {d : Nat} {s' : DS} (hp : pextra C fr cs H d = some s') : Reach C.P ty Post main E ⟨fr, cs, H, d⟩ s' := by
 unfold pextra at hp
 split at hp
 ·rename_i hm
  split at hp
  ·rename_i all fs e es k ht
   cases e0 : (notEarly fr.kind && (tmpsOk all && (foks C fr H all fs && (chained (Region.before all) e es && !(fs.any (Nat.beq e)))))) with
   | false => rw [e0] at hp; cases hp
   | true =>
    rw [e0] at hp
    simp only [Bool.and_eq_true, Bool.not_eq_true'] at e0
    obtain ⟨h1, h2, h3, h4, h5⟩ := e0
    simp only [cond_true] at hp
    obtain ⟨f1, f2⟩ := foks_sound (cs := cs) (d := d) hC h3
    split at hp
    ·rename_i o eo
     split at hp
     ·rename_i hw
      split at hp
      ·rename_i c hop
       split at hp
       ·rename_i pf ep
        simp only [Option.some.injEq] at hp
        subst hp
        exact Reach.drawYield (s := ⟨fr, cs, H, d⟩) hb hm (fun e => by rw [e] at h1; cases h1) ht h2 h4 f1 (fun i hi _ => f2 i hi) (fun hmem => by
         have := List.any_eq_true.2 ⟨e, hmem, Nat.beq_refl e⟩
         rw [h5] at this; cases this) (by rw [← Array.getElem?_toList]; exact eo) hop hw ep
       ·cases hp
      ·cases hp
     ·cases hp
    ·cases hp
  ·exact pleaveD_sound hb hm hp
 ·cases hp
end
end Go.Gd
namespace Go.Gd
open Go Go.Gw Go.Conc
def pcap (ty : Tys) (t : TypeId) (u : Value) : Option Value :=
 match ty.get t with
 | some (_, .slice _) => match u with
  | .slice none _ c => some (goInt c)
  | .slice (some _) _ c => cond (Nat.beq c big) none (some (goInt c))
  | _ => none
 | _ => none
def pzeros (ty : Tys) (H : PH) (sT xT : TypeId) (s x : Value) : Option (Value × PH) :=
 match ty.get sT with
 | some (_, .slice elem) => match ty.get elem with
  | some (ei, _) => match ty.get xT with
   | some (_, .int _) => match s with
    | .slice none 0 0 => match x with
     | .int _ (.ofNat (n + 1)) => match ei.zero with
      | some z => cond (ground 6 z && (Nat.blt (n + 1) 1000000 && (Nat.ble ((n + 1) * ei.bytes) 281474976710656 && Nat.blt 0 ei.size))) (pgrow ei elem H (n + 1) (Builtin.zeroCells z.cells (n + 1)).toList) none
      | none => none
     | _ => none
    | _ => none
   | _ => none
  | none => none
 | _ => none
def pmore (_P : Program) (ty : Tys) (pf : PF) (H : PH) (o : Oper) : Option (Value × PH) :=
 match o.op with
 | .call ⟨.builtin .cap, ⟨[x]⟩, ⟨[t]⟩⟩ => match peval H.ng pf x with
  | some u => match pcap ty t u with
   | some v => some (v, H)
   | none => none
  | none => none
 | .call ⟨.builtin .append, ⟨[x, y]⟩, ⟨[s, t]⟩⟩ => match peval H.ng pf x with
  | some u => match peval H.ng pf y with
   | some v => pzeros ty H s t u v
   | none => none
  | none => none
 | _ => none
section
variable {P : Program} {ty : Tys} {ρ : Ren} {pf : PF} {fr : Frame} {H : PH} {c : Ctx} {w : World}
theorem cap_sound {hn : Nat} {o : Oper} (hty : TysOk P ty) (h : EvR H.ng ρ pf fr o) (hH : HR ρ H c w) (hok : COk c w) {x : Operand} {t : TypeId} (ho : o.op = .call { callee := .builtin .cap, args := #[x], argTypes := #[t] }) {u v : Value} (hx : peval H.ng pf x = some u) (hp : pcap ty t u = some v) :
  Sound P ρ hn v H c w (execOp fr.eval o) := by
 have hv := h x (by simp [ho, Op.operands, Call.operands]) _ hx
 unfold pcap at hp
 split at hp
 ·rename_i ti elem e1
  have hu := (hty _ _ e1).2
  have key : ∀ (b : Option Addr) (n c' : Nat), fr.eval x = .slice b n c' → (execOp fr.eval o).runT P w #[] = (.ok (.value (goInt c')) w, #[]) := by
   intro b n c' e
   rw [Sem.runT_eq]
   unfold execOp
   simp [ho, resolve, invoke, builtin, Builtin.cap_, e, run_underlying hu]
  generalize hev : fr.eval x = u' at hv
  split at hp
  ·cases hp
   cases hv with
   | sl0 => exact Sound.pure hH hok (.int _ _) (key _ _ _ hev)
  ·rename_i a n cc
   cases e2 : Nat.beq cc big with
   | true => rw [e2] at hp; cases hp
   | false =>
    rw [e2] at hp
    cases hp
    cases hv with
    | sl hB hc =>
     rcases hc with ⟨_, rfl⟩ | ⟨hc, _⟩
     ·exact Sound.pure hH hok (.int _ _) (key _ _ _ hev)
     ·exact absurd hc (Nat.ne_of_beq_eq_false e2)
  ·cases hp
 ·cases hp
theorem run_append_zeros {sT xT : TypeId} {tt elem : TypeId} {ei : TypeInfo} {ik : IntKind} (hs : P.underlying sT = some (.slice elem)) (hi : P.info? elem = some ei) (hx : P.underlying xT = some (.int ik)) {z : Value} (hz : ei.zero = some z)
  {n : Nat} {k : IntKind} (hn : n < 1000000) (hn0 : n ≠ 0) (hs0 : ei.size ≠ 0) (hm : n * ei.bytes ≤ 2 ^ 48) (hb : ei.bytes ≠ 0) (hlim : (2 * n + 192) * ei.bytes ≤ 2 ^ 48) {cp : Nat}
  (hcp : cp = (Question.appendCap n 0 elem).cut (w.tape w.drawn (Question.appendCap n 0 elem))) :
  (Builtin.append_ #[sT, xT] tt #[.slice none 0 0, .int k (.ofNat n)]).runT P w #[] = (.ok (.slice (some ⟨w.heap.size, 0, none⟩) n cp) (World.grow (World.draw w) (.cells (Builtin.zeroCells z.cells n ++ Builtin.zeroCells z.cells (cp - n)) elem)), #[] ++ roomEs (cp * ei.bytes)) := by
 unfold Builtin.append_
 simp only [List.getElem?_toArray, List.getElem?_cons_zero, List.getElem?_cons_succ]
 refine (runT_ok (runT_und hs)).trans ?_
 simp only
 refine (runT_ok (runT_size hi)).trans ?_
 refine (runT_ok (runT_und hx)).trans ?_
 refine (runT_ok (s := pure _) (a := true) (w' := w) (es' := #[]) rfl).trans ?_
 simp only [if_true]
 have hwr : IntKind.i64.wrap (Int.ofNat n) = Int.ofNat n := small_wrap (by
  show Nat.blt n 9223372036854775808 = true
  exact Nat.ble_eq_true_of_le (by omega))
 refine (runT_ok (s := asInt (.int k (.ofNat n))) (a := (.ofNat n : Int)) (w' := w) (es' := #[]) rfl).trans ?_
 simp only [hwr]
 rw [if_neg (show ¬ (Int.ofNat n < 0) by simp)]
 refine (runT_ok (s := typeInfo elem) (runT_info hi)).trans ?_
 have h48 : (2 : Int) ^ 48 = ((2 ^ 48 : Nat) : Int) := by decide
 rw [if_neg (by
  have h3 : (Int.ofNat n) * (ei.bytes : Int) = ((n * ei.bytes : Nat) : Int) := (Int.natCast_mul n ei.bytes).symm
  rw [h3, h48]
  omega)]
 refine (runT_ok (s := pure _) (a := n) (w' := w) (es' := #[]) rfl).trans ?_
 rw [if_neg (show ¬ (0 + n ≤ 0) by omega)]
 refine (runT_ok (s := typeInfo elem) (runT_info hi)).trans ?_
 have h63 : IntKind.i64.max = 9223372036854775807 := by decide
 rw [if_neg (by
  rintro ⟨h, -⟩
  rw [h63] at h
  omega)]
 refine (runT_ok (s := typeInfo elem) (runT_info hi)).trans ?_
 have hbig : Builtin.nextslicecap (0 + n) 0 * ei.bytes ≤ 2 ^ 48 := Nat.le_trans (Nat.mul_le_mul_right _ (nextslicecap_le (by omega))) (by rw [Nat.zero_add]; exact hlim)
 rw [if_neg (by omega)]
 have h0n : 0 + n = n := Nat.zero_add n
 simp only [h0n]
 refine (runT_ok (s := choose (.appendCap n 0 elem)) (a := cp) (w' := World.draw w) (es' := #[]) ?_).trans ?_
 ·rw [hcp]; rfl
 refine (runT_ok (s := typeInfo elem) (runT_info hi)).trans ?_
 refine (runT_ok (run_askRoom _ _ _)).trans ?_
 refine (runT_ok (s := Builtin.firstCells ei.size 0 (.slice none 0 0)) (a := #[]) (w' := World.draw w) (es' := #[] ++ roomEs (cp * ei.bytes)) rfl).trans ?_
 have hzv : ∀ es, (zeroValue elem).runT P (World.draw w) es = (.ok z (World.draw w), es) := fun es => by
  show ((typeInfo elem).bind fun i => match i.zero with | some v => pure v | none => unsupported (.resourceLimit "a value of more than 2^22 cells")).runT P _ _ = _
  rw [runT_ok (runT_info hi), hz]
  rfl
 have hne : ¬ n * ei.size = 0 := by
  intro h
  rcases Nat.mul_eq_zero.1 h with h | h
  ·exact hn0 h
  ·exact hs0 h
 simp only [Bool.not_true, Bool.false_eq_true, if_false, if_neg hne]
 refine (runT_ok (s := (zeroValue elem).bind fun z => pure (Builtin.zeroCells z.cells n)) (a := Builtin.zeroCells z.cells n) (w' := World.draw w) (es' := #[] ++ roomEs (cp * ei.bytes)) ((runT_ok (hzv _)).trans rfl)).trans ?_
 refine (runT_ok (hzv _)).trans ?_
 simp only [Array.empty_append]
 rfl
theorem zeroCells_VRL {z : Value} (hg : ground 6 z = true) (n : Nat) : VRL ρ (Builtin.zeroCells z.cells n).toList (Builtin.zeroCells z.cells n).toList := by
 refine VRL.refl_of fun v hv => ?_
 unfold Builtin.zeroCells at hv
 simp only [Array.toList_map, List.mem_map] at hv
 obtain ⟨k, hk, rfl⟩ := hv
 have hz : VRL ρ z.cells.toList z.cells.toList := VR.cells (ground_refl 6 hg)
 by_cases hs : k % z.cells.size < z.cells.size
 ·rw [getElem!_pos z.cells _ hs]
  exact VRL.mem hz rfl _ (by simp)
 ·rw [getElem!_neg z.cells _ hs]
  exact .bool _
theorem zeros_sound {o : Oper} (hty : TysOk P ty) (h : EvR H.ng ρ pf fr o) (hH : HR ρ H c w) (hok : COk c w) {sT xT : TypeId} {x y : Operand} (ho : o.op = .call { callee := .builtin .append, args := #[x, y], argTypes := #[sT, xT] })
  {s u v : Value} (hx : peval H.ng pf x = some s) (hy : peval H.ng pf y = some u) {H' : PH} (hp : pzeros ty H sT xT s u = some (v, H')) : Sound P ρ H.next v H' c w (execOp fr.eval o) := by
 have hv := h x (by simp [ho, Op.operands, Call.operands]) _ hx
 have hu := h y (by simp [ho, Op.operands, Call.operands]) _ hy
 unfold pzeros at hp
 split at hp
 ·rename_i ti elem e1
  split at hp
  ·rename_i ei ed e2
   split at hp
   ·rename_i tx ik e3
    split at hp
    ·split at hp
     ·rename_i k n
      split at hp
      ·rename_i z ez
       cases e4 : (ground 6 z && (Nat.blt (n + 1) 1000000 && (Nat.ble ((n + 1) * ei.bytes) 281474976710656 && Nat.blt 0 ei.size))) with
       | false => rw [e4] at hp; cases hp
       | true =>
        rw [e4] at hp
        simp only [cond_true] at hp
        simp only [Bool.and_eq_true] at e4
        obtain ⟨g1, g2, g3, g4⟩ := e4
        have g2 := Nat.le_of_ble_eq_true g2
        have g3 := Nat.le_of_ble_eq_true g3
        have g4 := Nat.le_of_ble_eq_true g4
        generalize hev : fr.eval x = x' at hv
        generalize hew : fr.eval y = y' at hu
        cases hv
        cases hu
        have hzs : ∀ z', ei.zero = some z' → z' = z := fun z' e => by rw [ez] at e; cases e; rfl
        refine pgrow_sound (Nat.le_refl _) hH hok (zeroCells_VRL g1 (n + 1)) ?_ hp fun z' z1 z2 z3 => ?_
        ·have hsz : z.cells.size = ei.size := by
          unfold pgrow at hp
          cases e5 : growOk ei (n + 1) with
          | false => rw [e5] at hp; cases hp
          | true =>
           obtain ⟨z', a1, _, _, a4⟩ := growOk_get e5
           rw [hzs z' a1] at a4
           exact a4
         rw [Array.length_toList, zeroCells_size, hsz]
        ·have := hzs z' z1
         subst this
         let q := Question.appendCap (n + 1) 0 elem
         let cp := q.cut (w.tape w.drawn q)
         have hrun := run_append_zeros (P := P) (w := w) (tt := o.type) (hty _ _ e1).2 (hty _ _ e2).1 (hty _ _ e3).2 ez (n := n + 1) (k := k) (show n + 1 < 1000000 by omega) (Nat.succ_ne_zero n) (Nat.ne_of_gt g4) g3 z2 z3 (cp := cp) rfl
         have he' : execOp fr.eval o = (Builtin.append_ #[sT, xT] o.type #[.slice none 0 0, .int k (.ofNat (n + 1))]).bind fun r => Sem.pure (Next.value r) := by
          rw [builtin_term ho]
          simp only [List.map_toArray, List.map_cons, List.map_nil, hev, hew]
          rfl
         refine ⟨cp, #[] ++ roomEs (cp * ei.bytes), cut_ge _ _ _ _, ?_, fun w' => Foot.app (Foot.nil _ _ _) (roomEs_ok _ _).1, Neut.app (fun e he => by simp at he) (roomEs_ok (c := c) (w := w) _ w).2⟩
         rw [he', runT_ok hrun]
         rw [Array.toArray_toList]
         rfl
      ·cases hp
     ·cases hp
    ·cases hp
   ·cases hp
  ·cases hp
 ·cases hp
theorem pmore_sound (hty : TysOk P ty) {o : Oper} (h : EvR H.ng ρ pf fr o) (hH : HR ρ H c w) (hok : COk c w) {v : Value} {H' : PH} (hp : pmore P ty pf H o = some (v, H')) : Sound P ρ H.next v H' c w (execOp fr.eval o) := by
 unfold pmore at hp
 split at hp
 ·rename_i x t ho
  split at hp
  ·rename_i u eu
   split at hp
   ·rename_i v' ev
    cases hp
    exact cap_sound hty h hH hok ho eu ev
   ·cases hp
  ·cases hp
 ·rename_i x y s t ho
  split at hp
  ·rename_i u eu
   split at hp
   ·rename_i v' ev
    exact zeros_sound hty h hH hok ho eu ev hp
   ·cases hp
  ·cases hp
 ·cases hp
theorem pmore_notDefer {o : Oper} {r : Value × PH} (h : pmore P ty pf H o = some r) : ∀ c, o.op ≠ .defer c := fun c e => by
 unfold pmore at h
 rw [e] at h
 cases h
end
end Go.Gd
namespace Go.Gd
open Go Go.Gw Go.Conc
def okVars (P : Program) (el u off n size : Nat) : Bool :=
 !Nat.beq (P.cellsOf el) 0 && (Nat.beq (off % P.cellsOf el) 0 && (Nat.ble (off / P.cellsOf el + n) (size / P.cellsOf el) && sameLayout P P.depth el u))
def pfromUp (P : Program) (ty : Tys) (H : PH) (s t : TypeId) (a : Addr) : Option Value :=
 match ty.get s with
 | some (_, sd) => cond (upT sd) (match ty.get t with
  | some (_, .pointer u) => match psize ty u with
   | some n => match a.spot with
    | none => match H.t.get a.block with
     | some (.cells _ size el _ _ _ _ _) => cond (!Nat.beq n 0 && okVars P el u a.off 1 size) (some (.pointer (some a))) none
     | _ => none
    | _ => none
   | none => none
  | _ => none) none
 | _ => none
def pbytes (t : T Value) (n : Nat) : Nat → ByteArray → Option ByteArray :=
 Nat.rec (motive := fun _ => Nat → ByteArray → Option ByteArray) (fun _ acc => some acc) (fun _ ih off acc => match t.get off with
  | some (.int .u8 b) => ih (off + 1) (acc.push b.toNat.toUInt8)
  | _ => none) n
def iceO (o : PObj) : PObj := match o with
 | .cells c size elem es own fam ok _ => .cells c size elem es own fam ok true
 | .obj o => .obj o
def iceAll (t : T PObj) (fam b : Nat) (l : List Nat) : T PObj :=
 List.rec (motive := fun _ => T PObj) t (fun x _ ih => match t.get x with
  | some o => cond (Nat.beq x b || (Nat.beq o.fam fam && !Nat.beq fam 0)) (ih.set x (iceO o)) ih
  | none => ih) l
def pbstr (P : Program) (ty : Tys) (H : PH) (pt : TypeId) (u n : Value) : Option (Value × PH) :=
 match n with
 | .int _ (.ofNat 0) => match u with
  | .pointer _ => some (.string .empty, H)
  | _ => none
 | .int _ (.ofNat (n + 1)) => match u with
  | .pointer (some ⟨b, off, none⟩) => match ty.get pt with
   | some (_, .pointer e) => match H.t.get b with
    | some (.cells t size el _ true fam true _) => cond (okVars P el e off (n + 1) size && (Nat.ble (off + (n + 1)) size && (Nat.ble H.next (2 ^ T.deep) && Nat.blt (n + 1) 1000000))) (match pbytes t (n + 1) off .empty with
     | some s => some (.string s, H.upT (iceAll H.t fam b (List.range H.next)))
     | none => none) none
    | _ => none
   | _ => none
  | _ => none
 | _ => none
def psliceData (u : Value) : Option Value :=
 match u with
 | .slice none _ _ => some (.pointer none)
 | .slice (some a) n c => cond (cond (Nat.beq c big) (Nat.blt 0 n) (Nat.blt 0 c)) (some (.pointer (some a))) none
 | _ => none
section
variable {P : Program} {ty : Tys} {ρ : Ren} {pf : PF} {fr : Frame} {H : PH} {c : Ctx} {w w' : World}
theorem rowAt_ok {fits : TypeId → Bool} {d e count off n : Nat} (h1 : P.cellsOf e ≠ 0) (h2 : off % P.cellsOf e = 0) (h3 : off / P.cellsOf e + n ≤ count) (h4 : fits e = true) : rowAt P fits (d + 1) e count off n = true := by
 unfold rowAt
 simp only [h1, if_false, h2, h4]
 simp [h3]
theorem run_varsAt {b off el u n size N : Nat} (hs : w.shape? b = some (el, N)) (h : okVars P el u off n size = true) (hN : size ≤ N) (es : Array Event) : (variablesAt ⟨b, off, none⟩ u n).runT P w es = (.ok true w, es) := by
 unfold okVars at h
 simp only [Bool.and_eq_true, Bool.not_eq_true'] at h
 obtain ⟨h1, h2, h3, h4⟩ := h
 have h1 := Nat.ne_of_beq_eq_false h1
 have h2 := Nat.eq_of_beq_eq_true h2
 have h3 := Nat.le_of_ble_eq_true h3
 have h3' : off / P.cellsOf el + n ≤ N / P.cellsOf el := Nat.le_trans h3 (Nat.div_le_div_right hN)
 have hl : liesAt P P.depth el (N / P.cellsOf el) off u n = true := by
  have hd : P.depth = (2 * (P.types.size + Made.depth) + 1) + 1 := rfl
  have hr : rowAt P (sameLayout P P.depth · u) P.depth el (N / P.cellsOf el) off n = true := by
   rw [show P.depth = (2 * (P.types.size + Made.depth) + 1) + 1 from rfl] at h4 ⊢
   exact rowAt_ok h1 h2 h3' h4
  rw [hd]
  unfold liesAt
  rw [hr]
  rfl
 unfold variablesAt
 show ((Sem.program .pure).bind fun p => _).runT P w es = _
 show ((shape b).bind fun x => match x with
  | some (e, cells) => pure (liesAt P P.depth e (cells / P.cellsOf e) off u n)
  | none => pure false).runT P w es = _
 refine (runT_ok (s := shape b) (a := some (el, N)) (w' := w) (es' := es) ?_).trans ?_
 ·show (Sem.shape b .pure).runT P w es = _
  simp only [Sem.runT, hs]
 ·simp only [hl]
  rfl
theorem run_seenAt {B : Nat} {el N : Nat} {a : Addr} (hs : w.shape? B = some (el, N)) (ha : a.block = B) (es : Array Event) : (Conv.seenAt a).runT P w es = (.ok a w, es) := by
 subst ha
 have hsh : ∀ es, (shape a.block).runT P w es = (.ok (some (el, N)) w, es) := fun es => by
  show (Sem.shape a.block .pure).runT P w es = _
  simp only [Sem.runT, hs]
 have hview : ∀ es, (viewAt a.block).runT P w es = (.ok none w, es) := fun es => by
  unfold viewAt
  refine (runT_ok (hsh es)).trans ?_
  rfl
 unfold Conv.seenAt
 refine (runT_ok (hview es)).trans ?_
 rfl
theorem fromUp_sound {hn : Nat} {o : Oper} (hty : TysOk P ty) (h : EvR H.ng ρ pf fr o) (hH : HR ρ H c w) (hok : COk c w) {s t : TypeId} {x : Operand} (ho : o.op = .convert s t x) {a : Addr} (hx : peval H.ng pf x = some (.pointer (some a))) {v : Value} (hp : pfromUp P ty H s t a = some v) : Sound P ρ hn v H c w (execOp fr.eval o) := by
 have h1 := h x (by simp [ho, Op.operands]) _ hx
 unfold pfromUp at hp
 split at hp
 ·rename_i si sd e1
  obtain ⟨eu, hp'⟩ := upT_cond hp
  replace hp := hp'
  cases sd <;> first | exact (Bool.false_ne_true eu).elim | skip
  split at hp
  ·rename_i ti u e2
   split at hp
   ·rename_i n e3
    split at hp
    ·rename_i e4
     split at hp
     ·rename_i tr size el es own fam ok ice e5
      obtain ⟨e6, hp⟩ := (show (!Nat.beq n 0 && okVars P el u a.off 1 size) = true ∧ (some (Value.pointer (some a)) : Option Value) = some v by
       cases e6 : (!Nat.beq n 0 && okVars P el u a.off 1 size) with
       | false => rw [e6] at hp; cases hp
       | true => rw [e6] at hp; exact ⟨rfl, hp⟩)
      cases hp
      simp only [Bool.and_eq_true, Bool.not_eq_true'] at e6
      have c1 := Nat.ne_of_beq_eq_false e6.1
      generalize hev : fr.eval x = y at h1
      cases h1 with
      | ptr hB =>
       rename_i B
       refine Sound.val hH hok (.ptr hB) (s := Go.convert s t (.pointer (some { a with block := B.blk }))) (by unfold execOp; rw [ho]; simp only [hev]; rfl) ?_
       have hr := hH.rel _ _ _ hB e5
       cases hr with
       | cells hs he hf hle hown hR hok' =>
        unfold Go.convert
        refine (runT_ok (s := underlying s) (runT_und (hty _ _ e1).2)).trans ?_
        refine (runT_ok (s := underlying t) (runT_und (hty _ _ e2).2)).trans ?_
        refine (runT_ok (s := underlying s) (runT_und (hty _ _ e1).2)).trans ?_
        refine (runT_ok (s := underlying t) (runT_und (hty _ _ e2).2)).trans ?_
        refine (runT_ok (run_seenAt hs rfl _)).trans ?_
        refine (runT_ok (psize_ok hty e3 _)).trans ?_
        obtain ⟨b, off, spot⟩ := a
        simp only at e4
        subst e4
        refine (runT_ok (run_varsAt hs e6.2 hle _)).trans ?_
        rw [if_pos (by simp)]
        rfl
     ·cases hp
    ·cases hp
   ·cases hp
  ·cases hp
 ·cases hp
theorem run_loadBytes {t : T Value} {size b : Nat} (hok : ∀ k, k < size → ∃ v v', t.get k = some v ∧ w.cell? ⟨b, k, none⟩ = some v' ∧ VR ρ v v') : ∀ (n off : Nat) (acc s : ByteArray) (es : Array Event), off + n ≤ size → pbytes t n off acc = some s →
  (loadBytes ⟨b, off, none⟩ acc n).runT P w es = (.ok s w, es ++ (rdEvents b off n).toArray)
 | 0, off, acc, s, es, _, h => by
  cases h
  simp [loadBytes, pure, rdEvents]
 | n + 1, off, acc, s, es, hlt, h => by
  unfold pbytes at h
  simp only at h
  obtain ⟨v, v', h1, h2, h3⟩ := hok off (by omega)
  rw [h1] at h
  split at h
  ·rename_i bb e
   cases e
   cases h3
   have ih := run_loadBytes hok n (off + 1) (acc.push bb.toNat.toUInt8) s (es.push ⟨.cell ⟨b, off, none⟩, false, false⟩) (by omega) h
   have hl : (Go.load ⟨b, off, none⟩).runT P w es = (.ok (.int .u8 bb) w, es.push ⟨.cell ⟨b, off, none⟩, false, false⟩) := by
    unfold Go.load
    simp only [Sem.runT, h2]
    rfl
   unfold loadBytes
   refine (runT_ok hl).trans ?_
   refine ih.trans ?_
   rw [rdEvents_succ, push_cons]
  ·cases h
theorem freeze_obj (b off n x : Nat) : (w.freeze ⟨b, off, none⟩ n).heap[x]? = w.heap[x]? ∨ (x = b ∧ ∃ c elem f f', w.heap[x]? = some (.cells c elem f) ∧ (w.freeze ⟨b, off, none⟩ n).heap[x]? = some (.cells c elem f')) := by
 unfold World.freeze
 by_cases hn : n = 0
 ·rw [if_pos hn]; exact .inl rfl
 ·rw [if_neg hn]
  simp only [Array.getElem?_modify]
  by_cases hx : b = x
  ·subst hx
   rw [if_pos rfl]
   cases e : w.heap[b]? with
   | none => exact .inl rfl
   | some o =>
    cases o with
    | cells c elem f =>
     obtain ⟨lo, hi⟩ := f
     exact .inr ⟨rfl, c, elem, (lo, hi), _, rfl, rfl⟩
    | _ => exact .inl rfl
  ·rw [if_neg hx]; exact .inl rfl
theorem freeze_only (b off n : Nat) : Only b w (w.freeze ⟨b, off, none⟩ n) := by
 refine ⟨?_, ?_, ?_, ?_, fun x => ?_, fun x hx => ?_⟩
 ·unfold World.freeze; split <;> rfl
 ·unfold World.freeze; split <;> rfl
 ·unfold World.freeze; split <;> rfl
 ·unfold World.freeze; split
  ·rfl
  ·simp
 ·unfold World.shape?
  rcases freeze_obj (w := w) b off n x with e | ⟨_, c, el, f, f', e1, e2⟩
  ·rw [e]
  ·rw [e1, e2]
 ·rcases freeze_obj (w := w) b off n x with e | ⟨e, _⟩
  ·exact e
  ·exact absurd e hx
theorem freeze_cell (b off n : Nat) (a : Addr) : (w.freeze ⟨b, off, none⟩ n).cell? a = w.cell? a := by
 unfold World.cell?
 rcases freeze_obj (w := w) b off n a.block with e | ⟨_, c, el, f, f', e1, e2⟩
 ·rw [e]
 ·rw [e1, e2]
theorem BR.keepOnly {X : RB} {o : PObj} {b : Nat} (h : BR ρ c w X o) (ho : Only b w w') (hne : X.blk ≠ b) : BR ρ c w' X o := by
 cases h with
 | cells hs he hf hle hown hR hok =>
  rename_i t size elem es own fam ok ice
  refine .cells ((ho.shape _).trans hs) he hf hle (fun e => ⟨(hown e).1, fun e' off => ?_⟩) hR (fun e k hk => ?_)
  ·have := (hown e).2 e' off
   simp only [World.frozen?, ho.keep _ hne] at this ⊢
   exact this
  ·obtain ⟨v, v', h1, h2, h3⟩ := hok e k hk
   exact ⟨v, v', h1, (cell_keep (a := ⟨X.blk, k, none⟩) (ho.keep _ hne)).trans h2, h3⟩
 | obj hw hor hM => exact .obj ((ho.keep _ hne).trans hw) hor hM
theorem iceO_fam (o : PObj) : (iceO o).fam = o.fam := by cases o <;> rfl
theorem iceO_mine (o : PObj) : (iceO o).mine = o.mine := by cases o <;> rfl
theorem iceO_okb (o : PObj) : (iceO o).okb = o.okb := by cases o <;> rfl
def iced (t : T PObj) (fam b x : Nat) : Prop := x = b ∨ (fam ≠ 0 ∧ ∃ o, t.get x = some o ∧ o.fam = fam)
theorem iceAll_get {t : T PObj} {fam b : Nat} : ∀ {l : List Nat}, (∀ x ∈ l, x < 2 ^ T.deep) → ∀ y, ((iceAll t fam b l).get y = (t.get y).map iceO ∧ y ∈ l ∧ iced t fam b y) ∨ ((iceAll t fam b l).get y = t.get y ∧ (y ∈ l → ¬ iced t fam b y ∨ t.get y = none))
 | [], _, y => .inr ⟨rfl, fun h => by cases h⟩
 | x :: l, h, y => by
  have ih := iceAll_get (t := t) (fam := fam) (b := b) (l := l) (fun x hx => h x (by simp [hx])) y
  have ih' : ((iceAll t fam b l).get y = (t.get y).map iceO ∧ y ∈ x :: l ∧ iced t fam b y) ∨ ((iceAll t fam b l).get y = t.get y ∧ (y ∈ l → ¬ iced t fam b y ∨ t.get y = none)) := ih.imp (fun ⟨a, b, c⟩ => ⟨a, by simp [b], c⟩) id
  unfold iceAll
  simp only
  split
  ·rename_i o e
   cases ec : (Nat.beq x b || (Nat.beq o.fam fam && !Nat.beq fam 0)) with
   | true =>
    have hic : iced t fam b x := by
     simp only [Bool.or_eq_true, Bool.and_eq_true, Bool.not_eq_true'] at ec
     rcases ec with ec | ⟨e1, e2⟩
     ·exact .inl (Nat.eq_of_beq_eq_true ec)
     ·exact .inr ⟨Nat.ne_of_beq_eq_false e2, o, e, Nat.eq_of_beq_eq_true e1⟩
    show (((iceAll t fam b l).set x (iceO o)).get y = _ ∧ _) ∨ (((iceAll t fam b l).set x (iceO o)).get y = _ ∧ _)
    rw [T.get_set _ _ _ _ (h x (by simp))]
    by_cases hy : y = x
    ·subst hy
     rw [if_pos rfl]
     exact .inl ⟨by rw [e]; rfl, by simp, hic⟩
    ·rw [if_neg hy]
     refine ih'.imp id fun ⟨a, q⟩ => ⟨a, fun hm => ?_⟩
     rcases List.mem_cons.1 hm with rfl | hm
     ·exact absurd rfl hy
     ·exact q hm
   | false =>
    have hic : ¬ iced t fam b x := by
     simp only [Bool.or_eq_false_iff, Bool.and_eq_false_imp, Bool.not_eq_false'] at ec
     rintro (rfl | ⟨h1, o', h2, h3⟩)
     ·have := ec.1
      rw [Nat.beq_refl] at this; cases this
     ·rw [e] at h2; cases h2
      have := ec.2 (by rw [h3]; exact Nat.beq_refl _)
      exact h1 (Nat.eq_of_beq_eq_true this)
    refine ih'.imp id fun ⟨a, q⟩ => ⟨a, fun hm => ?_⟩
    rcases List.mem_cons.1 hm with rfl | hm
    ·exact .inl hic
    ·exact q hm
  ·rename_i e
   refine ih'.imp id fun ⟨a, q⟩ => ⟨a, fun hm => ?_⟩
   rcases List.mem_cons.1 hm with rfl | hm
   ·exact .inr e
   ·exact q hm
theorem HR.ice (hH : HR ρ H c w) {b : Nat} {B : RB} (hB : ρ b = some B) {t : T Value} {size : Nat} {el : TypeId} {es fam : Nat} {ice : Bool} (ho : H.t.get b = some (.cells t size el es true fam true ice)) (hcap : H.next ≤ 2 ^ T.deep) (off n : Nat) :
  HR ρ (H.upT (iceAll H.t fam b (List.range H.next))) c (w.freeze ⟨B.blk, off, none⟩ n) := by
 have honly := freeze_only (w := w) B.blk off n
 have hget := iceAll_get (t := H.t) (fam := fam) (b := b) (l := List.range H.next) (fun x hx => Nat.lt_of_lt_of_le (List.mem_range.1 hx) hcap)
 have hback : ∀ x o', (iceAll H.t fam b (List.range H.next)).get x = some o' → ∃ o, H.t.get x = some o ∧ o'.fam = o.fam ∧ o'.mine = o.mine ∧ o'.okb = o.okb := fun x o' h => by
  rcases hget x with ⟨e, _, _⟩ | ⟨e, _⟩
  ·rw [e] at h
   cases hx : H.t.get x with
   | none => rw [hx] at h; cases h
   | some o =>
    rw [hx] at h
    cases h
    exact ⟨o, rfl, iceO_fam o, iceO_mine o, iceO_okb o⟩
  ·rw [e] at h
   exact ⟨o', h, rfl, rfl, rfl⟩
 have hfwd : ∀ x o, H.t.get x = some o → ∃ o', (iceAll H.t fam b (List.range H.next)).get x = some o' ∧ o'.fam = o.fam := fun x o h => by
  rcases hget x with ⟨e, _, _⟩ | ⟨e, _⟩
  ·exact ⟨iceO o, by rw [e, h]; rfl, iceO_fam o⟩
  ·exact ⟨o, by rw [e, h], rfl⟩
 have hself : H.upT (iceAll H.t fam b (List.range H.next)) = { H with t := iceAll H.t fam b (List.range H.next) } := by cases H; rfl
 rw [hself]
 refine ⟨hH.cap, fun x X hx => ⟨(hH.dom x X hx).1, by rw [honly.size]; exact (hH.dom x X hx).2⟩, fun x X o' hx ho' => ?_, fun x x' X X' hx hx' hne e => ?_, hH.glob, fun x X o' hx ho' hf hok => ?_⟩
 ·have ho' : (iceAll H.t fam b (List.range H.next)).get x = some o' := ho'
  rcases hget x with ⟨e, _, hic⟩ | ⟨e, hn⟩
  ·rw [e] at ho'
   cases hx0 : H.t.get x with
   | none => rw [hx0] at ho'; cases ho'
   | some o =>
    rw [hx0] at ho'
    cases ho'
    have hr := hH.rel x X o hx hx0
    cases hr with
    | cells hs he hf hle hown hR hok =>
     refine .cells ((honly.shape _).trans hs) he hf hle (fun e => ⟨(hown e).1, fun e' => by cases e'⟩) hR (fun e k hk => ?_)
     obtain ⟨v, v', h1, h2, h3⟩ := hok e k hk
     exact ⟨v, v', h1, (freeze_cell _ _ _ _).trans h2, h3⟩
    | obj hw hor hM =>
     exfalso
     rcases hic with rfl | ⟨h1, o2, h2, h3⟩
     ·rw [ho] at hx0; cases hx0
     ·rw [hx0] at h2; cases h2
      exact h1 h3.symm
  ·rw [e] at ho'
   have hni : ¬ iced H.t fam b x := by
    rcases hn (List.mem_range.2 (hH.dom x X hx).1) with h | h
    ·exact h
    ·rw [h] at ho'; cases ho'
   refine (hH.rel x X o' hx ho').keepOnly honly fun hblk => ?_
   have hne : x ≠ b := fun h => hni (.inl h)
   rcases hH.inj x b X B hx hB hne hblk with ⟨o1, o2, e1, e2, e3, e4⟩ | ⟨_, h2⟩
   ·rw [ho] at e2; cases e2
    exact hni (.inr ⟨fun h => e3 (e4.trans h), o1, e1, e4⟩)
   ·have := h2 _ ho
    cases this
 ·rcases hH.inj x x' X X' hx hx' hne e with ⟨o1, o2, e1, e2, e3, e4⟩ | ⟨h1, h2⟩
  ·obtain ⟨p1, q1, r1⟩ := hfwd x o1 e1
   obtain ⟨p2, q2, r2⟩ := hfwd x' o2 e2
   exact .inl ⟨p1, p2, q1, q2, by rw [r1]; exact e3, by rw [r1, r2]; exact e4⟩
  ·refine .inr ⟨fun o ho => ?_, fun o ho => ?_⟩
   ·obtain ⟨o2, a1, a2, a3, _⟩ := hback x o ho
    rw [a3]; exact h1 o2 a1
   ·obtain ⟨o2, a1, a2, a3, _⟩ := hback x' o ho
    rw [a3]; exact h2 o2 a1
 ·obtain ⟨o2, a1, a2, a3, a4⟩ := hback x o' ho'
  rw [a2]
  exact hH.mem x X o2 hx a1 (by rw [← a2]; exact hf) (by rw [← a4]; exact hok)
theorem cokOnly {b : Nat} (hok : COk c w) (ho : Only b w w') : COk c w' := ⟨fun x hx => by rw [ho.size]; exact hok.ml x hx, fun x hx => by rw [ho.size]; exact hok.rl x hx, hok.rm⟩
def haltIn (r : Result Next × Array Event) : Halt := match r.1 with
 | .halt h _ => h
 | _ => default
def tP : Program := { (default : Program) with types := #[{ (default : TypeInfo) with desc := .pointer 0 }] }
def tH (n : Int) : Halt := haltIn ((builtin (Builtin.ofNat 21) #[0, 0] 0 #[] #[.pointer (some ⟨0, 0, none⟩), .int .i64 n]).runT tP default #[])
def strOf (pt : TypeId) (a : Addr) (n : Nat) : Sem Value :=
 if Int.ofNat (n + 1) > IntKind.i64.max then .halt (tH 9223372036854775808) else
  (elemOf pt).bind fun e => (variablesAt a e (n + 1)).bind fun ok =>
   if ok then (loadBytes a .empty (n + 1)).bind fun s => (freeze a (n + 1)).bind fun _ => .pure (.string s) else .halt (tH 1)
theorem strOf_eq (pt it ty : TypeId) (a : Addr) (k : IntKind) (n : Nat) (cs : Array Bool) : builtin (Builtin.ofNat 21) #[pt, it] ty cs #[.pointer (some a), .int k (.ofNat (n + 1))] = (strOf pt a n).bind (fun r => Sem.pure (Next.value r)) := by kernel_rfl
theorem bstr_sound {o : Oper} (hty : TysOk P ty) (h : EvR H.ng ρ pf fr o) (hH : HR ρ H c w) (hok : COk c w) {pt it : TypeId} {x y : Operand} {b : Builtin} (hb : b = Builtin.ofNat 21) (ho : o.op = .call { callee := .builtin b, args := #[x, y], argTypes := #[pt, it] })
  {u n v : Value} (hx : peval H.ng pf x = some u) (hy : peval H.ng pf y = some n) {H' : PH} (hp : pbstr P ty H pt u n = some (v, H')) : Sound P ρ H.next v H' c w (execOp fr.eval o) := by
 have hu := h x (by simp [ho, Op.operands, Call.operands]) _ hx
 have hn := h y (by simp [ho, Op.operands, Call.operands]) _ hy
 have hterm : ∀ {m : Sem Value} {r : Value} {w' : World} {es : Array Event}, (∀ cs, builtin b #[pt, it] o.type cs #[fr.eval x, fr.eval y] = m.bind (fun r => Sem.pure (Next.value r))) → m.runT P w #[] = (.ok r w', es) → (execOp fr.eval o).runT P w #[] = (.ok (.value r) w', es) := fun {m r w' es} hm hr => by
  rw [builtin_term ho]
  have : Array.map fr.eval #[x, y] = #[fr.eval x, fr.eval y] := by simp
  rw [this, hm, runT_ok hr]
  rfl
 subst hb
 generalize hex : fr.eval x = x' at hu hterm
 generalize hey : fr.eval y = y' at hn hterm
 have h63 : IntKind.i64.max = 9223372036854775807 := by decide
 unfold pbstr at hp
 split at hp
 ·rename_i k
  split at hp
  ·cases hp
   cases hn
   refine Sound.pure hH hok (.string _) ?_
   cases hu with
   | ptr0 => exact hterm (m := Sem.pure (.string .empty)) (fun _ => by kernel_rfl) rfl
   | ptr hB => exact hterm (m := Sem.pure (.string .empty)) (fun _ => by kernel_rfl) rfl
  ·cases hp
 ·rename_i k n
  split at hp
  ·rename_i b off
   split at hp
   ·rename_i ti e e1
    split at hp
    ·rename_i t size el es fam ice e2
     cases e3 : (okVars P el e off (n + 1) size && (Nat.ble (off + (n + 1)) size && (Nat.ble H.next (2 ^ T.deep) && Nat.blt (n + 1) 1000000))) with
     | false => rw [e3] at hp; cases hp
     | true =>
      rw [e3] at hp
      simp only [cond_true] at hp
      simp only [Bool.and_eq_true] at e3
      obtain ⟨g1, g2, g3, g4⟩ := e3
      have g2 := Nat.le_of_ble_eq_true g2
      have g3 := Nat.le_of_ble_eq_true g3
      have g4 : n + 1 < 1000000 := Nat.le_of_ble_eq_true g4
      split at hp
      ·rename_i s eS
       simp only [Option.some.injEq, Prod.mk.injEq] at hp
       obtain ⟨rfl, rfl⟩ := hp
       cases hn
       cases hu with
       | ptr hB =>
        rename_i B
        have hr := hH.rel _ _ _ hB e2
        cases hr with
        | cells hs he hf hle hown hR hokk =>
         have hM := (hown rfl).1
         have honly := freeze_only (w := w) B.blk off (n + 1)
         have hrun : (strOf pt ⟨B.blk, off, none⟩ n).runT P w #[] = (.ok (.string s) (w.freeze ⟨B.blk, off, none⟩ (n + 1)), #[] ++ (rdEvents B.blk off (n + 1)).toArray) := by
          unfold strOf
          rw [if_neg (show ¬ (Int.ofNat (n + 1) > IntKind.i64.max) by rw [h63]; have : (Int.ofNat (n + 1)) = ((n + 1 : Nat) : Int) := rfl; rw [this]; omega)]
          refine (runT_ok (s := elemOf pt) (a := e) (w' := w) (es' := #[]) ?_).trans ?_
          ·unfold elemOf
           refine (runT_ok (runT_und (hty _ _ e1).2)).trans ?_
           rfl
          refine (runT_ok (run_varsAt hs g1 hle _)).trans ?_
          simp only [if_true]
          refine (runT_ok (run_loadBytes (hokk rfl) (n + 1) off .empty s #[] g2 eS)).trans ?_
          rfl
         refine ⟨ρ, c.M, c.R, .string s, _, _, .refl ρ, .string s, .inl (hterm (strOf_eq _ _ _ _ _ _) hrun), HR.ice hH hB e2 g3 off (n + 1), cokOnly hok honly, honly.guar hok hM, ?_, ?_, honly.fra hB⟩
         ·refine Foot.app (Foot.nil _ _ _) (RdIn.foot (fun ev hev => ?_) _)
          obtain ⟨q, hq, rfl⟩ := List.mem_map.1 (show ev ∈ (List.range (n + 1)).map _ from hev)
          exact ⟨_, rfl, rfl, .inl hM⟩
         ·refine Neut.app (fun e he => by simp at he) (RdIn.neut (c := c) (fun ev hev => ?_))
          obtain ⟨q, hq, rfl⟩ := List.mem_map.1 (show ev ∈ (List.range (n + 1)).map _ from hev)
          exact ⟨_, rfl, rfl, .inl hM⟩
      ·cases hp
    ·cases hp
   ·cases hp
  ·cases hp
 ·cases hp
theorem sliceData_sound {hn : Nat} {o : Oper} (h : EvR H.ng ρ pf fr o) (hH : HR ρ H c w) (hok : COk c w) {t : TypeId} {x : Operand} {b : Builtin} (hb : b = Builtin.ofNat 20) (ho : o.op = .call { callee := .builtin b, args := #[x], argTypes := #[t] })
  {u v : Value} (hx : peval H.ng pf x = some u) (hp : psliceData u = some v) : Sound P ρ hn v H c w (execOp fr.eval o) := by
 have hu := h x (by simp [ho, Op.operands, Call.operands]) _ hx
 have hterm : ∀ {m : Sem Value} {r : Value} {w' : World} {es : Array Event}, (∀ cs, builtin b #[t] o.type cs #[fr.eval x] = m.bind (fun r => Sem.pure (Next.value r))) → m.runT P w #[] = (.ok r w', es) → (execOp fr.eval o).runT P w #[] = (.ok (.value r) w', es) := fun {m r w' es} hm hr => by
  rw [builtin_term ho]
  have : Array.map fr.eval #[x] = #[fr.eval x] := by simp
  rw [this, hm, runT_ok hr]
  rfl
 subst hb
 generalize hex : fr.eval x = x' at hu hterm
 unfold psliceData at hp
 split at hp
 ·cases hp
  cases hu with
  | sl0 => exact Sound.pure hH hok .ptr0 (hterm (m := Sem.pure (.pointer none)) (fun _ => by kernel_rfl) rfl)
 ·rename_i a n cc
  cases e0 : (cond (Nat.beq cc big) (Nat.blt 0 n) (Nat.blt 0 cc)) with
  | false => rw [e0] at hp; cases hp
  | true =>
   rw [e0] at hp
   cases hp
   cases hu with
   | sl hB hc =>
    rename_i B c'
    have hne : c' ≠ 0 := by
     cases eb : Nat.beq cc big with
     | true =>
      rw [eb] at e0
      have e0 : 0 < n := Nat.le_of_ble_eq_true e0
      have eb := Nat.eq_of_beq_eq_true eb
      rcases hc with ⟨h1, h2⟩ | ⟨h1, h2, h3⟩
      ·exact absurd eb h1
      ·omega
     | false =>
      rw [eb] at e0
      have e0 : 0 < cc := Nat.le_of_ble_eq_true e0
      have eb := Nat.ne_of_beq_eq_false eb
      rcases hc with ⟨h1, h2⟩ | ⟨h1, h2, h3⟩
      ·omega
      ·exact absurd h1 eb
    cases c' with
    | zero => exact absurd rfl hne
    | succ k => exact Sound.pure hH hok (.ptr hB) (hterm (m := Sem.pure (.pointer (some { a with block := B.blk }))) (fun _ => by kernel_rfl) rfl)
 ·cases hp
end
end Go.Gd
namespace Go.Gd
open Go Go.Gw Go.Conc
inductive XK where
 | disable | enable | acquire | relMerge | read | write
 | konst (b : Bool) | same
 | load (k : IntKind) | store | add (k : IntKind) | or (k : IntKind) | cas (k : IntKind)
 | count | indexByte
 | semacq | semrel
 | noZero (ps rs : Array TypeId)
 | pureS (s : Array Value → Sem Value)
 | typeOf | typeV | valueOf | isNilV | elemV | setV
def XK.sem : XK → Array Value → Sem Value
 | .disable => fun _ => do mark .disable; pure Extern.Race.none_
 | .enable => fun _ => do mark .enable; pure Extern.Race.none_
 | .acquire => Extern.Race.marked .acquire
 | .relMerge => Extern.Race.marked .releaseMerge
 | .read => Extern.Race.marked .read
 | .write => Extern.Race.marked .write
 | .konst b => fun _ => pure (.bool b)
 | .same => Extern.AbiNoEscape.same
 | .load k => Extern.Atomic.loadT (.int k)
 | .store => Extern.Atomic.storeT
 | .add k => Extern.Atomic.update (Op.intArith .add) k true
 | .or k => Extern.Atomic.update (Op.intBits .or) k false
 | .cas k => Extern.Atomic.casT (.int k)
 | .count => Extern.BytealgCount.count
 | .indexByte => Extern.BytealgIndexByte.indexByte
 | .semacq => Extern.Sync.semacquire
 | .semrel => Extern.Sync.semrelease
 | .noZero ps rs => Extern.BytealgMakeNoZero.makeNoZero ps rs
 | .pureS s => s
 | .typeOf => Extern.ReflectliteType.typeOf
 | .typeV => Extern.ReflectliteValue.methodAny (Extern.ReflectliteValue.valueError "reflectlite.Value.Type" 0) (fun t _ _ _ => Extern.ReflectliteType.toType t)
 | .valueOf => fun args => Extern.ReflectliteValue.unpack (args.getD 0 (.tuple #[]))
 | .isNilV => Extern.ReflectliteValue.method (Extern.ReflectliteValue.valueError "reflectlite.Value.IsNil" 0) Extern.ReflectliteValue.isNil
 | .elemV => Extern.ReflectliteValue.method (Extern.ReflectliteValue.valueError "reflectlite.Value.Elem" 0) Extern.ReflectliteValue.elem
 | .setV => Extern.ReflectliteValue.set
structure XOne (P : Program) (f : FuncId) (k : XK) : Prop where
 ex : ∃ fn, P.funcs[f]? = some fn ∧ (fn.name == "runtime.NumGoroutine") = false ∧ fn.body.isNone = true ∧ Extern.findNext fn = none ∧ Extern.find fn = some k.sem
def XOk (P : Program) (xs : T XK) : Prop := ∀ f k, xs.get f = some k → XOne P f k
def XEv (f : FuncId) : Event := ⟨.mark (.extern f), false, true⟩
section
variable {P : Program} {ρ : Ren} {H : PH} {c : Ctx} {w : World} {pf : PF} {fr : Frame}
theorem run_entry {f : FuncId} {k : XK} (h : XOne P f k) {args : Array Value} {v : Value} {w' : World} {es' : Array Event} (hr : (k.sem args).runT P w #[XEv f] = (.ok v w', es')) : (callFunc f args).runT P w #[] = (.ok (.value v) w', es') := by
 obtain ⟨fn, h1, h2, h3, h4, h5⟩ := h.ex
 unfold callFunc
 refine (runT_ok (s := program) (a := P) (w' := w) (es' := #[]) rfl).trans ?_
 simp only [h1, h2, h3, if_true, Bool.false_eq_true, if_false]
 refine (runT_ok (s := mark (.extern f)) (a := ()) (w' := w) (es' := #[XEv f]) rfl).trans ?_
 simp only [h4, h5]
 refine (runT_ok hr).trans rfl
theorem seen_sync_fold (q₀ : FuncId → Bool) : ∀ (l : List Event) (q : Bool) (kept : Array Event), (∀ e ∈ l, e.sync = true ∧ ∀ g, e.loc ≠ .mark (.extern g)) → (l.foldl (seenStep q₀) (q, kept)).2 = kept ++ l.toArray
 | [], _, kept, _ => by simp
 | e :: l, q, kept, h => by
  obtain ⟨h1, h2⟩ := h e (by simp)
  have hs : seenStep q₀ (q, kept) e = (q, kept.push e) := by
   cases hl : e.loc with
   | mark m => cases m with
    | extern g => exact absurd hl (h2 g)
    | _ => simp [seenStep, hl, h1]
   | _ => simp [seenStep, hl, h1]
  rw [List.foldl_cons, hs, seen_sync_fold q₀ l q _ fun e he => h e (by simp [he])]
  simp
theorem seen_sync (fn f : FuncId) (es : Array Event) (h : ∀ e ∈ es, e.sync = true ∧ ∀ g, e.loc ≠ .mark (.extern g)) : seen P fn (#[XEv f] ++ es) = es := by
 rw [seen_def]
 obtain ⟨l⟩ := es
 have e1 : (#[XEv f] ++ ⟨l⟩ : Array Event).toList = XEv f :: l := by simp
 rw [e1, List.foldl_cons]
 have e2 : ∀ (q₀ : FuncId → Bool) (q : Bool), seenStep q₀ (q, #[]) (XEv f) = (q₀ f, #[]) := fun _ _ => rfl
 rw [e2, seen_sync_fold _ l _ _ fun e he => h e (by simpa using he)]
 simp
def SoundX (P : Program) (f : FuncId) (ρ : Ren) (hn : Nat) (v : Value) (H' : PH) (d' : Nat) (c : Ctx) (w : World) (s : Sem Value) : Prop :=
 ∃ (v' : Value) (w' : World) (es : Array Event), VR ρ v v' ∧ s.runT P w #[XEv f] = (.ok v' w', #[XEv f] ++ es) ∧ (∀ e ∈ es, e.sync = true ∧ ∀ g, e.loc ≠ .mark (.extern g)) ∧ HR ρ H' c w' ∧ COk c w' ∧ Guar c c.M c.R w w' ∧ Foot c w w' es ∧ deafBehind c.d es = d' ∧ Fra ρ ρ hn c c.M w w'
theorem SoundX.d {f : FuncId} {k : XK} (hx : XOne P f k) {hn : Nat} {v : Value} {H' : PH} {d' : Nat} {o : Oper} {cl' : Operand} {as : Array Operand} {ats : Array TypeId} (ho : o.op = .call { callee := .value cl', args := as, argTypes := ats }) (hf : fr.eval cl' = .func (.func f) #[] #[])
  (h : SoundX P f ρ hn v H' d' c w (k.sem (as.map fr.eval))) (fn : FuncId) : SoundD P fn ρ hn v H' d' c w (execOp fr.eval o) := by
 obtain ⟨v', w', es, a1, a2, a3, a4, a5, a6, a7, a8, a9⟩ := h
 have hterm : execOp fr.eval o = callFunc f (as.map fr.eval) := by
  unfold execOp
  rw [ho]
  simp only [resolve, hf]
  show callFunc f ((#[] ++ as.map fr.eval) ++ #[]) = _
  rw [Array.empty_append, Array.append_empty]
 refine ⟨ρ, c.M, c.R, v', w', #[XEv f] ++ es, .refl ρ, a1, .inl (by rw [hterm]; exact run_entry hx a2), a4, a5, a6, fun e he x hx' => ?_, by rw [seen_sync _ _ _ a3]; exact a8, a9⟩
 rcases Array.mem_append.1 he with he | he
 ·simp at he
  subst he
  cases hx'
 ·exact a7 e he x hx'
def pown1 (H : PH) (a : Addr) : Option Value :=
 match a.spot with
 | some _ => none
 | none => match H.t.get a.block with
  | some (.cells tr size _ _ true 0 true false) => cond (Nat.blt a.off size && Nat.ble size (2 ^ T.deep)) (tr.get a.off) none
  | _ => none
def pset1 (H : PH) (a : Addr) (v : Value) : PH :=
 match H.t.get a.block with
 | some (.cells tr size elem es true 0 true false) => H.upT (H.t.set a.block (.cells (tr.set a.off v) size elem es true 0 true false))
 | _ => H
theorem own1 (hH : HR ρ H c w) {a : Addr} {v : Value} (hp : pown1 H a = some v) {B : RB} (hB : ρ a.block = some B) :
  a.spot = none ∧ c.M B.blk ∧ (∃ v', w.cell? ⟨B.blk, a.off, none⟩ = some v' ∧ VR ρ v v') ∧ w.frozen? ⟨B.blk, a.off, none⟩ = false ∧ (w.shape? B.blk).isSome = true ∧
   ∀ u u', VR ρ u u' → HR ρ (pset1 H a u) c (w.setCell ⟨B.blk, a.off, none⟩ u') := by
 unfold pown1 at hp
 split at hp
 ·cases hp
 ·rename_i es
  split at hp
  ·rename_i tr size elem sz e1
   cases e2 : Nat.blt a.off size && Nat.ble size (2 ^ T.deep) with
   | false => rw [e2] at hp; cases hp
   | true =>
    rw [e2] at hp
    simp only [cond_true] at hp
    obtain ⟨q1, q2⟩ := Bool.and_eq_true_iff.1 e2
    have q1 : a.off < size := Nat.le_of_ble_eq_true q1
    have q2 := Nat.le_of_ble_eq_true q2
    have hb : a.block < 2 ^ T.deep := Nat.lt_of_lt_of_le (hH.dom _ B hB).1 hH.cap
    have hr := hH.rel _ _ _ hB e1
    cases hr with
    | cells hs he hfm hle' hown hR hok =>
     obtain ⟨u, u', g1, g2, g3⟩ := hok rfl a.off q1
     rw [hp] at g1
     cases g1
     refine ⟨es, (hown rfl).1, ⟨u', g2, g3⟩, (hown rfl).2 rfl a.off, by rw [hs]; rfl, fun x x' hx => ?_⟩
     unfold pset1
     rw [e1]
     exact hH.setCell hB e1 q1 (by omega) hx rfl rfl rfl (by show (H.t.set a.block _).get _ = _; rw [T.get_set _ _ _ _ hb, if_pos rfl]) (fun b' hb' => by show (H.t.set a.block _).get b' = _; rw [T.get_set _ _ _ _ hb, if_neg hb'])
  ·cases hp
end
end Go.Gd
end
