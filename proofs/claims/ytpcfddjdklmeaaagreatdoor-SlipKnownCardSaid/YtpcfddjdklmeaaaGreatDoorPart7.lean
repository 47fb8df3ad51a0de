/- A part of the proof of SlipKnown: no condition of its own. -/
import Derived.Test.YtpcfddjdklmeaaaGreatDoorPart6
import Derived.KernelRfl
import Derived.Test.YtpcfddjdklmeaaaGreatDoorPart5
import Derived.Test.YtpcfddjdklmeaaaGreatDoorTie
import Derived.Test.YtpcfddjdklmeaaaGreatDoorCards
import Derived.Conc.HoldsTime
import Derived.ProofKit
import Derived.OpenShut
import Derived.LaidMore
import Derived.LaidHandle
import Derived.LaidLaws
import Derived.Lay
import Derived.ChangeSame
import Derived.ChangeVars
import Derived.SevenTiedAt
import Derived.Stop.Joined
noncomputable section
namespace Go.Gd
open Go Go.Gw Go.Conc Go.Proofs
theorem C3ok : CfgOk C3 := mkCfg_ok (by kernel_rfl) (by kernel_rfl) (by kernel_rfl) (by kernel_rfl)
theorem XOk.of_list {P : Program} {l : List (Nat × XK)} (h1 : l.all (fun p => Nat.blt p.1 (2 ^ T.deep)) = true) (h : ∀ p ∈ l, XOne P p.1 p.2) : XOk P (setPairs l .nil) := fun f k hk => by
 rcases setPairs_get (fun p hp => Nat.le_of_ble_eq_true (List.all_eq_true.1 h1 p hp)) hk with h' | h'
 ·exact h _ h'
 ·cases h'
theorem xo112 : XOne Tryz.prog 112 (.count) := ⟨⟨Tryz.f112, Tryz.func112, by kernel_rfl, by kernel_rfl, by kernel_rfl, by kernel_rfl⟩⟩
theorem xo185 : XOne Tryz.prog 185 (.indexByte) := ⟨⟨Tryz.f185, Tryz.func185, by kernel_rfl, by kernel_rfl, by kernel_rfl, by kernel_rfl⟩⟩
theorem xo198 : XOne Tryz.prog 198 (.disable) := ⟨⟨Tryz.f198, Tryz.func198, by kernel_rfl, by kernel_rfl, by kernel_rfl, by kernel_rfl⟩⟩
theorem xo199 : XOne Tryz.prog 199 (.cas .i32) := ⟨⟨Tryz.f199, Tryz.func199, by kernel_rfl, by kernel_rfl, by kernel_rfl, by kernel_rfl⟩⟩
theorem xo200 : XOne Tryz.prog 200 (.enable) := ⟨⟨Tryz.f200, Tryz.func200, by kernel_rfl, by kernel_rfl, by kernel_rfl, by kernel_rfl⟩⟩
theorem xo201 : XOne Tryz.prog 201 (.acquire) := ⟨⟨Tryz.f201, Tryz.func201, by kernel_rfl, by kernel_rfl, by kernel_rfl, by kernel_rfl⟩⟩
theorem xo203 : XOne Tryz.prog 203 (.relMerge) := ⟨⟨Tryz.f203, Tryz.func203, by kernel_rfl, by kernel_rfl, by kernel_rfl, by kernel_rfl⟩⟩
theorem xo204 : XOne Tryz.prog 204 (.add .i32) := ⟨⟨Tryz.f204, Tryz.func204, by kernel_rfl, by kernel_rfl, by kernel_rfl, by kernel_rfl⟩⟩
theorem xo206 : XOne Tryz.prog 206 (.load .u32) := ⟨⟨Tryz.f206, Tryz.func206, by kernel_rfl, by kernel_rfl, by kernel_rfl, by kernel_rfl⟩⟩
theorem xo224 : XOne Tryz.prog 224 (.store) := ⟨⟨Tryz.f224, Tryz.func224, by kernel_rfl, by kernel_rfl, by kernel_rfl, by kernel_rfl⟩⟩
theorem xo226 : XOne Tryz.prog 226 (.konst false) := ⟨⟨Tryz.f226, Tryz.func226, by kernel_rfl, by kernel_rfl, by kernel_rfl, by kernel_rfl⟩⟩
theorem xo231 : XOne Tryz.prog 231 (.read) := ⟨⟨Tryz.f231, Tryz.func231, by kernel_rfl, by kernel_rfl, by kernel_rfl, by kernel_rfl⟩⟩
theorem xo240 : XOne Tryz.prog 240 (.write) := ⟨⟨Tryz.f240, Tryz.func240, by kernel_rfl, by kernel_rfl, by kernel_rfl, by kernel_rfl⟩⟩
theorem xo157 : XOne Tryz.prog 157 (.same) := ⟨⟨Tryz.f157, Tryz.func157, by kernel_rfl, by kernel_rfl, by kernel_rfl, by kernel_rfl⟩⟩
theorem xo248 : XOne Tryz.prog 248 (.add .u64) := ⟨⟨Tryz.f248, Tryz.func248, by kernel_rfl, by kernel_rfl, by kernel_rfl, by kernel_rfl⟩⟩
theorem xo249 : XOne Tryz.prog 249 (.load .u64) := ⟨⟨Tryz.f249, Tryz.func249, by kernel_rfl, by kernel_rfl, by kernel_rfl, by kernel_rfl⟩⟩
theorem xo250 : XOne Tryz.prog 250 (.store) := ⟨⟨Tryz.f250, Tryz.func250, by kernel_rfl, by kernel_rfl, by kernel_rfl, by kernel_rfl⟩⟩
theorem xo251 : XOne Tryz.prog 251 (.cas .u64) := ⟨⟨Tryz.f251, Tryz.func251, by kernel_rfl, by kernel_rfl, by kernel_rfl, by kernel_rfl⟩⟩
theorem xo158 : XOne Tryz.prog 158 (.noZero (match Tryz.prog.funcs[158]? with | some f => f.params | none => #[]) (match Tryz.prog.funcs[158]? with | some f => f.resultTypes | none => #[])) := ⟨⟨Tryz.f158, Tryz.func158, by kernel_rfl, by kernel_rfl, by kernel_rfl, by kernel_rfl⟩⟩
theorem xo235 : XOne Tryz.prog 235 (.semrel) := ⟨⟨Tryz.f235, Tryz.func235, by kernel_rfl, by kernel_rfl, by kernel_rfl, by kernel_rfl⟩⟩
theorem xo241 : XOne Tryz.prog 241 (.semacq) := ⟨⟨Tryz.f241, Tryz.func241, by kernel_rfl, by kernel_rfl, by kernel_rfl, by kernel_rfl⟩⟩
theorem xo72 : XOne Tryz.prog 72 (.valueOf) := ⟨⟨Tryz.f72, Tryz.func72, by kernel_rfl, by kernel_rfl, by kernel_rfl, by kernel_rfl⟩⟩
theorem xo73 : XOne Tryz.prog 73 (.typeV) := ⟨⟨Tryz.f73, Tryz.func73, by kernel_rfl, by kernel_rfl, by kernel_rfl, by kernel_rfl⟩⟩
theorem xo74 : XOne Tryz.prog 74 (.isNilV) := ⟨⟨Tryz.f74, Tryz.func74, by kernel_rfl, by kernel_rfl, by kernel_rfl, by kernel_rfl⟩⟩
theorem xo108 : XOne Tryz.prog 108 (.typeOf) := ⟨⟨Tryz.f108, Tryz.func108, by kernel_rfl, by kernel_rfl, by kernel_rfl, by kernel_rfl⟩⟩
theorem xo109 : XOne Tryz.prog 109 (.elemV) := ⟨⟨Tryz.f109, Tryz.func109, by kernel_rfl, by kernel_rfl, by kernel_rfl, by kernel_rfl⟩⟩
theorem xo110 : XOne Tryz.prog 110 (.setV) := ⟨⟨Tryz.f110, Tryz.func110, by kernel_rfl, by kernel_rfl, by kernel_rfl, by kernel_rfl⟩⟩
theorem xo266 : XOne Tryz.prog 266 (.pureS (Extern.ReflectliteType.abiMethod fun t => do pure (.int .u8 (← Extern.Rtype.kind t)))) := ⟨⟨Tryz.f266, Tryz.func266, by kernel_rfl, by kernel_rfl, by kernel_rfl, by kernel_rfl⟩⟩
theorem xo279 : XOne Tryz.prog 279 (.pureS (Extern.ReflectliteType.method Extern.ReflectliteType.elem)) := ⟨⟨Tryz.f279, Tryz.func279, by kernel_rfl, by kernel_rfl, by kernel_rfl, by kernel_rfl⟩⟩
theorem xo280 : XOne Tryz.prog 280 (.pureS (Extern.ReflectliteType.relation "Implements" Extern.ReflectliteType.implements_)) := ⟨⟨Tryz.f280, Tryz.func280, by kernel_rfl, by kernel_rfl, by kernel_rfl, by kernel_rfl⟩⟩
theorem xo277 : XOne Tryz.prog 277 (.pureS (Extern.ReflectliteType.relation "AssignableTo" Extern.ReflectliteType.assignableTo)) := ⟨⟨Tryz.f277, Tryz.func277, by kernel_rfl, by kernel_rfl, by kernel_rfl, by kernel_rfl⟩⟩
def XAll (P : Program) : List (Nat × XK) → Prop
 | [] => True
 | p :: l => XOne P p.1 p.2 ∧ XAll P l
theorem XAll.mem {P : Program} : ∀ {l : List (Nat × XK)}, XAll P l → ∀ p ∈ l, XOne P p.1 p.2
 | [], _, p, hp => by cases hp
 | q :: l, h, p, hp => by
  rcases List.mem_cons.1 hp with rfl | hp
  ·exact h.1
  ·exact h.2.mem p hp
set_option maxRecDepth 100000 in
theorem X3ok : XOk Tryz.prog X3 := XOk.of_list (by kernel_rfl) (XAll.mem ⟨xo112, xo185, xo198, xo199, xo200, xo201, xo203, xo204, xo206, xo224, xo226, xo231, xo240, xo157, xo248, xo249, xo250, xo251, xo158, xo235, xo241, xo72, xo73, xo74, xo108, xo109, xo110, xo266, xo279, xo280, xo277, trivial⟩)
end Go.Gd
namespace Go.Proofs.YtpcfddjdklmeaaaGreatDoor
open Go.ChangeShapes Go.WideShapes Go.RowKit Go.Gd Go.Conc
theorem own : ownKnob Tryz.prog.godebug = none := by kernel_rfl
theorem et : Tryz.prog.globalNamed "errors.errorType" = some 0 := by kernel_rfl
theorem rt : (Tryz.prog.cutTypes.find? (·.1 == "internal/reflectlite.rtype")).map (·.2) = some 217 := by kernel_rfl
theorem oneRow : ((List.range 446).filter fun t => Tryz.prog.rowNamed t [101, 114, 114, 111, 114]) = [64] := by kernel_rfl
theorem nTypes : Tryz.prog.types.size = 446 := by kernel_rfl
def hErr : Value := .iface 217 (.agg #[.pointer (some ⟨4, 64, none⟩)])
theorem handle_of_laid {W : World} (h : laidMetH Tryz.prog Rows.slipKnownRow.laid W) : W.cell? ⟨0, 0, none⟩ = some hErr := by
 have h' : laidMet Tryz.prog [("unicode/utf8.acceptRanges", Rows.laid_unicode_utf8_acceptRanges), ("unicode/utf8.first", Rows.laid_unicode_utf8_first)] W ∧ handlesMet Tryz.prog [("errors.errorType", Rows.laid_errors_errorType)] W := by
  have e : laidMetH Tryz.prog Rows.slipKnownRow.laid W = (laidMet Tryz.prog [("unicode/utf8.acceptRanges", Rows.laid_unicode_utf8_acceptRanges), ("unicode/utf8.first", Rows.laid_unicode_utf8_first)] W ∧ handlesMet Tryz.prog [("errors.errorType", Rows.laid_errors_errorType)] W) := by kernel_rfl
  rw [← e]; exact h
 obtain ⟨name, u, ty, e1, e2, e3, e4, e5⟩ := h'.2 _ (List.mem_singleton.2 rfl)
 have en : name = [101, 114, 114, 111, 114] := (Option.some.inj e1).symm
 subst en
 obtain rfl := Option.some.inj (rt.symm.trans e2)
 have hm : ty ∈ (List.range 446).filter fun t => Tryz.prog.rowNamed t [101, 114, 114, 111, 114] := List.mem_filter.2 ⟨List.mem_range.2 (by rw [← nTypes]; exact e3), e4⟩
 rw [oneRow] at hm
 obtain rfl := List.mem_singleton.1 hm
 have hh : typeHandle Tryz.prog 64 = .pointer (some ⟨4, 64, none⟩) := by kernel_rfl
 rw [hh] at e5
 have := World.var?_cell et e5 0
 exact this.trans rfl
def start3 : PH := ⟨5, setPairs [(0, .cells (setFrom [hErr] .nil 0) 1 160 0 false 0 true false)] .nil, 5, .nil⟩
theorem row0 : ((begin Tryz.prog (fun _ _ => 0) default).world.heap[0]?).bind Obj.row? = some (#[.nilIface], 160) := by kernel_rfl
theorem big0 : decide (4 < (begin Tryz.prog (fun _ _ => 0) default).world.heap.size) = true := by kernel_rfl
theorem nGlob : Tryz.prog.globals.size = 4 := by kernel_rfl
theorem start_big {W : World} (hsh : W.ShapedOpen Tryz.prog) : 5 ≤ W.heap.size := by
 obtain ⟨o, o0, b1, _⟩ := hsh.2 4 (by rw [nGlob]; omega) (of_decide_eq_true big0)
 exact (Array.getElem?_eq_some_iff.1 b1).1
theorem start_HR {W : World} (hsh : W.ShapedOpen Tryz.prog) (hc : W.cell? ⟨0, 0, none⟩ = some hErr) : HR (ren0 5) start3 (ctx0 W) W := by
 obtain ⟨h1, h2⟩ := hsh
 obtain ⟨cs, a1, a2, _⟩ := h1 0 _ _ (by rw [nGlob]; omega) row0
 obtain ⟨o, o0, b1, _⟩ := h2 4 (by rw [nGlob]; omega) (of_decide_eq_true big0)
 have hsz : 4 < W.heap.size := (Array.getElem?_eq_some_iff.1 b1).1
 refine HR.start1 (by omega) (by unfold T.deep; omega) hsz ?_ hc (by kernel_rfl)
 unfold World.shape?
 rw [a1]
 have : cs.size = 1 := a2
 simp [this]
theorem keptBut_left {w w' : World} (h : Gd.Left w w') (may : MemPlace → Prop) : w.keptBut { w' with os := w.os } may := by
 refine ⟨rfl, h.output, fun i hi => ?_⟩
 show match w.heap[i]?, w'.heap[i]? with
  | some (.cells c t fr), some (.cells c' t' fr') => t' = t ∧ fr' = fr ∧ c'.size = c.size ∧ ∀ j : Nat, ¬ may (.cell i j) → c'[j]? = c[j]?
  | some (.map es clock), some (.map es' clock') => may (.map i) ∨ (es' = es ∧ clock' = clock)
  | o, o' => o' = o
 rw [h.heap i hi]
 cases hw : w.heap[i]? with
 | none => rfl
 | some o => cases o <;> first | exact ⟨rfl, rfl, rfl, fun _ _ => rfl⟩ | exact .inr ⟨rfl, rfl⟩ | rfl
set_option maxRecDepth 100000
section
variable {H : Type} {enc : TypeId × Value → H}
theorem post_left {W W' : World} (h : Gd.Left W W') {ds gs : List (DataW H)} {before : List MemPlace} (hW : DataW.Whole enc Tryz.prog Tryz.f3.params.toList Rows.slipKnownSpec.vars false W (#[] : Array Value).toList ds gs before) :
  Rows.slipKnownSpec.post enc Tryz.prog Tryz.f3 false true false false W #[] (.bool true) { W' with os := W.os } := by
 have hW' := hW
 obtain ⟨p, q, hA0, hV, rfl, _, _⟩ := hW
 have hA : DataW.TrodAll enc Tryz.prog W 0 (fun _ => true) true Tryz.f3.params.toList [] ds p := hA0
 rw [Tryz.params3] at hA
 obtain ⟨rfl, rfl⟩ : ds = [] ∧ p = [] := by
  cases ds with
  | nil => exact ⟨rfl, hA⟩
  | cons d r => exact absurd hA (by intro h; cases h)
 obtain ⟨rfl, rfl⟩ := trodVars_none hV
 exact ⟨[], [], _, [], [], [], hW', trodAll_mk1 (shut_bool Tryz.underlying4 _), by rw [Tryz.params3]; exact rfl, rfl, keptBut_left h _, fun h => by cases h⟩
theorem runs_of (hT : ∀ Post, PTo C3.P 373 Post true ⟨.out [], ⟨penter 3 Tryz.f3 (Tryz.f3.body.getD .skip) [] .normal, [], start3, 0⟩⟩ fun y => finTop C3 (.bool true) y = true) (os : Os) (F : Stop.Interp) :
  ∀ (w : World) (tape : Tape) (i : Input), w.os = os → (w.forCall tape i).ShapedOpen Tryz.prog → i.vars = [] → Input.okWide Tryz.prog (w.forCall tape i) .any w.heap.size 3 i → Rows.slipKnownRow.pre enc Tryz.prog Tryz.f3 (OpenSpec.ofChange Rows.slipKnownSpec) (w.forCall tape i).memory i.args →
   Rows.slipKnownRow.assume.holds Tryz.prog (lone (Frame.enter Tryz.prog 3 i.args .normal) [] (w.forCall tape i)) →
   ∃ N last o w' t', runNT Tryz.prog (N + 1) (solo (G (Frame.enter Tryz.prog 3 i.args .normal) []) (w.forCall tape i)) #[] = (.ended o w', t') ∧ runN Tryz.prog N (solo (G (Frame.enter Tryz.prog 3 i.args .normal) []) (w.forCall tape i)) = .next last ∧
    step Tryz.prog last = .ended o w' ∧ Conc.Good Tryz.prog (fun v w' => (OpenSpec.ofChange Rows.slipKnownSpec).postWith enc Tryz.prog Tryz.f3 F (outsideKept [.timePasses]) Rows.slipKnownRow.apart Rows.slipKnownRow.fresh Rows.slipKnownRow.handsOn (w.forCall tape i).blind i.args v w'.blind) last o w' t' := by
 intro w tape i _ hsh _ hok hpre _
 obtain ⟨_, _, _, fn', hfn', _, _, _, hsz, _⟩ := hok
 obtain rfl : fn' = Tryz.f3 := Option.some.inj (hfn'.symm.trans Tryz.func3)
 have hargs : i.args = #[] := by
  rw [Tryz.params3] at hsz
  exact Array.eq_empty_of_size_eq_zero hsz
 obtain ⟨⟨⟨ds, gs, before, hw, _⟩, hL⟩, _⟩ := hpre
 have hc : (w.forCall tape i).cell? ⟨0, 0, none⟩ = some hErr := (show (w.forCall tape i).memory.cell? ⟨0, 0, none⟩ = some hErr from handle_of_laid hL)
 rw [hargs] at hw ⊢
 have hw' := DataW.Whole.of_heap (w' := w.forCall tape i) (by rfl) hw
 have hfn : C3.fns.get 3 = some Tryz.f3 := by kernel_rfl
 have hbd : Tryz.f3.body = some (Tryz.f3.body.getD .skip) := by kernel_rfl
 obtain ⟨N, last, o, w1, t1, r1, r2, r3, v, e, ⟨e1, e2⟩, r4, r5, r6, r7⟩ := top_good (C := C3) C3ok hfn hbd (v0 := .bool true) rfl hT (fun x B h => by
  obtain ⟨h1, rfl⟩ := ren0_some h
  exact Nat.lt_of_lt_of_le h1 (start_big hsh)) (start_HR hsh hc)
 subst e1
 exact ⟨N, last, o, w1, t1, r1, r2, r3, _, e, postWith_blind (postWith_of_post (post_left e2 hw') ⟨0, by rw [e2.os]; rfl⟩), r4, r5, r6, r7⟩
end
end Go.Proofs.YtpcfddjdklmeaaaGreatDoor
namespace Go.Proofs.YtpcfddjdklmeaaaGreatDoor
open Go.ChangeShapes Go.WideShapes Go.RowKit Go.Gd Go.Conc
def plainLaid : List (String × DataW Unit) := [("unicode/utf8.acceptRanges", Rows.laid_unicode_utf8_acceptRanges), ("unicode/utf8.first", Rows.laid_unicode_utf8_first)]
def baseW (os : Os) : World :=
 let w0 := World.holding Tryz.prog os ⟨#[], #[], []⟩
 { w0 with heap := w0.heap.modify 0 fun
   | .cells _ t frozen => .cells #[hErr] t frozen
   | o => o }
def laidW (os : Os) : World := (baseW os).layVars Tryz.prog plainLaid
theorem laidW_os (os : Os) : (laidW os).os = os := (World.layVars_os _ _ _).trans rfl
theorem laidMet_base {P : Program} {w0 : World} {laid : List (String × DataW Unit)} (args : Array Value) (hf : w0.layFits P laid [] = true) (hi : w0.layIfaces P laid (w0.layVars P laid) = true) :
  laidMet P laid ((w0.layVars P laid).forCall (fun _ _ => 0) ⟨#[], args, []⟩).memory := by
 have e1 : (laid.filter fun x => (laid.map (·.1)).contains x.1) = laid := List.filter_eq_self.2 fun x hx => List.contains_iff_mem.2 (List.mem_map.2 ⟨x, hx, rfl⟩)
 have e2 : (laid.filter fun x => !(laid.map (·.1)).contains x.1) = [] := List.filter_eq_nil_iff.2 fun x hx => by rw [List.contains_iff_mem.2 (List.mem_map.2 ⟨x, hx, rfl⟩)]; simp
 have h : laidMet P laid (w0.layVars P laid) := laidMet_layVars (w0 := w0) (laid.map (·.1)) [] (by rw [e1]) (by rw [e1]; exact hf) (by rw [e1]; exact hi) (by rw [e2]; exact LaidIn.none)
 exact h.of_heap (by simp [World.memory, World.forCall, Input.heap])
theorem laidW_met (os : Os) : laidMetH Tryz.prog Rows.slipKnownRow.laid ((laidW os).forCall (fun _ _ => 0) ⟨#[], #[], []⟩).memory :=
 laidMetH_of_parts (by
  have e : (Rows.slipKnownRow.laid.filter fun x => x.2.handleName?.isNone) = plainLaid := by kernel_rfl
  rw [e]
  exact laidMet_base #[] (by kernel_rfl) (by kernel_rfl)) (by kernel_rfl)
theorem witness (os : Os) (H : Type) (enc : TypeId × Value → H) : ∃ (w : World) (tape : Tape) (i : Input), w.os = os ∧ (w.forCall tape i).Shaped Tryz.prog ∧ i.vars = [] ∧ Input.okWide Tryz.prog (w.forCall tape i) .any w.heap.size 3 i ∧
  Rows.slipKnownRow.pre enc Tryz.prog Tryz.f3 (OpenSpec.ofChange Rows.slipKnownSpec) (w.forCall tape i).memory i.args ∧ Rows.slipKnownRow.assume.holds Tryz.prog (lone (Frame.enter Tryz.prog 3 i.args .normal) [] (w.forCall tape i)) :=
 ⟨laidW os, fun _ _ => 0, ⟨#[], #[], []⟩, laidW_os os, World.shaped_of_ZipB (by kernel_rfl) (by kernel_rfl), rfl, (Input.okWide_of_okWideB (by kernel_rfl)).2,
  ⟨⟨ChangeSpec.pre_of_preB (fuel := 8) (by kernel_rfl), laidW_met os⟩, sizedMet_of_sizedB (fuel := 8) (by kernel_rfl)⟩, by
  show ({ calm := true } : Assume).holds _ _
  simp only [Assume.holds]
  exact ⟨by simp, fun _ _ _ _ => rfl, by simp, by simp, by simp⟩⟩
theorem slip_said (hT : ∀ Post, PTo C3.P 373 Post true ⟨.out [], ⟨penter 3 Tryz.f3 (Tryz.f3.body.getD .skip) [] .normal, [], start3, 0⟩⟩ fun y => finTop C3 (.bool true) y = true) : Rows.SlipKnownSaid :=
 OpenClaim.holds_of_wide_leaving_time 3 Tryz.f3 rfl rfl rfl rfl rfl rfl rfl ⟨rfl, rfl, rfl, rfl, rfl⟩ rfl rfl rfl rfl rfl (by kernel_rfl) Tryz.func3 (by kernel_rfl)
  (of_decide_eq_true (by kernel_rfl)) (by unfold Func.isWrapper; first | (rw [if_pos (by decide +kernel)]; kernel_rfl) | (rw [if_neg (by decide +kernel)]; exact ⟨rfl, rfl⟩))
  (fun os started H enc _ F => returnsInLeavingWide_of_good own started (witness os H enc) (runs_of hT os F))
theorem holds_tied_goes (Lk : Looks) {p : Pinned} {s : OpenSpec} {c : OpenClaim} (kinds : List LaidKind) (tests : Bool) (har : Bool × String) (lk : Bool)
  (hc : c.holds p s) (hw : c.wfByText s = true) (htie : c.laidByTextAt Lk p kinds tests)
  (hst : c.start = .entering) (hnb : c.noBlocks = false ∧ c.again = false) (hm : p.checked.prog.mainIs = some (har.1, har.2.toList)) (hn : (!har.1 && har.2.isEmpty && !lk) = false)
  (hl : ∀ f fn, p.checked.prog.funcNamed c.func = some f → p.checked.prog.funcs[f]? = some fn → lk = p.checked.prog.looks [] ∧ ∀ (j : Nat) t, fn.params[j]? = some t → p.checked.prog.wantsStandIn t = false)
  (hg : true = c.goesBy p.checked.prog) :
  Claim7.holds p (.plain s) { stood := { row := c, standIns := [], harness := har, looks := lk }, kinds := [], alts := [], goes := true, laidByText := true, laidKinds := kinds, laidTests := tests, laidLooks := Lk } := by
 have h6 : ∀ r : OpenClaim, Claim7.isSixth { stood := { row := r, standIns := [], harness := har, looks := lk }, kinds := [] } = false := fun r => by simpa [Claim7.isSixth] using hn
 exact ⟨Claim7.tied_new_at Lk kinds tests (Claim7.new_of_sixth hc har lk hst hnb hm (h6 c) hl) hw, fun D hD => (by cases hD), htie, (fun h => by cases h), hg⟩
theorem slip_card (hT : ∀ Post, PTo C3.P 373 Post true ⟨.out [], ⟨penter 3 Tryz.f3 (Tryz.f3.body.getD .skip) [] .normal, [], start3, 0⟩⟩ fun y => finTop C3 (.bool true) y = true) : Rows.SlipKnownCardSaid :=
 holds_tied_goes .later [.data, .handle, .pinned] true (true, "3e7a9c309c2543fc9907ee94700b41dcd72af81d3cf3067f297f85d71a1d8637") true (slip_said hT) (by kernel_rfl) slipKnown_row_tie rfl ⟨rfl, rfl⟩ (by kernel_rfl) rfl
  (fun f fn hf hfn => by
   obtain rfl : f = 3 := Option.some.inj ((show Tryz.prog.funcNamed "galloon/galloonlaw11.SlipKnown" = some 3 by kernel_rfl).symm.trans hf) |>.symm
   obtain rfl : fn = Tryz.f3 := (Option.some.inj (Tryz.func3.symm.trans hfn)).symm
   exact ⟨by kernel_rfl, fun j t ht => by
    rw [Tryz.params3] at ht
    simp at ht⟩)
  (by kernel_rfl)
end Go.Proofs.YtpcfddjdklmeaaaGreatDoor
end
