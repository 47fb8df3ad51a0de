/- SlipKnown holds: whatever the schedule, the chapter's examples have the results given there. Conditions: none beside those of the given statement (the machine of the model; errors.errorType laid as the card says). -/
import Derived.Test.YtpcfddjdklmeaaaGreatDoorRun1
import Derived.Test.YtpcfddjdklmeaaaGreatDoorRun2
import Derived.Test.YtpcfddjdklmeaaaGreatDoorRun3
import Derived.Test.YtpcfddjdklmeaaaGreatDoorRun4
import Derived.Test.YtpcfddjdklmeaaaGreatDoorRun5
import Derived.Test.YtpcfddjdklmeaaaGreatDoorRun6
import Derived.Test.YtpcfddjdklmeaaaGreatDoorRun7
import Derived.Test.YtpcfddjdklmeaaaGreatDoorRun8
import Derived.Test.YtpcfddjdklmeaaaGreatDoorRun9
import Derived.Test.YtpcfddjdklmeaaaGreatDoorRun10
import Derived.Test.YtpcfddjdklmeaaaGreatDoorRun11
import Derived.Test.YtpcfddjdklmeaaaGreatDoorRun12
import Derived.Test.YtpcfddjdklmeaaaGreatDoorPart7
import Derived.KernelRfl
noncomputable section
namespace Go.Gd
open Go Go.Gw Go.Conc Go.Proofs
theorem LL.steps12 {C : Cfg} {xs : T XK} {L : LL} (h : L.kids.length = 12) (h0 : L.Step C xs 0 L.kids) (h1 : L.Step C xs 1 L.kids) (h2 : L.Step C xs 2 L.kids) (h3 : L.Step C xs 3 L.kids) (h4 : L.Step C xs 4 L.kids) (h5 : L.Step C xs 5 L.kids) (h6 : L.Step C xs 6 L.kids) (h7 : L.Step C xs 7 L.kids) (h8 : L.Step C xs 8 L.kids) (h9 : L.Step C xs 9 L.kids) (h10 : L.Step C xs 10 L.kids) (h11 : L.Step C xs 11 L.kids) : ∀ i, i < L.kids.length → L.Step C xs i L.kids := fun i hi => by
 rw [h] at hi
 match i, hi with
 | 0, _ => exact h0
 | 1, _ => exact h1
 | 2, _ => exact h2
 | 3, _ => exact h3
 | 4, _ => exact h4
 | 5, _ => exact h5
 | 6, _ => exact h6
 | 7, _ => exact h7
 | 8, _ => exact h8
 | 9, _ => exact h9
 | 10, _ => exact h10
 | 11, _ => exact h11
 | n + 12, h => omega
section
variable (Post : Value → World → Prop)
theorem o1 (main : Bool) : KOk C3 373 Post main k1.K := by
 have g : ∀ {l : List Nat} {s s' : DS} {tm : List (Nat × Value)} {objs : List (Nat × PObj)}, seg C3 X3 l s tm objs = some s' → Reach C3.P 373 Post main someE s s' := fun h => seg_reach C3ok X3ok someE_ok h
 exact KOk.ofEnd C3ok (fn := Tryz.f162) (body := Tryz.f162.body.getD .skip) (by kernel_rfl) (by kernel_rfl) (s := runL C3 X3 [9] (nst 8 13 no25)) (((((((((((((((((((((((((((g nseg0).trans (g nseg1)).trans (g nseg2)).trans (g nseg3)).trans (g nseg4)).trans (g nseg5)).trans (g nseg6)).trans (g nseg7)).trans (g nseg8)).trans (g nseg9)).trans (g nseg10)).trans (g nseg11)).trans (g nseg12)).trans (g nseg13)).trans (g nseg14)).trans (g nseg15)).trans (g nseg16)).trans (g nseg17)).trans (g nseg18)).trans (g nseg19)).trans (g nseg20)).trans (g nseg21)).trans (g nseg22)).trans (g nseg23)).trans (g nseg24)).trans (g nseg25)).trans (runL_reach C3ok X3ok someE_ok [9] _)).alone nend
theorem t0 (main : Bool) : KsOk C3 373 Post main .nil := KsOk.nil
theorem t1 (main : Bool) : KsOk C3 373 Post main T1 := (t0 Post main).add rfl (o1 Post main)
theorem o2 (main : Bool) : KOk C3 373 Post main k2.K := KOk.byRun (E := someE) C3ok X3ok (t1 Post main) someE_ok 16 b2
theorem t2 (main : Bool) : KsOk C3 373 Post main T2 := (t1 Post main).add rfl (o2 Post main)
theorem o3 (main : Bool) : KOk C3 373 Post main k3.K := KOk.byRun (E := someE) C3ok X3ok (t2 Post main) someE_ok 16 b3
theorem t3 (main : Bool) : KsOk C3 373 Post main T3 := (t2 Post main).add rfl (o3 Post main)
theorem o4 (main : Bool) : KOk C3 373 Post main k4.K := KOk.byRun (E := someE) C3ok X3ok (t3 Post main) someE_ok 16 b4
theorem t4 (main : Bool) : KsOk C3 373 Post main T4 := (t3 Post main).add rfl (o4 Post main)
theorem o5 (main : Bool) : KOk C3 373 Post main k5.K := KOk.byRun (E := someE) C3ok X3ok (t4 Post main) someE_ok 16 b5
theorem t5 (main : Bool) : KsOk C3 373 Post main T5 := (t4 Post main).add rfl (o5 Post main)
theorem o6 (main : Bool) : KOk C3 373 Post main k6.K := KOk.byRun (E := someE) C3ok X3ok (t5 Post main) someE_ok 16 b6
theorem t6 (main : Bool) : KsOk C3 373 Post main T6 := (t5 Post main).add rfl (o6 Post main)
theorem o7 (main : Bool) : KOk C3 373 Post main k7.K := KOk.byRun (E := someE) C3ok X3ok (t6 Post main) someE_ok 16 b7
theorem t7 (main : Bool) : KsOk C3 373 Post main T7 := (t6 Post main).add rfl (o7 Post main)
theorem o8 (main : Bool) : KOk C3 373 Post main k8.K := KOk.byRun (E := someE) C3ok X3ok (t7 Post main) someE_ok 16 b8
theorem t8 (main : Bool) : KsOk C3 373 Post main T8 := (t7 Post main).add rfl (o8 Post main)
theorem o9 (main : Bool) : KOk C3 373 Post main k9.K := KOk.byGroup C3ok X3ok (t8 Post) b9
theorem t9 (main : Bool) : KsOk C3 373 Post main T9 := (t8 Post main).add rfl (o9 Post main)
theorem o10 (main : Bool) : KOk C3 373 Post main k10.K := KOk.byRun (E := someE) C3ok X3ok (t9 Post main) someE_ok 16 b10
theorem t10 (main : Bool) : KsOk C3 373 Post main T10 := (t9 Post main).add rfl (o10 Post main)
theorem o11 (main : Bool) : KOk C3 373 Post main k11.K := KOk.byRun (E := someE) C3ok X3ok (t10 Post main) someE_ok 16 b11
theorem t11 (main : Bool) : KsOk C3 373 Post main T11 := (t10 Post main).add rfl (o11 Post main)
theorem o12 (main : Bool) : KOk C3 373 Post main k12.K := KOk.byRun (E := someE) C3ok X3ok (t11 Post main) someE_ok 16 b12
theorem t12 (main : Bool) : KsOk C3 373 Post main T12 := (t11 Post main).add rfl (o12 Post main)
theorem o13 (main : Bool) : KOk C3 373 Post main k13.K := KOk.byGroup C3ok X3ok (t12 Post) b13
theorem t13 (main : Bool) : KsOk C3 373 Post main T13 := (t12 Post main).add rfl (o13 Post main)
theorem o14 (main : Bool) : KOk C3 373 Post main k14.K := KOk.byRun (E := someE) C3ok X3ok (t13 Post main) someE_ok 16 b14
theorem t14 (main : Bool) : KsOk C3 373 Post main T14 := (t13 Post main).add rfl (o14 Post main)
theorem o15 (main : Bool) : KOk C3 373 Post main k15.K := KOk.byRun (E := someE) C3ok X3ok (t14 Post main) someE_ok 16 b15
theorem t15 (main : Bool) : KsOk C3 373 Post main T15 := (t14 Post main).add rfl (o15 Post main)
theorem o16 (main : Bool) : KOk C3 373 Post main k16.K := KOk.byGroup C3ok X3ok (t15 Post) b16
theorem t16 (main : Bool) : KsOk C3 373 Post main T16 := (t15 Post main).add rfl (o16 Post main)
theorem o17 (main : Bool) : KOk C3 373 Post main k17.K := KOk.byRun (E := someE) C3ok X3ok (t16 Post main) someE_ok 16 b17
theorem t17 (main : Bool) : KsOk C3 373 Post main T17 := (t16 Post main).add rfl (o17 Post main)
theorem o18 (main : Bool) : KOk C3 373 Post main k18.K := KOk.byRun (E := someE) C3ok X3ok (t17 Post main) someE_ok 16 b18
theorem t18 (main : Bool) : KsOk C3 373 Post main T18 := (t17 Post main).add rfl (o18 Post main)
theorem o19 (main : Bool) : KOk C3 373 Post main k19.K := KOk.byRun (E := someE) C3ok X3ok (t18 Post main) someE_ok 16 b19
theorem t19 (main : Bool) : KsOk C3 373 Post main T19 := (t18 Post main).add rfl (o19 Post main)
theorem o20 (main : Bool) : KOk C3 373 Post main k20.K := KOk.byRun (E := someE) C3ok X3ok (t19 Post main) someE_ok 16 b20
theorem t20 (main : Bool) : KsOk C3 373 Post main T20 := (t19 Post main).add rfl (o20 Post main)
theorem o21 (main : Bool) : KOk C3 373 Post main k21.K := KOk.byGroup C3ok X3ok (t20 Post) b21
theorem t21 (main : Bool) : KsOk C3 373 Post main T21 := (t20 Post main).add rfl (o21 Post main)
theorem o22 (main : Bool) : KOk C3 373 Post main k22.K := KOk.byRun (E := someE) C3ok X3ok (t21 Post main) someE_ok 16 b22
theorem t22 (main : Bool) : KsOk C3 373 Post main T22 := (t21 Post main).add rfl (o22 Post main)
theorem o23 (main : Bool) : KOk C3 373 Post main k23.K := KOk.byRun (E := someE) C3ok X3ok (t22 Post main) someE_ok 16 b23
theorem t23 (main : Bool) : KsOk C3 373 Post main T23 := (t22 Post main).add rfl (o23 Post main)
theorem o24 (main : Bool) : KOk C3 373 Post main k24.K := KOk.byGroup C3ok X3ok (t23 Post) b24
theorem t24 (main : Bool) : KsOk C3 373 Post main T24 := (t23 Post main).add rfl (o24 Post main)
theorem o25 (main : Bool) : KOk C3 373 Post main k25.K := KOk.byRun (E := someE) C3ok X3ok (t24 Post main) someE_ok 16 b25
theorem t25 (main : Bool) : KsOk C3 373 Post main T25 := (t24 Post main).add rfl (o25 Post main)
theorem o26 (main : Bool) : KOk C3 373 Post main k26.K := KOk.byRun (E := someE) C3ok X3ok (t25 Post main) someE_ok 16 b26
theorem t26 (main : Bool) : KsOk C3 373 Post main T26 := (t25 Post main).add rfl (o26 Post main)
theorem o27 (main : Bool) : KOk C3 373 Post main k27.K := KOk.byGroup C3ok X3ok (t26 Post) b27
theorem t27 (main : Bool) : KsOk C3 373 Post main T27 := (t26 Post main).add rfl (o27 Post main)
theorem o28 (main : Bool) : KOk C3 373 Post main k28.K := KOk.byRun (E := someE) C3ok X3ok (t27 Post main) someE_ok 16 b28
theorem t28 (main : Bool) : KsOk C3 373 Post main T28 := (t27 Post main).add rfl (o28 Post main)
theorem o29 (main : Bool) : KOk C3 373 Post main k29.K := KOk.byRun (E := someE) C3ok X3ok (t28 Post main) someE_ok 16 b29
theorem t29 (main : Bool) : KsOk C3 373 Post main T29 := (t28 Post main).add rfl (o29 Post main)
theorem o30 (main : Bool) : KOk C3 373 Post main k30.K := KOk.byRun (E := someE) C3ok X3ok (t29 Post main) someE_ok 16 b30
theorem t30 (main : Bool) : KsOk C3 373 Post main T30 := (t29 Post main).add rfl (o30 Post main)
theorem o31 (main : Bool) : KOk C3 373 Post main k31.K := KOk.byRun (E := someE) C3ok X3ok (t30 Post main) someE_ok 16 b31
theorem t31 (main : Bool) : KsOk C3 373 Post main T31 := (t30 Post main).add rfl (o31 Post main)
theorem o32 (main : Bool) : KOk C3 373 Post main k32.K := KOk.byGroup C3ok X3ok (t31 Post) b32
theorem t32 (main : Bool) : KsOk C3 373 Post main T32 := (t31 Post main).add rfl (o32 Post main)
theorem o33 (main : Bool) : KOk C3 373 Post main k33.K := KOk.byRun (E := someE) C3ok X3ok (t32 Post main) someE_ok 16 b33
theorem t33 (main : Bool) : KsOk C3 373 Post main T33 := (t32 Post main).add rfl (o33 Post main)
theorem o34 (main : Bool) : KOk C3 373 Post main k34.K := KOk.byRun (E := someE) C3ok X3ok (t33 Post main) someE_ok 16 b34
theorem t34 (main : Bool) : KsOk C3 373 Post main T34 := (t33 Post main).add rfl (o34 Post main)
theorem o35 (main : Bool) : KOk C3 373 Post main k35.K := KOk.byGroup C3ok X3ok (t34 Post) b35
theorem t35 (main : Bool) : KsOk C3 373 Post main T35 := (t34 Post main).add rfl (o35 Post main)
theorem o36 (main : Bool) : KOk C3 373 Post main k36.K := KOk.byRun (E := someE) C3ok X3ok (t35 Post main) someE_ok 16 b36
theorem t36 (main : Bool) : KsOk C3 373 Post main T36 := (t35 Post main).add rfl (o36 Post main)
theorem o37 (main : Bool) : KOk C3 373 Post main k37.K := KOk.byRun (E := someE) C3ok X3ok (t36 Post main) someE_ok 16 b37
theorem t37 (main : Bool) : KsOk C3 373 Post main T37 := (t36 Post main).add rfl (o37 Post main)
theorem o38 (main : Bool) : KOk C3 373 Post main k38.K := KOk.byGroup C3ok X3ok (t37 Post) b38
theorem t38 (main : Bool) : KsOk C3 373 Post main T38 := (t37 Post main).add rfl (o38 Post main)
theorem o39 (main : Bool) : KOk C3 373 Post main k39.K := KOk.byRun (E := someE) C3ok X3ok (t38 Post main) someE_ok 16 b39
theorem t39 (main : Bool) : KsOk C3 373 Post main T39 := (t38 Post main).add rfl (o39 Post main)
theorem o40 (main : Bool) : KOk C3 373 Post main k40.K := KOk.byRun (E := someE) C3ok X3ok (t39 Post main) someE_ok 16 b40
theorem t40 (main : Bool) : KsOk C3 373 Post main T40 := (t39 Post main).add rfl (o40 Post main)
theorem o41 (main : Bool) : KOk C3 373 Post main k41.K := KOk.byRun (E := someE) C3ok X3ok (t40 Post main) someE_ok 16 b41
theorem t41 (main : Bool) : KsOk C3 373 Post main T41 := (t40 Post main).add rfl (o41 Post main)
theorem o42 (main : Bool) : KOk C3 373 Post main k42.K := KOk.byLoop C3ok X3ok (t41 Post) L42 l42a (LL.steps12 rfl l42s0 l42s1 l42s2 l42s3 l42s4 l42s5 l42s6 l42s7 l42s8 l42s9 l42s10 l42s11) l42b l42c
theorem t42 (main : Bool) : KsOk C3 373 Post main T42 := (t41 Post main).add rfl (o42 Post main)
theorem o43 (main : Bool) : KOk C3 373 Post main k43.K := KOk.byRun (E := someE) C3ok X3ok (t42 Post main) someE_ok 16 b43
theorem t43 (main : Bool) : KsOk C3 373 Post main T43 := (t42 Post main).add rfl (o43 Post main)
theorem o44 (main : Bool) : KOk C3 373 Post main k44.K := KOk.byRun (E := someE) C3ok X3ok (t43 Post main) someE_ok 16 b44
theorem t44 (main : Bool) : KsOk C3 373 Post main T44 := (t43 Post main).add rfl (o44 Post main)
theorem o45 (main : Bool) : KOk C3 373 Post main k45.K := KOk.byLoop C3ok X3ok (t44 Post) L45 l45a (LL.steps12 rfl l45s0 l45s1 l45s2 l45s3 l45s4 l45s5 l45s6 l45s7 l45s8 l45s9 l45s10 l45s11) l45b l45c
theorem t45 (main : Bool) : KsOk C3 373 Post main T45 := (t44 Post main).add rfl (o45 Post main)
theorem o46 (main : Bool) : KOk C3 373 Post main k46.K := KOk.byRun (E := someE) C3ok X3ok (t45 Post main) someE_ok 16 b46
theorem t46 (main : Bool) : KsOk C3 373 Post main T46 := (t45 Post main).add rfl (o46 Post main)
theorem o47 (main : Bool) : KOk C3 373 Post main k47.K := KOk.byRun (E := someE) C3ok X3ok (t46 Post main) someE_ok 16 b47
theorem t47 (main : Bool) : KsOk C3 373 Post main T47 := (t46 Post main).add rfl (o47 Post main)
theorem o48 (main : Bool) : KOk C3 373 Post main k48.K := KOk.byRun (E := someE) C3ok X3ok (t47 Post main) someE_ok 16 b48
theorem t48 (main : Bool) : KsOk C3 373 Post main T48 := (t47 Post main).add rfl (o48 Post main)
theorem o49 (main : Bool) : KOk C3 373 Post main k49.K := KOk.byLoop C3ok X3ok (t48 Post) L49 l49a (LL.steps12 rfl l49s0 l49s1 l49s2 l49s3 l49s4 l49s5 l49s6 l49s7 l49s8 l49s9 l49s10 l49s11) l49b l49c
theorem t49 (main : Bool) : KsOk C3 373 Post main T49 := (t48 Post main).add rfl (o49 Post main)
theorem o50 (main : Bool) : KOk C3 373 Post main k50.K := KOk.byRun (E := someE) C3ok X3ok (t49 Post main) someE_ok 16 b50
theorem t50 (main : Bool) : KsOk C3 373 Post main T50 := (t49 Post main).add rfl (o50 Post main)
theorem o51 (main : Bool) : KOk C3 373 Post main k51.K := KOk.byRun (E := someE) C3ok X3ok (t50 Post main) someE_ok 16 b51
theorem t51 (main : Bool) : KsOk C3 373 Post main T51 := (t50 Post main).add rfl (o51 Post main)
theorem o52 (main : Bool) : KOk C3 373 Post main k52.K := KOk.byLoop C3ok X3ok (t51 Post) L52 l52a (LL.steps12 rfl l52s0 l52s1 l52s2 l52s3 l52s4 l52s5 l52s6 l52s7 l52s8 l52s9 l52s10 l52s11) l52b l52c
theorem t52 (main : Bool) : KsOk C3 373 Post main T52 := (t51 Post main).add rfl (o52 Post main)
theorem o53 (main : Bool) : KOk C3 373 Post main k53.K := KOk.byRun (E := someE) C3ok X3ok (t52 Post main) someE_ok 16 b53
theorem t53 (main : Bool) : KsOk C3 373 Post main T53 := (t52 Post main).add rfl (o53 Post main)
theorem o54 (main : Bool) : KOk C3 373 Post main k54.K := KOk.byRun (E := someE) C3ok X3ok (t53 Post main) someE_ok 16 b54
theorem t54 (main : Bool) : KsOk C3 373 Post main T54 := (t53 Post main).add rfl (o54 Post main)
theorem o55 (main : Bool) : KOk C3 373 Post main k55.K := KOk.byRun (E := someE) C3ok X3ok (t54 Post main) someE_ok 16 b55
theorem t55 (main : Bool) : KsOk C3 373 Post main T55 := (t54 Post main).add rfl (o55 Post main)
theorem o56 (main : Bool) : KOk C3 373 Post main k56.K := KOk.byRun (E := someE) C3ok X3ok (t55 Post main) someE_ok 16 b56
theorem t56 (main : Bool) : KsOk C3 373 Post main T56 := (t55 Post main).add rfl (o56 Post main)
theorem o57 (main : Bool) : KOk C3 373 Post main k57.K := KOk.byRun (E := someE) C3ok X3ok (t56 Post main) someE_ok 16 b57
theorem t57 (main : Bool) : KsOk C3 373 Post main T57 := (t56 Post main).add rfl (o57 Post main)
theorem o58 (main : Bool) : KOk C3 373 Post main k58.K := KOk.byRun (E := someE) C3ok X3ok (t57 Post main) someE_ok 16 b58
theorem t58 (main : Bool) : KsOk C3 373 Post main T58 := (t57 Post main).add rfl (o58 Post main)
theorem o59 (main : Bool) : KOk C3 373 Post main k59.K := KOk.byRun (E := someE) C3ok X3ok (t58 Post main) someE_ok 16 b59
theorem t59 (main : Bool) : KsOk C3 373 Post main T59 := (t58 Post main).add rfl (o59 Post main)
theorem o60 (main : Bool) : KOk C3 373 Post main k60.K := KOk.byRun (E := someE) C3ok X3ok (t59 Post main) someE_ok 16 b60
theorem t60 (main : Bool) : KsOk C3 373 Post main T60 := (t59 Post main).add rfl (o60 Post main)
theorem o61 (main : Bool) : KOk C3 373 Post main k61.K := KOk.byRun (E := someE) C3ok X3ok (t60 Post main) someE_ok 16 b61
theorem t61 (main : Bool) : KsOk C3 373 Post main T61 := (t60 Post main).add rfl (o61 Post main)
theorem o62 (main : Bool) : KOk C3 373 Post main k62.K := KOk.byRun (E := someE) C3ok X3ok (t61 Post main) someE_ok 16 b62
theorem t62 (main : Bool) : KsOk C3 373 Post main T62 := (t61 Post main).add rfl (o62 Post main)
theorem o63 (main : Bool) : KOk C3 373 Post main k63.K := KOk.byRun (E := someE) C3ok X3ok (t62 Post main) someE_ok 16 b63
theorem t63 (main : Bool) : KsOk C3 373 Post main T63 := (t62 Post main).add rfl (o63 Post main)
theorem o64 (main : Bool) : KOk C3 373 Post main k64.K := KOk.byRun (E := someE) C3ok X3ok (t63 Post main) someE_ok 16 b64
theorem t64 (main : Bool) : KsOk C3 373 Post main T64 := (t63 Post main).add rfl (o64 Post main)
theorem o65 (main : Bool) : KOk C3 373 Post main k65.K := KOk.byRun (E := someE) C3ok X3ok (t64 Post main) someE_ok 16 b65
theorem t65 (main : Bool) : KsOk C3 373 Post main T65 := (t64 Post main).add rfl (o65 Post main)
theorem o66 (main : Bool) : KOk C3 373 Post main k66.K := KOk.byRun (E := someE) C3ok X3ok (t65 Post main) someE_ok 16 b66
theorem t66 (main : Bool) : KsOk C3 373 Post main T66 := (t65 Post main).add rfl (o66 Post main)
theorem o67 (main : Bool) : KOk C3 373 Post main k67.K := KOk.byRun (E := someE) C3ok X3ok (t66 Post main) someE_ok 16 b67
theorem t67 (main : Bool) : KsOk C3 373 Post main T67 := (t66 Post main).add rfl (o67 Post main)
theorem o68 (main : Bool) : KOk C3 373 Post main k68.K := KOk.byRun (E := someE) C3ok X3ok (t67 Post main) someE_ok 16 b68
theorem t68 (main : Bool) : KsOk C3 373 Post main T68 := (t67 Post main).add rfl (o68 Post main)
theorem o69 (main : Bool) : KOk C3 373 Post main k69.K := KOk.byRun (E := someE) C3ok X3ok (t68 Post main) someE_ok 16 b69
theorem t69 (main : Bool) : KsOk C3 373 Post main T69 := (t68 Post main).add rfl (o69 Post main)
theorem o70 (main : Bool) : KOk C3 373 Post main k70.K := KOk.byRun (E := someE) C3ok X3ok (t69 Post main) someE_ok 16 b70
theorem t70 (main : Bool) : KsOk C3 373 Post main T70 := (t69 Post main).add rfl (o70 Post main)
theorem o71 (main : Bool) : KOk C3 373 Post main k71.K := KOk.byRun (E := someE) C3ok X3ok (t70 Post main) someE_ok 16 b71
theorem t71 (main : Bool) : KsOk C3 373 Post main T71 := (t70 Post main).add rfl (o71 Post main)
theorem o72 (main : Bool) : KOk C3 373 Post main k72.K := KOk.byRun (E := someE) C3ok X3ok (t71 Post main) someE_ok 16 b72
theorem t72 (main : Bool) : KsOk C3 373 Post main T72 := (t71 Post main).add rfl (o72 Post main)
theorem o73 (main : Bool) : KOk C3 373 Post main k73.K := KOk.byRun (E := someE) C3ok X3ok (t72 Post main) someE_ok 16 b73
theorem t73 (main : Bool) : KsOk C3 373 Post main T73 := (t72 Post main).add rfl (o73 Post main)
theorem o74 (main : Bool) : KOk C3 373 Post main k74.K := KOk.byRun (E := someE) C3ok X3ok (t73 Post main) someE_ok 16 b74
theorem t74 (main : Bool) : KsOk C3 373 Post main T74 := (t73 Post main).add rfl (o74 Post main)
theorem o75 (main : Bool) : KOk C3 373 Post main k75.K := KOk.byRun (E := someE) C3ok X3ok (t74 Post main) someE_ok 16 b75
theorem t75 (main : Bool) : KsOk C3 373 Post main T75 := (t74 Post main).add rfl (o75 Post main)
theorem o76 (main : Bool) : KOk C3 373 Post main k76.K := KOk.byRun (E := someE) C3ok X3ok (t75 Post main) someE_ok 16 b76
theorem t76 (main : Bool) : KsOk C3 373 Post main T76 := (t75 Post main).add rfl (o76 Post main)
theorem o77 (main : Bool) : KOk C3 373 Post main k77.K := KOk.byRun (E := someE) C3ok X3ok (t76 Post main) someE_ok 16 b77
theorem t77 (main : Bool) : KsOk C3 373 Post main T77 := (t76 Post main).add rfl (o77 Post main)
theorem o78 (main : Bool) : KOk C3 373 Post main k78.K := KOk.byRun (E := someE) C3ok X3ok (t77 Post main) someE_ok 16 b78
theorem t78 (main : Bool) : KsOk C3 373 Post main T78 := (t77 Post main).add rfl (o78 Post main)
theorem o79 (main : Bool) : KOk C3 373 Post main k79.K := KOk.byRun (E := someE) C3ok X3ok (t78 Post main) someE_ok 16 b79
theorem t79 (main : Bool) : KsOk C3 373 Post main T79 := (t78 Post main).add rfl (o79 Post main)
theorem o80 (main : Bool) : KOk C3 373 Post main k80.K := KOk.byRun (E := someE) C3ok X3ok (t79 Post main) someE_ok 16 b80
theorem t80 (main : Bool) : KsOk C3 373 Post main T80 := (t79 Post main).add rfl (o80 Post main)
theorem o81 (main : Bool) : KOk C3 373 Post main k81.K := KOk.byRun (E := someE) C3ok X3ok (t80 Post main) someE_ok 16 b81
theorem t81 (main : Bool) : KsOk C3 373 Post main T81 := (t80 Post main).add rfl (o81 Post main)
theorem o82 (main : Bool) : KOk C3 373 Post main k82.K := KOk.byRun (E := someE) C3ok X3ok (t81 Post main) someE_ok 16 b82
theorem t82 (main : Bool) : KsOk C3 373 Post main T82 := (t81 Post main).add rfl (o82 Post main)
theorem o83 (main : Bool) : KOk C3 373 Post main k83.K := KOk.byRun (E := someE) C3ok X3ok (t82 Post main) someE_ok 16 b83
theorem t83 (main : Bool) : KsOk C3 373 Post main T83 := (t82 Post main).add rfl (o83 Post main)
theorem o84 (main : Bool) : KOk C3 373 Post main k84.K := KOk.byRun (E := someE) C3ok X3ok (t83 Post main) someE_ok 16 b84
theorem t84 (main : Bool) : KsOk C3 373 Post main T84 := (t83 Post main).add rfl (o84 Post main)
theorem o85 (main : Bool) : KOk C3 373 Post main k85.K := KOk.byRun (E := someE) C3ok X3ok (t84 Post main) someE_ok 16 b85
theorem t85 (main : Bool) : KsOk C3 373 Post main T85 := (t84 Post main).add rfl (o85 Post main)
theorem o86 (main : Bool) : KOk C3 373 Post main k86.K := KOk.byRun (E := someE) C3ok X3ok (t85 Post main) someE_ok 16 b86
theorem t86 (main : Bool) : KsOk C3 373 Post main T86 := (t85 Post main).add rfl (o86 Post main)
theorem o87 (main : Bool) : KOk C3 373 Post main k87.K := KOk.byRun (E := someE) C3ok X3ok (t86 Post main) someE_ok 16 b87
theorem t87 (main : Bool) : KsOk C3 373 Post main T87 := (t86 Post main).add rfl (o87 Post main)
theorem o88 (main : Bool) : KOk C3 373 Post main k88.K := KOk.byRun (E := someE) C3ok X3ok (t87 Post main) someE_ok 16 b88
theorem t88 (main : Bool) : KsOk C3 373 Post main T88 := (t87 Post main).add rfl (o88 Post main)
theorem o89 (main : Bool) : KOk C3 373 Post main k89.K := KOk.byRun (E := someE) C3ok X3ok (t88 Post main) someE_ok 16 b89
theorem t89 (main : Bool) : KsOk C3 373 Post main T89 := (t88 Post main).add rfl (o89 Post main)
theorem o90 (main : Bool) : KOk C3 373 Post main k90.K := KOk.byRun (E := someE) C3ok X3ok (t89 Post main) someE_ok 16 b90
theorem t90 (main : Bool) : KsOk C3 373 Post main T90 := (t89 Post main).add rfl (o90 Post main)
theorem o91 (main : Bool) : KOk C3 373 Post main k91.K := KOk.byRun (E := someE) C3ok X3ok (t90 Post main) someE_ok 16 b91
theorem t91 (main : Bool) : KsOk C3 373 Post main T91 := (t90 Post main).add rfl (o91 Post main)
theorem o92 (main : Bool) : KOk C3 373 Post main k92.K := KOk.byRun (E := someE) C3ok X3ok (t91 Post main) someE_ok 16 b92
theorem t92 (main : Bool) : KsOk C3 373 Post main T92 := (t91 Post main).add rfl (o92 Post main)
theorem o93 (main : Bool) : KOk C3 373 Post main k93.K := KOk.byRun (E := someE) C3ok X3ok (t92 Post main) someE_ok 16 b93
theorem t93 (main : Bool) : KsOk C3 373 Post main T93 := (t92 Post main).add rfl (o93 Post main)
theorem o94 (main : Bool) : KOk C3 373 Post main k94.K := KOk.byRun (E := someE) C3ok X3ok (t93 Post main) someE_ok 16 b94
theorem t94 (main : Bool) : KsOk C3 373 Post main T94 := (t93 Post main).add rfl (o94 Post main)
theorem o95 (main : Bool) : KOk C3 373 Post main k95.K := KOk.byRun (E := someE) C3ok X3ok (t94 Post main) someE_ok 16 b95
theorem t95 (main : Bool) : KsOk C3 373 Post main T95 := (t94 Post main).add rfl (o95 Post main)
theorem o96 (main : Bool) : KOk C3 373 Post main k96.K := KOk.byRun (E := someE) C3ok X3ok (t95 Post main) someE_ok 16 b96
theorem t96 (main : Bool) : KsOk C3 373 Post main T96 := (t95 Post main).add rfl (o96 Post main)
theorem o97 (main : Bool) : KOk C3 373 Post main k97.K := KOk.byRun (E := someE) C3ok X3ok (t96 Post main) someE_ok 16 b97
theorem t97 (main : Bool) : KsOk C3 373 Post main T97 := (t96 Post main).add rfl (o97 Post main)
theorem o98 (main : Bool) : KOk C3 373 Post main k98.K := KOk.byRun (E := someE) C3ok X3ok (t97 Post main) someE_ok 16 b98
theorem t98 (main : Bool) : KsOk C3 373 Post main T98 := (t97 Post main).add rfl (o98 Post main)
theorem o99 (main : Bool) : KOk C3 373 Post main k99.K := KOk.byRun (E := someE) C3ok X3ok (t98 Post main) someE_ok 16 b99
theorem t99 (main : Bool) : KsOk C3 373 Post main T99 := (t98 Post main).add rfl (o99 Post main)
theorem o100 (main : Bool) : KOk C3 373 Post main k100.K := KOk.byLoop C3ok X3ok (t99 Post) L100 l100a (LL.steps12 rfl l100s0 l100s1 l100s2 l100s3 l100s4 l100s5 l100s6 l100s7 l100s8 l100s9 l100s10 l100s11) l100b l100c
theorem t100 (main : Bool) : KsOk C3 373 Post main T100 := (t99 Post main).add rfl (o100 Post main)
theorem o101 (main : Bool) : KOk C3 373 Post main k101.K := KOk.byRun (E := someE) C3ok X3ok (t100 Post main) someE_ok 16 b101
theorem t101 (main : Bool) : KsOk C3 373 Post main T101 := (t100 Post main).add rfl (o101 Post main)
theorem o102 (main : Bool) : KOk C3 373 Post main k102.K := KOk.byRun (E := someE) C3ok X3ok (t101 Post main) someE_ok 16 b102
theorem t102 (main : Bool) : KsOk C3 373 Post main T102 := (t101 Post main).add rfl (o102 Post main)
theorem o103 (main : Bool) : KOk C3 373 Post main k103.K := KOk.byRun (E := someE) C3ok X3ok (t102 Post main) someE_ok 16 b103
theorem t103 (main : Bool) : KsOk C3 373 Post main T103 := (t102 Post main).add rfl (o103 Post main)
theorem o104 (main : Bool) : KOk C3 373 Post main k104.K := KOk.byRun (E := someE) C3ok X3ok (t103 Post main) someE_ok 16 b104
theorem t104 (main : Bool) : KsOk C3 373 Post main T104 := (t103 Post main).add rfl (o104 Post main)
theorem o105 (main : Bool) : KOk C3 373 Post main k105.K := KOk.byRun (E := someE) C3ok X3ok (t104 Post main) someE_ok 16 b105
theorem t105 (main : Bool) : KsOk C3 373 Post main T105 := (t104 Post main).add rfl (o105 Post main)
theorem o106 (main : Bool) : KOk C3 373 Post main k106.K := KOk.byRun (E := someE) C3ok X3ok (t105 Post main) someE_ok 16 b106
theorem t106 (main : Bool) : KsOk C3 373 Post main T106 := (t105 Post main).add rfl (o106 Post main)
theorem o107 (main : Bool) : KOk C3 373 Post main k107.K := KOk.byRun (E := someE) C3ok X3ok (t106 Post main) someE_ok 16 b107
theorem t107 (main : Bool) : KsOk C3 373 Post main T107 := (t106 Post main).add rfl (o107 Post main)
theorem o108 (main : Bool) : KOk C3 373 Post main k108.K := KOk.byRun (E := someE) C3ok X3ok (t107 Post main) someE_ok 16 b108
theorem t108 (main : Bool) : KsOk C3 373 Post main T108 := (t107 Post main).add rfl (o108 Post main)
theorem o109 (main : Bool) : KOk C3 373 Post main k109.K := KOk.byRun (E := someE) C3ok X3ok (t108 Post main) someE_ok 16 b109
theorem t109 (main : Bool) : KsOk C3 373 Post main T109 := (t108 Post main).add rfl (o109 Post main)
theorem o110 (main : Bool) : KOk C3 373 Post main k110.K := KOk.byRun (E := someE) C3ok X3ok (t109 Post main) someE_ok 16 b110
theorem t110 (main : Bool) : KsOk C3 373 Post main T110 := (t109 Post main).add rfl (o110 Post main)
theorem o111 (main : Bool) : KOk C3 373 Post main k111.K := KOk.byRun (E := someE) C3ok X3ok (t110 Post main) someE_ok 16 b111
theorem t111 (main : Bool) : KsOk C3 373 Post main T111 := (t110 Post main).add rfl (o111 Post main)
theorem o112 (main : Bool) : KOk C3 373 Post main k112.K := KOk.byRun (E := someE) C3ok X3ok (t111 Post main) someE_ok 16 b112
theorem t112 (main : Bool) : KsOk C3 373 Post main T112 := (t111 Post main).add rfl (o112 Post main)
theorem o113 (main : Bool) : KOk C3 373 Post main k113.K := KOk.byRun (E := someE) C3ok X3ok (t112 Post main) someE_ok 16 b113
theorem t113 (main : Bool) : KsOk C3 373 Post main T113 := (t112 Post main).add rfl (o113 Post main)
theorem o114 (main : Bool) : KOk C3 373 Post main k114.K := KOk.byRun (E := someE) C3ok X3ok (t113 Post main) someE_ok 16 b114
theorem t114 (main : Bool) : KsOk C3 373 Post main T114 := (t113 Post main).add rfl (o114 Post main)
theorem o115 (main : Bool) : KOk C3 373 Post main k115.K := KOk.byRun (E := someE) C3ok X3ok (t114 Post main) someE_ok 16 b115
theorem t115 (main : Bool) : KsOk C3 373 Post main T115 := (t114 Post main).add rfl (o115 Post main)
theorem o116 (main : Bool) : KOk C3 373 Post main k116.K := KOk.byRun (E := someE) C3ok X3ok (t115 Post main) someE_ok 16 b116
theorem t116 (main : Bool) : KsOk C3 373 Post main T116 := (t115 Post main).add rfl (o116 Post main)
theorem o117 (main : Bool) : KOk C3 373 Post main k117.K := KOk.byRun (E := someE) C3ok X3ok (t116 Post main) someE_ok 16 b117
theorem t117 (main : Bool) : KsOk C3 373 Post main T117 := (t116 Post main).add rfl (o117 Post main)
theorem o118 (main : Bool) : KOk C3 373 Post main k118.K := KOk.byRun (E := someE) C3ok X3ok (t117 Post main) someE_ok 16 b118
theorem t118 (main : Bool) : KsOk C3 373 Post main T118 := (t117 Post main).add rfl (o118 Post main)
theorem o119 (main : Bool) : KOk C3 373 Post main k119.K := KOk.byRun (E := someE) C3ok X3ok (t118 Post main) someE_ok 16 b119
theorem t119 (main : Bool) : KsOk C3 373 Post main T119 := (t118 Post main).add rfl (o119 Post main)
theorem o120 (main : Bool) : KOk C3 373 Post main k120.K := KOk.byRun (E := someE) C3ok X3ok (t119 Post main) someE_ok 16 b120
theorem t120 (main : Bool) : KsOk C3 373 Post main T120 := (t119 Post main).add rfl (o120 Post main)
theorem o121 (main : Bool) : KOk C3 373 Post main k121.K := KOk.byRun (E := someE) C3ok X3ok (t120 Post main) someE_ok 16 b121
theorem t121 (main : Bool) : KsOk C3 373 Post main T121 := (t120 Post main).add rfl (o121 Post main)
end
end Go.Gd
namespace Go.Proofs.YtpcfddjdklmeaaaGreatDoor
open Go.ChangeShapes Go.WideShapes Go.RowKit Go.Gd Go.Conc
theorem top : gexp C3 X3 T121 373 13 16 (finTop C3 (.bool true)) 60 ⟨.out [], ⟨penter 3 Tryz.f3 (Tryz.f3.body.getD .skip) [] .normal, [], start3, 0⟩⟩ = true := by kernel_rfl
theorem slip_known : Rows.SlipKnownCardSaid := slip_card fun Post => gexp_sound C3ok X3ok (t121 Post true) (t121 Post false) top
end Go.Proofs.YtpcfddjdklmeaaaGreatDoor
end
