/- CastKnown holds: whatever the schedule, the chapter's examples have the results given there. Conditions: none beside those of the given statement (the machine of the model). -/
import Derived.Test.YtdhmjdkpfiaecaaGreatRun1
import Derived.Test.YtdhmjdkpfiaecaaGreatRun2
import Derived.Test.YtdhmjdkpfiaecaaGreatRun3
import Derived.Test.YtdhmjdkpfiaecaaGreatRun4
import Derived.Test.YtdhmjdkpfiaecaaGreatRun5
import Derived.Test.YtdhmjdkpfiaecaaGreatRun6
import Derived.Test.YtdhmjdkpfiaecaaGreatRun7
import Derived.Test.YtdhmjdkpfiaecaaGreatRun8
import Derived.Test.YtdhmjdkpfiaecaaGreatRun9
import Derived.Test.YtdhmjdkpfiaecaaGreatRun10
import Derived.Test.YtdhmjdkpfiaecaaGreatRun11
import Derived.Test.YtdhmjdkpfiaecaaGreatRun12
import Derived.Test.YtdhmjdkpfiaecaaGreatRun13
import Derived.Test.YtdhmjdkpfiaecaaGreatRun14
import Derived.Test.YtdhmjdkpfiaecaaGreatRun15
import Derived.Test.YtdhmjdkpfiaecaaGreatRun16
import Derived.Test.YtdhmjdkpfiaecaaGreatRun17
import Derived.Test.YtdhmjdkpfiaecaaGreatRun18
import Derived.Test.YtdhmjdkpfiaecaaGreatRun19
import Derived.Test.YtdhmjdkpfiaecaaGreatRun20
import Derived.Test.YtdhmjdkpfiaecaaGreatRun21
import Derived.Test.YtdhmjdkpfiaecaaGreatRun22
import Derived.Test.YtdhmjdkpfiaecaaGreatRun23
import Derived.Test.YtdhmjdkpfiaecaaGreatRun24
import Derived.Test.YtdhmjdkpfiaecaaGreatPart5
import Derived.KernelRfl
noncomputable section
namespace Go.Gd
open Go Go.Gw Go.Conc Go.Proofs
structure QQ(A B:T (List AM)):Prop where
 t: ∀Post,Ez C3 212 Post true A
 f: ∀Post main,Ez C3 212 Post main B
theorem QQ.run{A B:T (List AM)}{k:AM}(h:QQ A B)(hg:Nat.blt k.g (2^T.deep)=true)(hb:Iz C3 X3 B k 17=true):QQ (Ak A k) (Ak B k) :=
 ⟨fun Post=>(h.t Post).add hg (L3.ki (E:=JB) UW W2 (h.f Post true) E8 17 hb),fun Post main=>(h.f Post main).add hg (L3.ki (E:=JB) UW W2 (h.f Post main) E8 17 hb)⟩
theorem QQ.early{A B A' B':T (List AM)}{k:AM}(h:QQ A B)(h':QQ A' B')(hg:Nat.blt k.g (2^T.deep)=true)(hb:Iz C3 X3 B' k 17=true):QQ (Ak A k) (Ak B k) :=
 ⟨fun Post=>(h.t Post).add hg (L3.ki (E:=JB) UW W2 (h'.f Post true) E8 17 hb),fun Post main=>(h.f Post main).add hg (L3.ki (E:=JB) UW W2 (h'.f Post main) E8 17 hb)⟩
theorem QQ.AP{A B:T (List AM)}{k:AM}(h:QQ A B)(hg:Nat.blt k.g (2^T.deep)=true)(hb:QL C3 X3 B 212 17 17 60 k=true):QQ (Ak A k) (Ak B k) :=
 ⟨fun Post=>(h.t Post).add hg (L3.Zx UW W2 (h.f Post) hb),fun Post main=>(h.f Post main).add hg (L3.Zx UW W2 (h.f Post) hb)⟩
theorem QQ.AY{A B:T (List AM)}{k:AM}(h:QQ A B)(hg:Nat.blt k.g (2^T.deep)=true)(hb:Fb K3 X3 A B 212 17 17 CX 60 k=true):QQ (Ak A k) B :=
 ⟨fun Post=>(h.t Post).add hg (L3.ov lH W2 (h.t Post) (h.f Post false) hb),h.f⟩
theorem QQ.nar{A B:T (List AM)}{k:AM}(h:QQ A B)(hg:Nat.blt k.g (2^T.deep)=true)(hs:DS)(hr: ∀Post main,Reach C3.P 212 Post main JB (nS k) hs)(he:K6 C3 k (Us C3 X3 [9] hs)=true)(e:k.g=110):QQ (Ak A k) (Ak B k):=by
 have o: ∀Post main,L3 C3 212 Post main k.K:=fun Post main=>L3.ju UW (fn:=Tryz.f110) (body:=Tryz.f110.body.getD .skip) (by rw[e]; kernel_rfl) (by kernel_rfl) (s:=Us C3 X3 [9] hs) ((hr Post main).trans (LJ UW W2 E8 [9] _)).alone he;exact⟨fun Post=>(h.t Post).add hg (o Post true),fun Post main=>(h.f Post main).add hg (o Post main)⟩
theorem nO{Post:Value→World→Prop}{main:Bool}{l:List Nat}{s s':DS}{tm:List (Nat×Value)}{EV:List (Nat×AI)}(h:GD C3 X3 l s tm EV=some s'):Reach C3.P 212 Post main JB s s':=Z8 UW W2 E8 h
theorem qq0:QQ .nil .nil:=⟨fun _=>Ez.nil,fun _ _=>Ez.nil⟩
theorem qq1:QQ T1 F1:= .nar qq0 rfl (Cu k1 3 13 TL) (fun _ _=>((((((((((((((((((((((((((nO tX).trans (nO tW)).trans (nO tV)).trans (nO tU)).trans (nO tT)).trans (nO tS)).trans (nO tR)).trans (nO tQ)).trans (nO tP)).trans (nO tO)).trans (nO mW)).trans (nO mV)).trans (nO mU)).trans (nO mT)).trans (nO mS)).trans (nO mR)).trans (nO mQ)).trans (nO mP)).trans (nO mO)).trans (nO mN)).trans (nO mM)).trans (nO mL)).trans (nO mK)).trans (nO mJ)).trans (nO mI)).trans (nO mH))) ne1 rfl
theorem qq2:QQ T2 F2:= .nar qq1 rfl (Cu k2 3 13 TK) (fun _ _=>((((((((((((((((((((((((((nO tN).trans (nO tM)).trans (nO tL)).trans (nO tK)).trans (nO tJ)).trans (nO tI)).trans (nO tH)).trans (nO tG)).trans (nO tF)).trans (nO tE)).trans (nO mG)).trans (nO mF)).trans (nO mE)).trans (nO mD)).trans (nO mC)).trans (nO mB)).trans (nO mA)).trans (nO l9)).trans (nO l8)).trans (nO l6)).trans (nO l5)).trans (nO l4)).trans (nO l3)).trans (nO lz)).trans (nO ly)).trans (nO lx))) ne2 rfl
theorem qq3:QQ T3 F3:= .run qq2 rfl b3
theorem qq4:QQ T4 F4:= .run qq3 rfl b4
theorem qq5:QQ T5 F5:= .run qq4 rfl b5
theorem qq6:QQ T6 F6:= .run qq5 rfl b6
theorem qq7:QQ T7 F7:= .run qq6 rfl b7
theorem qq8:QQ T8 F8:= .run qq7 rfl b8
theorem qq9:QQ T9 F9:= .run qq8 rfl b9
theorem qq10:QQ T10 F10:= .run qq9 rfl b10
theorem qq11:QQ T11 F11:= .run qq10 rfl b11
theorem qq12:QQ T12 F12:= .run qq11 rfl b12
theorem qq13:QQ T13 F13:= .AP qq12 rfl b13
theorem qq14:QQ T14 F14:= .run qq13 rfl b14
theorem qq15:QQ T15 F15:= .run qq14 rfl b15
theorem qq16:QQ T16 F16:= .AP qq15 rfl b16
theorem qq17:QQ T17 F17:= .run qq16 rfl b17
theorem qq18:QQ T18 F18:= .run qq17 rfl b18
theorem qq19:QQ T19 F19:= .run qq18 rfl b19
theorem qq20:QQ T20 F20:= .AP qq19 rfl b20
theorem qq21:QQ T21 F21:= .run qq20 rfl b21
theorem qq22:QQ T22 F22:= .run qq21 rfl b22
theorem qq23:QQ T23 F23:= .AP qq22 rfl b23
theorem qq24:QQ T24 F24:= .run qq23 rfl b24
theorem qq25:QQ T25 F25:= .run qq24 rfl b25
theorem qq26:QQ T26 F26:= .AY qq25 rfl b26
theorem qq27:QQ T27 F27:= .run qq26 rfl b27
theorem qq28:QQ T28 F28:= .AP qq27 rfl b28
theorem qq29:QQ T29 F29:= .run qq28 rfl b29
theorem qq30:QQ T30 F30:= .AY qq29 rfl b30
theorem qq31:QQ T31 F31:= .AY qq30 rfl b31
theorem qq32:QQ T32 F32:= .AY qq31 rfl b32
theorem qq33:QQ T33 F33:= .AY qq32 rfl b33
theorem qq34:QQ T34 F34:= .run qq33 rfl b34
theorem qq35:QQ T35 F35:= .run qq34 rfl b35
theorem qq36:QQ T36 F36:= .early qq35 qq11 rfl b36
theorem qq37:QQ T37 F37:= .early qq36 qq11 rfl b37
theorem qq38:QQ T38 F38:= .run qq37 rfl b38
theorem qq39:QQ T39 F39:= .run qq38 rfl b39
theorem qq40:QQ T40 F40:= .AP qq39 rfl b40
theorem qq41:QQ T41 F41:= .run qq40 rfl b41
theorem qq42:QQ T42 F42:= .AY qq41 rfl b42
theorem qq43:QQ T43 F43:= .run qq42 rfl b43
theorem qq44:QQ T44 F44:= .run qq43 rfl b44
theorem qq45:QQ T45 F45:= .run qq44 rfl b45
theorem qq46:QQ T46 F46:= .run qq45 rfl b46
theorem qq47:QQ T47 F47:= .run qq46 rfl b47
theorem qq48:QQ T48 F48:= .AY qq47 rfl b48
theorem qq49:QQ T49 F49:= .AY qq48 rfl b49
theorem qq50:QQ T50 F50:= .AY qq49 rfl b50
theorem qq51:QQ T51 F51:= .AY qq50 rfl b51
theorem qq52:QQ T52 F52:= .AY qq51 rfl b52
theorem qq53:QQ T53 F53:= .AY qq52 rfl b53
theorem qq54:QQ T54 F54:= .AY qq53 rfl b54
theorem qq55:QQ T55 F55:= .run qq54 rfl b55
theorem qq56:QQ T56 F56:= .AY qq55 rfl b56
theorem qq57:QQ T57 F57:= .AY qq56 rfl b57
theorem qq58:QQ T58 F58:= .AY qq57 rfl b58
theorem qq59:QQ T59 F59:= .AY qq58 rfl b59
theorem qq60:QQ T60 F60:= .AY qq59 rfl b60
theorem qq61:QQ T61 F61:= .AY qq60 rfl b61
theorem qq62:QQ T62 F62:= .AY qq61 rfl b62
theorem qq63:QQ T63 F63:= .AY qq62 rfl b63
theorem qq64:QQ T64 F64:= .AY qq63 rfl b64
theorem qq65:QQ T65 F65:= .AP qq64 rfl b65
theorem qq66:QQ T66 F66:= .run qq65 rfl b66
theorem qq67:QQ T67 F67:= .AP qq66 rfl b67
theorem qq68:QQ T68 F68:= .run qq67 rfl b68
theorem qq69:QQ T69 F69:= .AY qq68 rfl b69
theorem qq70:QQ T70 F70:= .AY qq69 rfl b70
theorem qq71:QQ T71 F71:= .AY qq70 rfl b71
theorem qq72:QQ T72 F72:= .AY qq71 rfl b72
theorem qq73:QQ T73 F73:= .AY qq72 rfl b73
theorem lN(Post:Value→World→Prop):O3 C3.P 212 Post true ⟨.out [],⟨CN 3 Tryz.f3 (Tryz.f3.body.getD .skip) [] .normal,[],⟨0,.nil,0,.nil⟩,0⟩⟩ fun y=>Lp C3 (.bool true) y=true:=J5 lH W2 (qq73.t Post) (qq73.f Post false) bTop
end Go.Gd
namespace Go.Proofs.YtdhmjdkpfiaecaaGreat
open Go.ChangeShapes Go.WideShapes Go.RowKit Go.Gd Go.Conc
theorem cast_known:Rows.CastKnownSaid:=af fun Post=>lN Post
end Go.Proofs.YtdhmjdkpfiaecaaGreat
end
