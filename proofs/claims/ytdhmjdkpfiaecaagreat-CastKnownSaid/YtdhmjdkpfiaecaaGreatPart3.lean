/- A part of the proof of CastKnown: no condition of its own. -/
import Derived.Test.YtdhmjdkpfiaecaaGreatPart2
noncomputable section
namespace Go.Gd
open Go Go.Gw Go.Conc
section
variable{P:Program}{ty:DD}{ρ:Ah}{pf:PF}{fr:Frame}{H:PH}{c:Ctx}{w:World}
def MM(ty:DD)(H:PH)(t:TypeId)(a:Addr)(v:Value):Option PH :=
 match Eg ty t with
 |some n=>match a.spot with
  |none=>match H.t.get a.block with
   |some (.cells tr size elem es true fam true false)=>match H.BF.get fam with
    |some l=>cond (!Nat.beq fam 0&&(Nat.beq v.cells.toList.length n&&(v.cells.toList.all Em&&(Nat.ble (a.off+v.cells.toList.length) size&&(Nat.ble size (2^T.deep)&&l.any (Nat.beq a.block))))))
     (some (H.Ho ((BH H.t a.off l).set a.block (.cells (setFrom v.cells.toList tr a.off) size elem es true fam true false)))) none
    |none=>none
   |_=>none
  |_=>none
 |none=>none
theorem SZ{hn:Nat}{o:Oper}(A7:A8 P ty)(h:CJ H.ng ρ pf fr o)(hH:HR ρ H c w)(AO:CK c w){t:TypeId}{x y:Operand}(ho:o.op= .store t x y){v:Value}{a:Addr}(hx:AQ H.ng pf x=some (.pointer (some a)))(hy:AQ H.ng pf y=some v){H':PH}(hp:MM ty H t a v=some H') :
  Sound P ρ hn undef H' c w (execOp fr.eval o):=by
 have vF:=h x (by simp[ho,Op.operands]) _ hx;have rJ:=h y (by simp[ho,Op.operands]) v hy;generalize C6:fr.eval x=u' at vF;cases vF with
 |ptr hB =>
  rename_i B;unfold MM at hp;split at hp
  ·rename_i n e1;split at hp
   ·rename_i e2;split at hp
    ·rename_i tr size elem es fam e3;split at hp
     ·rename_i l e4;cases e5:(!Nat.beq fam 0&&(Nat.beq v.cells.toList.length n&&(v.cells.toList.all Em&&(Nat.ble (a.off+v.cells.toList.length) size&&(Nat.ble size (2^T.deep)&&l.any (Nat.beq a.block))))))with
      |false=>rw[e5]at hp; cases hp
      |true =>
       rw[e5]at hp;simp only[AG,AE]at hp;subst hp;simp only[AF,BI]at e5;obtain⟨c1,c2,c3,c4,c5,c6⟩:=e5;have c1:=Bl c1;have c2:=AJ c2;have c4:=AH c4;have c5:=AH c5;obtain⟨b,off,sp⟩:=a;simp only at e2 e3 hB c4 c6 C6 ⊢;subst e2;have hb:b<2^T.deep:=AV (hH.Dk b B hB).1 hH.cap;have hr:=hH.rel _ _ _ hB e3;have hK:HR ρ {H with t:=BH H.t off l} c w:=hH.kill _ _;have Dq:=VR.cells rJ;have ia:=Dq.length;have Yr:=N3 hH hB e3 c1 rfl;have G4: ∀x X,ρ x=some X→X.blk=B.blk→∃y,(BH H.t off l).get x=some y∧y.fam=fam:=fun x X hx Bn=>by
        obtain⟨y,q1,q2⟩:=Yr x X hx Bn;rcases Gk H.t off l x with e|⟨o',g1,g2⟩
        ·exact⟨y,e.trans q1,q2⟩
        ·rw[q1]at g1; cases g1;exact⟨_,g2,(AI.QI _).trans q2⟩
       obtain⟨ob,eG,WK⟩:=G4 b B hB rfl;have hobm:ob.mine=true:=by
        rcases Gk H.t off l b with e|⟨o',g1,g2⟩
        ·rw[eG,e3]at e; cases e; rfl
        ·rw[e3]at g1; cases g1;rw[eG]at g2; cases g2; rfl
       cases hr with
       |cells hs he D8 QV Ax hR EP =>
        have Zm:=fun(k:Nat) hk=>TC (EP rfl k hk);have hM:=(Ax rfl).1;obtain⟨w',wv,r1,r2,r3,r4,r5⟩:=LH (P:=P) (fr.eval y).cells.toList off 0 w #[] hs ((Ax rfl).2 rfl) (CE.flat Dq c3) (by omega);have DJ: ∀x X y,ρ x=some X→X.blk=B.blk→(BH H.t off l).get x=some y→y.fam≠0∧(y.FG=true→y.size≤off):=fun x X y hx Bn hy=>by
         obtain⟨y',g1,g2⟩:=G4 x X hx Bn;rw[hy]at g1; cases g1;refine⟨by rw[g2]; exact c1,fun va=> ?_⟩;obtain⟨l2,m1,m2⟩:=hK.mem x X y hx hy (by rw[g2]; exact c1) va;have m1:H.BF.get y.fam=some l2:=m1;rw[g2,e4]at m1; cases m1;exact J1 H.t off l x m2 (AV (hH.Dk x X hx).1 hH.cap) y hy (by rw[g2]; exact c1) va
        have hW:HR ρ {H with t:=BH H.t off l} c w':=hK.wr r3 (fun k hk=>by rw[r5 k,AA (by omega)]) (fun _=>r4) (fun x X y hx Bn hy=>DJ x X y hx Bn hy) hM AO.rm;have Mx:BR ρ c w' B (.cells (setFrom v.cells.toList tr off) size elem es true fam true false):=by
         refine .cells ((r3.shape _).trans hs) he (fun e=>absurd e c1) QV (fun _=>⟨hM,fun _=>r4⟩) (fun e=>by cases e) (fun _ k hk=> ?_);rw[Gq v.cells.toList tr off k (by omega),r5 k];by_cases e:off≤k∧k<off+v.cells.toList.length
         ·rw[AD e,AD (by omega)];obtain⟨u,hu⟩: ∃u,v.cells.toList[k-off]? =some u:=⟨_,EE (by omega)⟩;obtain⟨u',h1,h2⟩:=Dq.get _ u hu;exact .inr ⟨u,u',hu,by simpa using h1,h2⟩
         ·rw[AA e,AA (by omega)];exact .inr (Zm k hk)
        obtain⟨bb,hbb1,hbb2⟩:=Cp.1 c6;have hbl:b∈l:=by rw[AJ hbb2]; exact hbb1
        have hA:=hW.reset hB eG Mx (by rw[WK]; rfl) (by rw[hobm]; rfl) (fun _ _=>⟨l,e4,hbl⟩);refine⟨ρ,c.M,c.R,undef,w',#[]++wv.toArray,.refl ρ,.tuple .nil,.inr ⟨?_,rfl⟩,hA,⟨fun x hx=>by rw[r3.size]; exact AO.ml x hx,fun x hx=>by rw[r3.size]; exact AO.rl x hx,AO.rm⟩,ES.RZ AO r3 hM,BQ.app (BQ.nil _ _ _) (r2.Hj hM _),GU.app (fun e he=>by simp at he) r2.Kg,ES.oT r3 hB⟩;unfold execOp;rw[ho];show((Instr.storeAt t (fr.eval x) (fr.eval y)).bind fun _=>Sem.pure Next.skip).runT P w #[]=_;rw[C6];show((storeVar t ⟨B.blk,off,none⟩ (fr.eval y)).bind fun _=>Sem.pure Next.skip).runT P w #[]=_;have Aq:(storeVar t ⟨B.blk,off,none⟩ (fr.eval y)).runT P w #[]=(.ok () w',#[]++wv.toArray):=by
         show((sizeOf t).bind fun n=>if(fr.eval y).cells.size≠n then stuck "storeVar: the value has not the size of the variable" else storeCells ⟨B.blk,off,none⟩ (fr.eval y).cells.toList).runT P w #[]=_;rw[AB (Ef A7 e1 _),AA (by simp only[FC]at ia c2; omega)];exact r1
        rw[AB Aq];rfl
     ·cases hp
    ·cases hp
   ·cases hp
  ·cases hp
theorem PO{hn:Nat}{o:Oper}(A7:A8 P ty)(h:CJ H.ng ρ pf fr o)(hH:HR ρ H c w)(AO:CK c w){t elem:TypeId}{x:Operand}{lo hi mx:Option Operand}(ho:o.op= .slice t x lo hi mx){i:TypeInfo}{n size:Nat}(e1:ty.get t=some (i,.array n elem))(e2:Eg ty elem=some size)
  {a:Addr} (hx:AQ H.ng pf x=some (.pointer (some a))) {l h' m:Option Nat} (p1:Pf H.ng pf lo=some l) (p2:Pf H.ng pf hi=some h') (p3:Pf H.ng pf mx=some m) {l0 h0 m0:Nat} (hb:FF n n l h' m=some (l0,h0,m0)) (ew:Nat.blt (m0-l0) HN=true) :
  Sound P ρ hn (.slice (some (cond (Nat.beq m0 l0) a (a.add (l0*size)))) (h0-l0) (m0-l0)) H c w (execOp fr.eval o):=by
 have hv:=h x (by simp[ho,Op.operands]) _ hx;have q1:=IK h (fun y hy=>by rw[ho]; simp[Op.operands,hy]) p1;have q2:=IK h (fun y hy=>by rw[ho]; simp[Op.operands,hy]) p2;have q3:=IK h (fun y hy=>by rw[ho]; simp[Op.operands,hy]) p3;have cv: ∀{z:Option Operand} {n:Option Nat},(z=none∧n=none)∨(∃k m,z.map fr.eval=some (.int k (Int.ofNat m))∧n=some m)→(z.map fr.eval=none∧n=none)∨(∃k m,z.map fr.eval=some (.int k (Int.ofNat m))∧n=some m):=fun hz=>by
  rcases hz with⟨rfl,hz⟩|hz
  ·exact .inl ⟨rfl,hz⟩
  ·exact .inr hz
 generalize C6:fr.eval x=u' at hv;cases hv with
 |ptr hB =>
  rename_i B;refine Sound.val hH AO (v':= .slice (some {(cond (Nat.beq m0 l0) a (a.add (l0*size)))with block:=B.blk}) (h0-l0) (m0-l0)) (.sl (a:=cond (Nat.beq m0 l0) a (a.add (l0*size))) (by rw[Ws]; exact hB) (.inl ⟨YT ew,rfl⟩)) (s:=Instr.sliceAt t (.pointer (some {a with block:=B.blk})) (lo.map fr.eval) (hi.map fr.eval) (mx.map fr.eval)) (by unfold execOp; rw[ho]; simp only[C6]; rfl) ?_;unfold Instr.sliceAt;refine(AB (s:=underlying t) (Aa (A7 _ _ e1).2)).trans ?_;simp only
  refine(AB (s:=Instr.sureAddr (.pointer (some {a with block:=B.blk}))) (a:={a with block:=B.blk}) (w':=w) (es':= #[]) rfl).trans ?_;refine(AB (JD (cv q1) (cv q2) (cv q3) hb _)).trans ?_;refine(AB (Ef A7 e2 _)).trans ?_;rw[Wt];rfl
theorem WA{hn:Nat}{o:Oper}(A7:A8 P ty)(h:CJ H.ng ρ pf fr o)(hH:HR ρ H c w)(AO:CK c w){t elem:TypeId}{x y:Operand}(ho:o.op= .index t x y){i:TypeInfo}{len size:Nat}(e1:ty.get t=some (i,.array len elem))(e2:Eg ty elem=some size)
  {cs:Array Value} (hx:AQ H.ng pf x=some (.agg cs)) {k:IntKind} {n:Nat} (hy:AQ H.ng pf y=some (.int k (Int.ofNat n))) (Ac:n<len) {v:Value} (hp:Rt ty elem cs (n*size)=some v):Sound P ρ hn v H c w (execOp fr.eval o):=by
 have hv:=h x (by simp[ho,Op.operands]) _ hx;have dq:=h y (by simp[ho,Op.operands]) _ hy;generalize C6:fr.eval x=u' at hv;generalize Ob:fr.eval y=n' at dq;cases dq;cases hv with
 |agg hl =>
  rename_i cs';obtain⟨v',h1,h2⟩:=Uq (P:=P) (w:=w) A7 hl hp;refine Sound.val hH AO h1 (s:=Instr.index t (.agg cs') (.int k (Int.ofNat n))) (by unfold execOp; rw[ho]; simp only[C6,Ob]; rfl) ?_;unfold Instr.index;refine(AB (s:=asIntOf (.int k (Int.ofNat n))) (a:=(k,Int.ofNat n)) (w':=w) (es':= #[]) rfl).trans ?_;refine(AB (s:=underlying t) (Aa (A7 _ _ e1).2)).trans ?_;simp only
  rw[AD ⟨Int.natCast_nonneg n,by simp only[Gf]; omega⟩];refine(AB (Ef A7 e2 _)).trans ?_;exact h2
theorem QN{hn:Nat}{o:Oper}(A7:A8 P ty)(h:CJ H.ng ρ pf fr o)(hH:HR ρ H c w)(AO:CK c w){t:TypeId}{x y:Operand}(ho:o.op= .index t x y){i:TypeInfo}(e1:ty.get t=some (i,.string))
  {s:ByteArray} (hx:AQ H.ng pf x=some (.string s)) {k:IntKind} {n:Nat} (hy:AQ H.ng pf y=some (.int k (Int.ofNat n))) {b:UInt8} (hp:s.data.toList[n]? =some b):Sound P ρ hn (.int .u8 b.toNat) H c w (execOp fr.eval o):=by
 have hv:=h x (by simp[ho,Op.operands]) _ hx;have dq:=h y (by simp[ho,Op.operands]) _ hy;generalize C6:fr.eval x=u' at hv;generalize Ob:fr.eval y=n' at dq;cases dq;cases hv;refine Sound.val hH AO (.int _ _) (s:=Instr.index t (.string s) (.int k (Int.ofNat n))) (by unfold execOp; rw[ho]; simp only[C6,Ob]; rfl) ?_;unfold Instr.index;refine(AB (s:=asIntOf (.int k (Int.ofNat n))) (a:=(k,Int.ofNat n)) (w':=w) (es':= #[]) rfl).trans ?_;refine(AB (s:=underlying t) (Aa (A7 _ _ e1).2)).trans ?_;have hb:s[n]? =some b:=by
  obtain⟨Ac,hg⟩:=DU.1 hp;have Gn:n<s.size:=by simpa using Ac
  rw[getElem?_pos s n Gn];exact congrArg some hg
 simp only
 rw[AD (show(0:Int)≤Int.ofNat n from Int.natCast_nonneg n)];have:(Int.ofNat n).toNat=n:=rfl;rw[this,hb];rfl
theorem Ma{o:Oper}{x:Operand}{t:TypeId}(ho:o.op= .call {callee:= .builtin .len,args:= #[x],argTypes:= #[t]}){v' r:Value}{es:Array Event}(he:fr.eval x=v')(hr:(Builtin.len_ #[t] o.type #[v']).runT P w #[]=(.ok r w,es)):(execOp fr.eval o).runT P w #[]=(.ok (.value r) w,es):=by
 have oC:execOp fr.eval o=(Builtin.len_ #[t] o.type #[v']).bind fun r=>Sem.pure (Next.value r):=by
  rw[De ho, ← he];simp only[List.map_toArray,Du,List.map_nil];rfl
 rw[oC,AB hr];rfl
theorem NJ{hn:Nat}{o:Oper}(A7:A8 P ty)(h:CJ H.ng ρ pf fr o)(hH:HR ρ H c w)(AO:CK c w){x:Operand}{t:TypeId}(ho:o.op= .call {callee:= .builtin .len,args:= #[x],argTypes:= #[t]}){i:TypeInfo}(e1:ty.get t=some (i,.string)){s:ByteArray}(hx:AQ H.ng pf x=some (.string s)) :
  Sound P ρ hn (goInt s.size) H c w (execOp fr.eval o):=by
 have hv:=h x (by simp[ho,Op.operands,Call.operands]) _ hx;generalize C6:fr.eval x=u' at hv;cases hv;refine Sound.pure hH AO (.int _ _) (Ma ho C6 ?_);unfold Builtin.len_;simp only[G7,CM];refine(AB (s:=underlying t) (Aa (A7 _ _ e1).2)).trans ?_;rfl
theorem OX{hn:Nat}{o:Oper}(A7:A8 P ty)(hH:HR ρ H c w)(AO:CK c w){x:Operand}{t:TypeId}(ho:o.op= .call {callee:= .builtin .len,args:= #[x],argTypes:= #[t]}){i:TypeInfo}{n:Nat}{e:TypeId}(e1:ty.get t=some (i,.array n e)) :
  Sound P ρ hn (goInt n) H c w (execOp fr.eval o):=by
 refine Sound.pure hH AO (.int _ _) (Ma ho rfl ?_);unfold Builtin.len_;simp only[G7,CM];refine(AB (s:=underlying t) (Aa (A7 _ _ e1).2)).trans ?_;rfl
def A3(b:Nat)(wr sy:Bool):Event:=⟨.obj b,wr,sy⟩
theorem HZ{b:Nat}(hb:c.M b)(wr sy:Bool)(hc: ¬(wr=true∧sy=true))(w':World):BQ c w w' #[A3 b wr sy]:=⟨fun e he a=>by simp at he; subst he; cases wr<;>cases sy<;>simp[A3,MemAct.ofEvent],fun e he x hx=>by
 simp at he;subst he;have:(MemAct.ofEvent (A3 b wr sy)).touch?=some ⟨.obj b,wr,if sy then .atomic else .plain⟩:=by
  cases wr<;>cases sy<;>first|rfl|exact absurd ⟨rfl,rfl⟩ hc
 rw[this]at hx;simp only[AE]at hx;subst hx;exact .inl ⟨b,rfl,.inl hb⟩⟩
theorem Vt(b:Nat)(wr sy:Bool):GU #[A3 b wr sy]:=fun e he=>by
 simp at he;subst he;exact⟨(fun e=>by cases e),(fun e=>by cases e)⟩
end
def World.Ec(w:World)(b:Nat)(o:Obj):World:={w with heap:=w.heap.setIfInBounds b o}
def Dr:Obj→Bool
 | .cells .. =>false
 |_=>true
section
variable{P:Program}{ty:DD}{ρ:Ah}{pf:PF}{fr:Frame}{H:PH}{c:Ctx}{w:World}
theorem OR.Dr{o o':Obj}(h:OR ρ o o'):Gd.Dr o'=true:=by
 cases h<;>rfl
theorem KH{b:Nat}{o o':Obj}(h:w.heap[b]? =some o)(h1:Dr o=true)(h2:Dr o'=true):ES b w (World.Ec w b o'):=by
 have Ac:b<w.heap.size:=(A6.1 h).1;refine⟨rfl,rfl,rfl,by simp[World.Ec],fun x=> ?_,fun x hx=> ?_⟩
 ·by_cases e:x=b
  ·subst e;simp only[World.shape?,World.Ec,h];rw[Bs Ac];cases o<;>cases o'<;>first|rfl|(cases h2; done)|(cases h1; done)
  ·simp only[World.shape?,World.Ec];rw[Bb (fun z=>e z.symm)]
 ·simp only[World.Ec];rw[Bb (fun z=>hx z.symm)]
theorem HR.obj(h:HR ρ H c w){b:Nat}{B:RB}(hB:ρ b=some B){o:Obj}(ho:H.t.get b=some (.obj o)): ∃o',w.heap[B.blk]? =some o'∧OR ρ o o'∧c.M B.blk:=by
 have:=h.rel b B _ hB ho;cases this with
 |obj hw EW hM=>exact⟨_,hw,EW,hM⟩
theorem Da{b:Nat}{o:Obj}(h:w.heap[b]? =some o)(hc:Dr o=true)(es:Array Event):(getObj b).runT P w es=(.ok o w,es.push ⟨.obj b,false,o.isChan⟩):=by
 show(Sem.getObj b .pure).runT P w es=_;simp only[Sem.runT,h];cases o<;>first|rfl|cases hc
theorem C5{b:Nat}{o o':Obj}(h:w.heap[b]? =some o)(hc:Dr o=true)(es:Array Event):(setObj b o').runT P w es=(.ok () (World.Ec w b o'),es.push ⟨.obj b,true,o'.isChan⟩):=by
 show(Sem.setObj b o' (.pure ())).runT P w es=_;simp only[Sem.runT,h];cases o<;>first|rfl|cases hc
theorem HR.setObj(h:HR ρ H c w){b:Nat}{B:RB}(hB:ρ b=some B){o o₁ Ks:Obj}(ho:H.t.get b=some (.obj o))(EW:OR ρ o₁ Ks):HR ρ {H with t:=H.t.set b (.obj o₁)} c (World.Ec w B.blk Ks):=by
 obtain⟨o',hw,aU,hM⟩:=h.obj hB ho;have hb:b<2^T.deep:=AV (h.Dk b B hB).1 h.cap;have Hf:=KH hw aU.Dr EW.Dr;have Ac:B.blk<w.heap.size:=(h.Dk b B hB).2;have g: ∀x,(H.t.set b (.obj o₁)).get x=if x=b then some (.obj o₁)else H.t.get x:=fun x=>T.AW _ _ _ _ hb
 have BK: ∀x X,ρ x=some X→x≠b→X.blk≠B.blk:=fun x X hx e eb=>by
  rcases h.inj x b X B hx hB e eb with⟨o1,o2,p1,p2,p3,p4⟩|⟨_,q⟩
  ·rw[ho]at p2; cases p2;rw[p4]at p3;exact p3 rfl
  ·cases q _ ho
 refine⟨h.cap,fun x X hx=>⟨(h.Dk x X hx).1,by rw[Hf.size]; exact(h.Dk x X hx).2⟩,fun x X y hx hy=> ?_,fun x x' X X' e1 e2 hxx Bn=> ?_,h.EK,fun x X y hx hy hf AO=> ?_⟩
 ·have hy:(H.t.set b (.obj o₁)).get x=some y:=hy;rw[g]at hy;by_cases e:x=b
  ·rw[AD e]at hy; cases hy;rw[e,hB]at hx; cases hx;exact .obj (by simp only[World.Ec]; rw[Bs Ac]) EW hM
  ·rw[AA e]at hy;have hk:=Hf.keep X.blk (BK x X hx e);have hr:=h.rel x X y hx hy;cases hr with
   |cells hs he hf hle Ax hR AO =>
    refine .cells ((Hf.shape _).trans hs) he hf hle (fun z=>⟨(Ax z).1,fun z' off=> ?_⟩) hR (fun z k Ac=> ?_)
    ·have:=(Ax z).2 z' off;simp only[World.frozen?,hk]at this ⊢; exact this
    ·rcases AO z k Ac with hn|⟨v,v',h1,h2,h3⟩
     ·exact .inl hn
     exact .inr ⟨v,v',h1,by rw[Kc (a:=⟨X.blk,k,none⟩) hk]; exact h2,h3⟩
   |obj Kv Ym wJ=>exact .obj (hk.trans Kv) Ym wJ
 ·rcases h.inj x x' X X' e1 e2 hxx Bn with⟨o1,o2,p1,p2,p3,p4⟩|⟨q1,q2⟩
  ·have nb: ∀{x:Nat} {o:AI},H.t.get x=some o→o.fam≠0→x≠b:=fun hx hf e=>by
    rw[e,ho]at hx; cases hx; exact hf rfl
   exact .inl ⟨o1,o2,(g x).trans ((AA (nb p1 p3)).trans p1),(g x').trans ((AA (nb p2 (by rw[← p4]; exact p3))).trans p2),p3,p4⟩
  ·have st: ∀{x:Nat},H.still x→∀z,(H.t.set b (.obj o₁)).get x=some z→z.mine=false:=fun {x} hs z hz=>by
    by_cases e:x=b
    ·subst e; cases hs _ ho
    ·rw[g,AA e]at hz; exact hs z hz
   exact .inr ⟨st q1,st q2⟩
 ·have hy:(H.t.set b (.obj o₁)).get x=some y:=hy;rw[g]at hy;by_cases e:x=b
  ·rw[AD e]at hy; cases hy;exact absurd rfl hf
  ·rw[AA e]at hy;exact h.mem x X y hx hy hf AO
def Fs(H:PH)(o:Obj):Option PH :=
 cond (Nat.ble (H.next+1) (2^T.deep)) (some (H.x6 (H.t.set H.next (.obj o)))) none
theorem Sound.newObj(hH:HR ρ H c w)(AO:CK c w){o o':Obj}{H':PH}(hp:Fs H o=some H')(EW: ∀ρ',ρ.le ρ'→OR ρ' o o'){s:Sem Next}{v v':Value}(hv:VR (ρ.put H.next ⟨w.heap.size,0,0⟩) v v')(AT:s.runT P w #[]=(.ok (.value v') (World.grow w o'),#[])):Sound P ρ H.next v H' c w s:=by
 unfold Fs at hp;cases e1:Nat.ble (H.next+1) (2^T.deep)with
 |false=>rw[e1]at hp; cases hp
 |true =>
  rw[e1]at hp;simp only[AG,AE]at hp;subst hp;have hle:=Ah.Ed (B:=⟨w.heap.size,0,0⟩) hH.free;exact⟨_,(Ctx.own c w.heap.size).M,c.R,v',_,#[],hle,hv,.inl AT,hH.new (AH e1) rfl rfl (.obj (C7 _ _) (EW _ hle) (.inr rfl)),AO.grow _,Ca.grow AO _,BQ.nil _ _ _,fun e he=>by simp at he,L4.grow AO _ rfl (AN _)⟩
theorem Sound.setObj{hn:Nat}(hH:HR ρ H c w)(AO:CK c w){b:Nat}{B:RB}(hB:ρ b=some B){o o₁ Ks:Obj}(ho:H.t.get b=some (.obj o))(EW:OR ρ o₁ Ks){s:Sem Next}{v v':Value}(hv:VR ρ v v'){es:Array Event}(JJ: ∀e∈es,e=A3 B.blk false false∨e=A3 B.blk true false)
  (AT:s.runT P w #[]=(.ok (.value v') (World.Ec w B.blk Ks),es)∨(s.runT P w #[]=(.ok .skip (World.Ec w B.blk Ks),es)∧v'=undef)):Sound P ρ hn v {H with t:=H.t.set b (.obj o₁)} c w s:=by
 obtain⟨o',hw,aU,hM⟩:=hH.obj hB ho;have Hf:=KH hw aU.Dr EW.Dr;refine⟨ρ,c.M,c.R,v',_,es,.refl ρ,hv,AT,hH.setObj hB ho EW,⟨fun x hx=>by rw[Hf.size]; exact AO.ml x hx,fun x hx=>by rw[Hf.size]; exact AO.rl x hx,AO.rm⟩,Hf.RZ AO hM,⟨fun e he a=> ?_,fun e he x hx=> ?_⟩,fun e he=> ?_,Hf.oT hB⟩
 ·rcases JJ e he with rfl|rfl<;>simp[A3,MemAct.ofEvent]
 ·rcases JJ e he with rfl|rfl
  ·exact(HZ hM false false (by simp) _).2 _ (by simp) x hx
  ·exact(HZ hM true false (by simp) _).2 _ (by simp) x hx
 ·rcases JJ e he with rfl|rfl<;>exact⟨(fun e=>by cases e),(fun e=>by cases e)⟩
theorem Sound.getObj{hn:Nat}(hH:HR ρ H c w)(AO:CK c w){b:Nat}{B:RB}(hB:ρ b=some B){o:Obj}(ho:H.t.get b=some (.obj o)){s:Sem Next}{v v':Value}(hv:VR ρ v v'){es:Array Event}(JJ: ∀e∈es,e=A3 B.blk false false)
  (AT:s.runT P w #[]=(.ok (.value v') w,es)):Sound P ρ hn v H c w s:=by
 obtain⟨o',hw,aU,hM⟩:=hH.obj hB ho;refine⟨ρ,c.M,c.R,v',w,es,.refl ρ,hv,.inl AT,hH,AO,Ca.refl AO,⟨fun e he a=> ?_,fun e he x hx=> ?_⟩,fun e he=> ?_,L4.refl _ _ _ _⟩
 ·rw[JJ e he];simp[A3,MemAct.ofEvent]
 ·rw[JJ e he]at hx;exact(HZ hM false false (by simp) w).2 _ (by simp) x hx
 ·rw[JJ e he];exact⟨(fun e=>by cases e),(fun e=>by cases e)⟩
theorem Ji{α β:Type}: ∀(s:Sem α) (f:α→Sem β),CV P (s.bind f)=(CV P s).bind fun a=>CV P (f a)
 | .pure _a,_f=>rfl
 | .program k,f=>Ji (k P) f
 | .load ..,_=>rfl
 | .store ..,_=>rfl
 | .new ..,_=>rfl
 | .shape ..,_=>rfl
 | .freeze ..,_=>rfl
 | .frozen ..,_=>rfl
 | .getObj ..,_=>rfl
 | .setObj ..,_=>rfl
 | .choose ..,_=>rfl
 | .sys ..,_=>rfl
 | .mark ..,_=>rfl
 | .halt ..,_=>rfl
theorem Sw{α:Type}: ∀{l:List α} {i:Nat} {x:α},l[i]? =some x→l.Perm (x::l.eraseIdx i)
 |y::l,0,x,h=>by
  simp only[CM,AE]at h;subst h; exact .refl _
 |y::l,i+1,x,h=>by
  rw[Fg]at h;exact((Sw h).cons y).trans (.swap x y _)
theorem Pr{α:Type}: ∀{l:List α} {i:Nat} {x:α} (y:α),l[i]? =some x→(l.set i y).Perm (y::l.eraseIdx i)
 |z::l,0,x,y,h=> .refl _
 |z::l,i+1,x,y,h=>by
  rw[Fg]at h;exact((Pr y h).cons z).trans (.swap y z _)
theorem SL.cA(ρ:Ah):SL ρ [] []:=⟨rfl,fun k e he=>by simp at he⟩
theorem SL.set{es es':List MapEntry}(h:SL ρ es es')(i:Nat){e e':MapEntry}(h1:e'.key=e.key)(h3:VR ρ e.val e'.val):SL ρ (es.set i e) (es'.set i e'):=by
 refine⟨by simpa using h.1,fun k x hx=> ?_⟩;rw[List.getElem?_set]at hx ⊢;by_cases ek:i=k
 ·rw[AD ek]at hx ⊢;by_cases hl:k<es.length
  ·rw[AD (by omega)]at hx;cases hx;exact⟨e',by rw[AD (by have:=h.1; omega)],h1,h3⟩
  ·rw[AA (by omega)]at hx; cases hx
 ·rw[AA ek]at hx ⊢;exact h.2 k x hx
theorem SL.app{es es':List MapEntry}(h:SL ρ es es'){e e':MapEntry}(h1:e'.key=e.key)(h3:VR ρ e.val e'.val):SL ρ (es++ [e]) (es'++ [e']):=by
 refine⟨by simpa using h.1,fun k x hx=> ?_⟩;by_cases hl:k<es.length
 ·rw[List.getElem?_append_left hl]at hx;rw[List.getElem?_append_left (by have:=h.1; omega)];exact h.2 k x hx
 ·rw[List.getElem?_append_right (by omega)]at hx;rw[List.getElem?_append_right (by have:=h.1; omega)];have:k-es.length=0:=by
   have:=(DU.1 hx).1;simp at this;omega
  rw[this]at hx;have e0:k-es'.length=0:=by have:=h.1; omega
  rw[e0];simp at hx ⊢;subst hx;exact⟨h1,h3⟩
theorem SL.erase{es es':List MapEntry}(h:SL ρ es es')(i:Nat):SL ρ (es.eraseIdx i) (es'.eraseIdx i):=by
 refine⟨?_,fun k x hx=> ?_⟩
 ·rw[List.length_eraseIdx,List.length_eraseIdx,h.1]
 ·rw[List.getElem?_eraseIdx]at hx ⊢;split at hx
  ·rename_i hk; rw[AD hk]; exact h.2 k x hx
  ·rename_i hk; rw[AA hk]; exact h.2 (k+1) x hx
theorem Q5.nil(ρ:Ah):Q5 ρ [] []:=⟨[],.refl _,.cA ρ⟩
theorem Q5.len{es es':List MapEntry}(h:Q5 ρ es es'):es'.length=es.length:=by
 obtain⟨L,h1,h2⟩:=h;rw[h1.length_eq,h2.1]
theorem Q5.app{es es':List MapEntry}(h:Q5 ρ es es'){e e':MapEntry}(h1:e'.key=e.key)(h3:VR ρ e.val e'.val):Q5 ρ (es++ [e]) (es'++ [e']):=by
 obtain⟨L,a,b⟩:=h;exact⟨L++ [e'],a.append_right _,b.app h1 h3⟩
def GO(m:Value→Bool):List MapEntry→Nat→Option (Nat×Value)
 | [],_=>none
 |e::es,i=>if m e.key=true then some (i,e.val)else GO m es (i+1)
theorem N7{m:Value→Bool}: ∀{es:List MapEntry} {i:Nat},(∀e∈es,m e.key=false)→GO m es i=none
 | [],_,_=>rfl
 |e::es,i,h=>by
  simp only[GO,h e (by simp),Bq,BS];exact N7 fun x hx=>h x (by simp[hx])
theorem N6{m:Value→Bool}: ∀{es:List MapEntry} {i:Nat},(∃e∈es,m e.key=true)→∃j e,GO m es i=some (i+j,e.val)∧es[j]? =some e∧m e.key=true
 | [],_,h=>by obtain⟨e,he,_⟩:=h; cases he
 |e::es,i,h=>by
  cases hm:m e.key with
  |true=>exact⟨0,e,by simp[GO,hm],rfl,hm⟩
  |false =>
   obtain⟨x,hx,Hp⟩:=h;have:x∈es:=by
    rcases AZ.1 hx with rfl|h
    ·rw[hm]at Hp; cases Hp
    ·exact h
   obtain⟨j,e',a,b,c⟩:=N6 (i:=i+1) ⟨x,this,Hp⟩;refine⟨j+1,e', ?_,b,c⟩;simp only[GO,hm,Bq,BS];rw[a]
   congr 2
   omega
def Qu(d:TypeDesc)(k:Value)(x:Value):Option Bool:=Instr.sameNow d k x
def KB(P:Program)(d:TypeDesc)(kt:TypeId)(k:Value)(x:Value):Option Bool :=
 match CV P (Op.equal kt k x)with
 |some b=>match Instr.sameNow d k x with
  |some b'=>cond (Bool.rec (Bool.rec true false b') (Bool.rec false true b') b) (some b) none
  |none=>some b
 |none=>none
def Po(q:Value→Option Bool)(es:List MapEntry):Nat→Option (Option (Nat×Value)) :=
 List.rec (motive:=fun _=>Nat→Option (Option (Nat×Value))) (fun _=>some none) (fun e _ ih i=>match q e.key with
  |some b=>match ih (i+1)with
   |some none=>cond b (some (some (i,e.val))) (some none)
   |some (some r)=>cond b none (some (some r))
   |none=>none
  |none=>none) es
def VC(P:Program)(kt:TypeId)(k:Value)(es:List MapEntry):Option (Option (Nat×Value)) :=
 match CV P (underlying kt)with
 |some d=>match Po (Qu d k) es 0 with
  |some r=>some r
  |none=>Po (KB P d kt k) es 0
 |none=>none
theorem Pn{q:Value→Option Bool}: ∀{es:List MapEntry} {i:Nat} {r:Option (Nat×Value)},Po q es i=some r→(∀e∈es,∃b,q e.key=some b)∧((r=none∧∀e∈es,q e.key=some false)∨∃j e,r=some (i+j,e.val)∧es[j]? =some e∧q e.key=some true∧∀j' e',es[j']? =some e'→j'≠j→q e'.key=some false)
 | [],i,r,h=>by
  cases h;exact⟨fun e he=>(by cases he),.inl ⟨rfl,fun e he=>(by cases he)⟩⟩
 |e::es,i,r,h=>by
  have h:(match q e.key with
   |some b=>match Po q es (i+1)with
    |some none=>cond b (some (some (i,e.val))) (some none)
    |some (some r)=>cond b none (some (some r))
    |none=>none
   |none=>none)=some r:=h
  cases h1:q e.key with
  |none=>rw[h1]at h; cases h
  |some b =>
   rw[h1]at h;simp only at h;cases h2:Po q es (i+1)with
   |none=>rw[h2]at h; cases h
   |some r1 =>
    rw[h2]at h;obtain⟨g1,g2⟩:=Pn h2;refine⟨fun x hx=> ?_, ?_⟩
    ·rcases AZ.1 hx with rfl|hx
     ·exact⟨b,h1⟩
     ·exact g1 x hx
    rcases g2 with⟨rfl,g2⟩|⟨j,e',rfl,g3,g4,g5⟩
    ·cases b with
     |true =>
      cases h;refine .inr ⟨0,e,rfl,rfl,h1,fun j' e' hj BK=> ?_⟩;cases j' with
      |zero=>exact absurd rfl BK
      |succ j'=>exact g2 e' (Cg hj)
     |false =>
      cases h;refine .inl ⟨rfl,fun x hx=> ?_⟩;rcases AZ.1 hx with rfl|hx
      ·exact h1
      ·exact g2 x hx
    ·cases b with
     |true=>cases h
     |false =>
      cases h;refine .inr ⟨j+1,e',by congr 2; omega,g3,g4,fun j' x hj BK=> ?_⟩;cases j' with
      |zero=>cases hj; exact h1
      |succ j'=>exact g5 j' x hj (by omega)
def qb(q:Value→Option Bool)(x:Value):Bool:=match q x with|some b=>b|none=>false
theorem K5(d:TypeDesc)(k:Value): ∀(es:List MapEntry) (i:Nat),(∀e∈es,∃b,Qu d k e.key=some b)→Instr.findNow d k es i=some (GO (qb (Qu d k)) es i)
 | [],i,h=>rfl
 |e::es,i,h=>by
  obtain⟨b,hb⟩:=h e (by simp);have B7:Instr.sameNow d k e.key=some b:=hb;simp only[Instr.findNow,GO,qb,hb,B7];cases b with
  |true=>rfl
  |false=>simpa using K5 d k es (i+1) fun x hx=>h x (by simp[hx])
theorem SF{d:TypeDesc}{kt:TypeId}{k x:Value}{b:Bool}(h:KB P d kt k x=some b):CV P (Op.equal kt k x)=some b∧(Instr.sameNow d k x=none∨Instr.sameNow d k x=some b):=by
 unfold KB at h;cases h1:CV P (Op.equal kt k x)with
 |none=>rw[h1]at h; cases h
 |some b1 =>
  rw[h1]at h;simp only at h;cases h2:Instr.sameNow d k x with
  |none=>rw[h2]at h; cases h; exact⟨rfl,.inl rfl⟩
  |some b2 =>
   rw[h2]at h;cases b1<;>cases b2<;>first|(cases h; exact⟨rfl,.inr rfl⟩)|cases h
theorem N9(d:TypeDesc)(kt:TypeId)(k:Value): ∀(es:List MapEntry) (i:Nat),(∀e∈es,∃b,KB P d kt k e.key=some b)→Instr.findNow d k es i=none∨Instr.findNow d k es i=some (GO (qb (KB P d kt k)) es i)
 | [],i,h=> .inr rfl
 |e::es,i,h=>by
  obtain⟨b,hb⟩:=h e (by simp);obtain⟨_,h2⟩:=SF hb;simp only[Instr.findNow,GO,qb,hb];rcases h2 with h2|h2
  ·rw[h2]; exact .inl rfl
  ·rw[h2];cases b with
   |true=>exact .inr rfl
   |false=>simpa using N9 d kt k es (i+1) fun x hx=>h x (by simp[hx])
theorem J7(d:TypeDesc)(kt:TypeId)(k:Value): ∀(es:List MapEntry) (i:Nat),(∀e∈es,∃b,KB P d kt k e.key=some b)→CV P (Instr.findAsking kt k es i)=some (GO (qb (KB P d kt k)) es i)
 | [],i,h=>rfl
 |e::es,i,h=>by
  obtain⟨b,hb⟩:=h e (by simp);obtain⟨h1,_⟩:=SF hb;have u:CV P (Instr.findAsking kt k (e::es) i)=(CV P (Op.equal kt k e.key)).bind fun b=>CV P (if b=true then pure (some (i,e.val))else Instr.findAsking kt k es (i+1)):=by
   show CV P ((Op.equal kt k e.key).bind fun b=>if b=true then pure (some (i,e.val))else Instr.findAsking kt k es (i+1))=_;rw[Ji]
  rw[u,h1];simp only[GO,qb,hb,EC];cases b with
  |true=>rfl
  |false=>simpa using J7 d kt k es (i+1) fun x hx=>h x (by simp[hx])
theorem Qh(kt:TypeId)(k:Value)(xs:List MapEntry):CV P (Instr.findKey kt k xs)=(CV P (underlying kt)).bind fun d=>CV P (match Instr.findNow d k xs 0 with|some r=>pure r|none=>Instr.findAsking kt k xs):=by
 show CV P ((underlying kt).bind fun d=>match Instr.findNow d k xs 0 with|some r=>pure r|none=>Instr.findAsking kt k xs)=_;rw[Ji]
theorem IL(kt:TypeId)(k:Value){es es':List MapEntry}(h:Q5 ρ es es'){r:Option (Nat×Value)}(hr:VC P kt k es=some r) :
  (r=none∧CV P (Instr.findKey kt k es')=some none)∨
  ∃i e j e',r=some (i,e.val)∧es[i]? =some e∧CV P (Instr.findKey kt k es')=some (some (j,e'.val))∧es'[j]? =some e'∧e'.key=e.key∧VR ρ e.val e'.val∧
   (∀x x':MapEntry,x'.key=x.key→VR ρ x.val x'.val→Q5 ρ (es.set i x) (es'.set j x'))∧Q5 ρ (es.eraseIdx i) (es'.eraseIdx j):=by
 obtain⟨L,hp,hL⟩:=h;unfold VC at hr;cases hd:CV P (underlying kt)with
 |none=>rw[hd]at hr; cases hr
 |some d =>
  rw[hd]at hr;simp only at hr;obtain⟨q,hq,AT⟩: ∃q:Value→Option Bool,Po q es 0=some r∧∀xs:List MapEntry,(∀e∈xs,∃b,q e.key=some b)→CV P (Instr.findKey kt k xs)=some (GO (qb q) xs 0):=by
   cases h1:Po (Qu d k) es 0 with
   |some r1 =>
    rw[h1]at hr;refine⟨Qu d k,h1.trans hr,fun xs hx=> ?_⟩;rw[Qh,hd,EC,K5 d k xs 0 hx];rfl
   |none =>
    rw[h1]at hr;refine⟨KB P d kt k,hr,fun xs hx=> ?_⟩;rw[Qh,hd,EC];rcases N9 d kt k xs 0 hx with h2|h2
    ·rw[h2]; exact J7 d kt k xs 0 hx
    ·rw[h2]; rfl
  obtain⟨s1,s2⟩:=Pn hq;have keys: ∀(j:Nat) (p:MapEntry),L[j]? =some p→∃e,es[j]? =some e∧p.key=e.key∧VR ρ e.val p.val:=fun j p hj=>by
   have Ac:j<es.length:=by rw[hL.1]; exact(DU.1 hj).1
   obtain⟨p',a,b,c⟩:=hL.2 j es[j] (EE Ac);rw[hj]at a; cases a;exact⟨_,EE Ac,b,c⟩
  have db: ∀x∈es',∃(j:Nat) (e:MapEntry),L[j]? =some x∧es[j]? =some e∧x.key=e.key∧VR ρ e.val x.val:=fun x hx=>by
   obtain⟨j,hj⟩:=List.getElem?_of_mem (hp.mem_iff.1 hx);obtain⟨e,a,b,c⟩:=keys j x hj;exact⟨j,e,hj,a,b,c⟩
  have Gl:=AT es' fun x hx=>by
   obtain⟨j,e,_,a,b,_⟩:=db x hx;rw[b]; exact s1 e (Cg a)
  rw[Gl];rcases s2 with⟨rfl,s2⟩|⟨i,e,rfl,s3,s4,s5⟩
  ·refine .inl ⟨rfl, ?_⟩;rw[N7 fun x hx=>by
    obtain⟨j,e,_,a,b,_⟩:=db x hx;rw[b,qb,s2 e (Cg a)]]
  ·obtain⟨p,rN,hpk,hpv⟩:=hL.2 i e s3;obtain⟨j,x,f1,f2,f3⟩:=N6 (m:=qb q) (es:=es') (i:=0) ⟨p,hp.mem_iff.2 (Cg rN),by rw[hpk,qb,s4]⟩;have dn:x=p:=by
    obtain⟨i',e',a1,a2,a3,_⟩:=db x (Cg f2);by_cases ei:i'=i
    ·subst ei; rw[rN]at a1; cases a1; rfl
    ·rw[a3,qb,s5 i' e' a2 ei]at f3; cases f3
   subst dn;have vu:(es'.eraseIdx j).Perm (L.eraseIdx i):=((Sw f2).symm.trans (hp.trans (Sw rN))).cons_inv;refine .inr ⟨i,e,j,x,by rw[DV],s3,by rw[f1,DV],f2,hpk,hpv,fun y y' k1 k2=> ?_,_,vu,hL.erase i⟩;exact⟨L.set i y',(Pr y' f2).trans ((vu.cons y').trans (Pr y' rN).symm),hL.set i k1 k2⟩
end
def Jo(H:PH)(x:Value):Option (Array MapEntry×Nat) :=
 match x with
 | .map none=>some (#[],0)
 | .map (some r)=>match H.t.get r with
  |some (.obj (.map es clock))=>some (es,clock)
  |_=>none
 |_=>none
def Ss(P:Program)(ty:DD)(H:PH)(t:TypeId)(x k:Value)(ok:Bool):Option Value :=
 match ty.get t with
 |some (_,.map key elem)=>match ty.get elem with
  |some (ei,_)=>match ei.zero with
   |some z=>cond (ground 6 k&&ground 6 z) (match Jo H x with
    |some (es,_)=>match CV P (Instr.checkKey es.isEmpty 10000 key k)with
     |some _=>match VC P key k es.toList with
      |some r=>some (match r with
       |some (_,v)=>if ok then .tuple #[v,.bool true]else v
       |none=>if ok then .tuple #[z,.bool false]else z)
      |none=>none
     |none=>none
    |none=>none) none
   |none=>none
  |none=>none
 |_=>none
def Sm(P:Program)(ty:DD)(H:PH)(t:TypeId)(x k v:Value):Option PH :=
 match ty.get t with
 |some (_,.map key _)=>cond (ground 6 k) (match x with
  | .map (some r)=>match H.t.get r with
   |some (.obj (.map es clock))=>match CV P (Instr.checkKey false 10000 key k)with
    |some _=>match VC P key k es.toList with
     |some (some (i,_))=>match es.toList[i]? with
      |some e=>cond (Instr.sameBits 10000 e.key k) (some (H.Ho (H.t.set r (.obj (.map (es.toList.set i ({key:=k,val:=v,born:=e.born}:MapEntry)).toArray clock))))) none
      |none=>none
     |some none=>some (H.Ho (H.t.set r (.obj (.map (es.toList++ [({key:=k,val:=v,born:=clock}:MapEntry)]).toArray (clock+1)))))
     |none=>none
    |none=>none
   |_=>none
  |_=>none) none
 |_=>none
def On(P:Program)(ty:DD)(H:PH)(t:TypeId)(x k:Value):Option PH :=
 match ty.get t with
 |some (_,.map key _)=>cond (ground 6 k) (match x with
  | .map (some r)=>match H.t.get r with
   |some (.obj (.map es clock))=>match CV P (Instr.checkKey es.isEmpty 10000 key k)with
    |some _=>match VC P key k es.toList with
     |some (some (i,_))=>some (H.Ho (H.t.set r (.obj (.map (es.toList.eraseIdx i).toArray clock))))
     |some none=>some (H.Ho (H.t.set r (.obj (.map es clock))))
     |none=>none
    |none=>none
   |_=>none
  |_=>none) none
 |_=>none
section
variable{P:Program}{ty:DD}{ρ:Ah}{pf:PF}{fr:Frame}{H:PH}{c:Ctx}{w:World}
theorem Q5.to{es es':List MapEntry}(h:Q5 ρ es es')(clock BP:Nat):OR ρ (.map es.toArray clock) (.map es'.toArray BP):= .map clock BP (by simpa using h)
theorem isEmpty_eq{es es':Array MapEntry}(h:es.size=es'.size):es'.isEmpty=es.isEmpty:=by
 simp only[Array.isEmpty,h]
theorem RL{o:Oper}(hH:HR ρ H c w)(AO:CK c w){t:TypeId}(ho:o.op= .makeMap t none){H':PH}(hp:Fs H (.map #[] 0)=some H'):Sound P ρ H.next (.map (some H.next)) H' c w (execOp fr.eval o):=by
 refine Sound.newObj hH AO hp (o':= .map #[] 0) (fun ρ' _=> .map 0 0 (.nil ρ')) (v':= .map (some w.heap.size)) (.map (B:=⟨w.heap.size,0,0⟩) (Cy _ _ _)) ?_;unfold execOp;rw[ho];rfl
theorem TS{hn:Nat}{o:Oper}(A7:A8 P ty)(h:CJ H.ng ρ pf fr o)(hH:HR ρ H c w)(AO:CK c w){t:TypeId}{x y:Operand}{ok:Bool}(ho:o.op= .lookup t x y ok){u k v:Value}(hx:AQ H.ng pf x=some u)(hy:AQ H.ng pf y=some k)(hp:Ss P ty H t u k ok=some v) :
  Sound P ρ hn v H c w (execOp fr.eval o):=by
 have hu:=h x (by simp[ho,Op.operands]) _ hx;have hk:=h y (by simp[ho,Op.operands]) _ hy;unfold Ss at hp;split at hp
 ·rename_i ti key elem e1;split at hp
  ·rename_i ei ed e2;split at hp
   ·rename_i z e3;cases e4:ground 6 k&&ground 6 z with
    |false=>rw[e4]at hp; cases hp
    |true =>
     rw[e4]at hp;simp only[AG]at hp;obtain⟨g1,g2⟩:=Bj.1 e4;have Yp:fr.eval y=k:=Fa 6 hk g1;split at hp
     ·rename_i es clock e5;split at hp
      ·rename_i un e6;split at hp
       ·rename_i r e7;simp only[AE]at hp;subst hp;have hz:VR ρ z z:=B5 6 g2;have rest: ∀(es':Array MapEntry) (ev:Array Event),es'.isEmpty=es.isEmpty→Q5 ρ es.toList es'.toList→∃v',VR ρ (match r with
          |some (_,v)=>if ok=true then .tuple #[v,.bool true]else v
          |none=>if ok=true then .tuple #[z,.bool false]else z) v'∧
          ((Instr.checkKey es'.isEmpty 10000 key k).bind fun _=>(Instr.findKey key k es'.toList).bind fun m=>match m with
           |some (_,v)=>(Sem.pure (v,true)).bind fun p=>match p with|(v,b)=>Sem.pure (if ok=true then Value.tuple #[v,.bool b]else v)
           |none=>(zeroValue elem).bind fun z=>(Sem.pure (z,false)).bind fun p=>match p with|(v,b)=>Sem.pure (if ok=true then Value.tuple #[v,.bool b]else v)).runT P w ev=(.ok v' w,ev):=fun es' ev hem Ob=>by
         rw[hem];rcases IL (P:=P) key k Ob e7 with⟨rfl,q1⟩|⟨i0,e0,j0,e0',rfl,q2,q1,q3,q4,q5,q6⟩
         ·rw[AB (DG e6 w ev),AB (DG q1 w ev)];simp only
          rw[AB (FQ A7 e2 e3 ev)];refine⟨_, ?_,rfl⟩;cases ok with
          |true=>exact .tuple (.cons hz (.cons (.bool _) .nil))
          |false=>exact hz
         ·rw[AB (DG e6 w ev),AB (DG q1 w ev)];refine⟨_, ?_,rfl⟩;cases ok with
          |true=>exact .tuple (.cons q5 (.cons (.bool _) .nil))
          |false=>exact q5
        unfold Jo at e5;have BB:execOp fr.eval o=(Instr.lookup t (fr.eval x) k ok).bind fun r=>Sem.pure (Next.value r):=by
         unfold execOp;rw[ho];simp only[Yp];rfl
        rw[BB];generalize C6:fr.eval x=u' at hu;cases hu with
        |IP =>
         simp only[AE,AR]at e5;obtain⟨rfl,rfl⟩:=e5;obtain⟨v',h1,h2⟩:=rest #[] #[] rfl (.nil ρ);refine Sound.pure hH AO h1 ?_;have:(Instr.lookup t (.map none) k ok).runT P w #[]=(.ok v' w,#[]):=by
          unfold Instr.lookup;refine(AB (s:=underlying t) (Aa (A7 _ _ e1).2)).trans ?_;refine(AB (s:=(pure #[]:Sem (Array MapEntry))) (a:= #[]) (w':=w) (es':= #[]) rfl).trans ?_;exact h2
         rw[AB this];rfl
        |map hB =>
         rename_i r0 B;simp only at e5;split at e5
         ·rename_i kV oq e8;simp only[AE,AR]at e5;obtain⟨rfl,rfl⟩:=e5;obtain⟨o',hw,EW,hM⟩:=hH.obj hB e8;cases EW with
          |map _ BP Fw =>
           rename_i es';obtain⟨v',h1,h2⟩:=rest es' #[A3 B.blk false false] (isEmpty_eq (by simpa using Fw.len.symm)) Fw;refine Sound.getObj hH AO hB e8 h1 (es:= #[A3 B.blk false false]) (fun e he=>by simpa using he) ?_;have:(Instr.lookup t (.map (some B.blk)) k ok).runT P w #[]=(.ok v' w,#[A3 B.blk false false]):=by
            unfold Instr.lookup;refine(AB (s:=underlying t) (Aa (A7 _ _ e1).2)).trans ?_;refine(AB (Da hw rfl #[])).trans ?_;refine(AB (s:=(pure es':Sem (Array MapEntry))) (a:=es') (w':=w) rfl).trans ?_;exact h2
           rw[AB this];rfl
         ·cases e5
        |_=>cases e5
       ·cases hp
      ·cases hp
     ·cases hp
   ·cases hp
  ·cases hp
 ·cases hp
theorem YX(hH:HR ρ H c w){r:Nat}{B:RB}(hB:ρ r=some B){es:Array MapEntry}{clock:Nat}(ho:H.t.get r=some (.obj (.map es clock))): ∃es' BP,w.heap[B.blk]? =some (.map es' BP)∧es.size=es'.size∧Q5 ρ es.toList es'.toList:=by
 obtain⟨o',hw,EW,hM⟩:=hH.obj hB ho;cases EW with
 |map _ BP Fw=>exact⟨_,_,hw,by simpa using Fw.len.symm,Fw⟩
theorem SW{hn:Nat}{o:Oper}(A7:A8 P ty)(h:CJ H.ng ρ pf fr o)(hH:HR ρ H c w)(AO:CK c w){t:TypeId}{x y z:Operand}(ho:o.op= .mapUpdate t x y z∨o.op= .insert t x y z){u k v:Value}(hx:AQ H.ng pf x=some u)(hy:AQ H.ng pf y=some k)(hz:AQ H.ng pf z=some v){H':PH}(hp:Sm P ty H t u k v=some H') :
  Sound P ρ hn undef H' c w (execOp fr.eval o):=by
 have hu:=h x (by rcases ho with ho|ho<;>simp[ho,Op.operands]) _ hx;have hk:=h y (by rcases ho with ho|ho<;>simp[ho,Op.operands]) _ hy;have hv:=h z (by rcases ho with ho|ho<;>simp[ho,Op.operands]) _ hz;unfold Sm at hp;split at hp
 ·rename_i ti key elem e1;cases g1:ground 6 k with
  |false=>rw[g1]at hp; cases hp
  |true =>
   rw[g1]at hp;simp only[AG]at hp;have Yp:fr.eval y=k:=Fa 6 hk g1;split at hp
   ·rename_i r;split at hp
    ·rename_i es clock e2;split at hp
     ·rename_i un e3;have BB:execOp fr.eval o=(Instr.mapUpdate t (fr.eval x) k (fr.eval z)).bind fun _=>Sem.pure Next.skip:=by
       rw[← Yp];unfold execOp;rcases ho with ho|ho<;>(rw[ho]; rfl)
      generalize C6:fr.eval x=u' at hu BB;cases hu with
      |map hB =>
       rename_i B;obtain⟨es',BP,hw,hs,Ob⟩:=YX hH hB e2;have XA:w.heap[B.blk]? =some (.map es' BP):=hw;have pre: ∀(r:Option (Nat×Value)) (Z:Option (Nat×Value)→Sem Unit),(∀m,Z m=match m with
          |some (i,_)=>(Instr.keyThatStays (((es'[i]?).map (·.key)).getD k) k).bind fun key=>setObj B.blk (.map (es'.modify i fun e=>{e with key,val:=fr.eval z}) BP)
          |none=>setObj B.blk (.map (es'.push {key:=k,val:=fr.eval z,born:=BP}) (BP+1)))→CV P (Instr.findKey key k es'.toList)=some r→(Instr.mapUpdate t (.map (some B.blk)) k (fr.eval z)).runT P w #[]=(Z r).runT P w #[A3 B.blk false false]:=fun r Z hZ hr=>by
        unfold Instr.mapUpdate;refine(AB (s:=underlying t) (Aa (A7 _ _ e1).2)).trans ?_;refine(AB (Da hw rfl #[])).trans ?_;refine(AB (DG e3 w _)).trans ?_;refine(AB (DG hr w _)).trans ?_;rw[hZ];cases r with
        |none=>rfl
        |some x=>rfl
       split at hp
       ·rename_i i v0 e4;rcases IL (P:=P) key k Ob e4 with⟨e9,_⟩|⟨i0,e0,j,e',e9,f0,q1,f1,f2,f3,f4,f5⟩
        ·cases e9
        cases e9;split at hp
        ·rename_i e e5;rw[f0]at e5; cases e5;cases e6:Instr.sameBits 10000 e0.key k with
         |false=>rw[e6]at hp; cases hp
         |true =>
          rw[e6]at hp;simp only[AG,AE]at hp;subst hp;have Ac:j<es'.size:=by
           have:=(DU.1 f1).1;simpa using this
          have f1':es'[j]? =some e':=by simpa using f1
          have nR:=f4 {key:=k,val:=v,born:=e0.born} {key:=k,val:=fr.eval z,born:=e'.born} rfl hv;have hmod:(es'.toList.set j {key:=k,val:=fr.eval z,born:=e'.born}).toArray=es'.modify j fun e=>{e with key:=k,val:=fr.eval z}:=by
           apply Array.ext';simp only[Array.toList_modify];apply List.ext_getElem?;intro j';rw[List.getElem?_set,List.getElem?_modify];by_cases ej:j=j'
           ·subst ej;rw[AD rfl,AD (by simpa using Ac),f1];simp
           ·rw[AA ej]; simp[ej]
          refine Sound.setObj hH AO hB e2 (nR.to clock BP) (.tuple .nil) (es:= #[A3 B.blk false false,A3 B.blk true false]) (fun e he=>by simpa using he) (.inr ⟨?_,rfl⟩);rw[BB,hmod];have:(Instr.mapUpdate t (.map (some B.blk)) k (fr.eval z)).runT P w #[]=(.ok () (World.Ec w B.blk (.map (es'.modify j fun e=>{e with key:=k,val:=fr.eval z}) BP)),#[A3 B.blk false false,A3 B.blk true false]):=by
           rw[pre _ _ (fun _=>rfl) q1];simp only[f1',Bc,Option.getD_some];rw[f2];have Fw:Instr.keyThatStays e0.key k=Sem.pure k:=by
            unfold Instr.keyThatStays;rw[e6]; rfl
           rw[Fw];exact C5 XA rfl _
          rw[AB this];rfl
        ·cases hp
       ·rename_i e4;rcases IL (P:=P) key k Ob e4 with⟨_,q1⟩|⟨i0,e0,j,e',e9,_⟩
        ·simp only[AE]at hp;subst hp;have happ:=Q5.app Ob (e:={key:=k,val:=v,born:=clock}) (e':={key:=k,val:=fr.eval z,born:=BP}) rfl hv;have vO:(es'.toList++ [({key:=k,val:=fr.eval z,born:=BP}:MapEntry)]).toArray=es'.push {key:=k,val:=fr.eval z,born:=BP}:=by
          apply Array.ext'; simp
         refine Sound.setObj hH AO hB e2 (happ.to (clock+1) (BP+1)) (.tuple .nil) (es:= #[A3 B.blk false false,A3 B.blk true false]) (fun e he=>by simpa using he) (.inr ⟨?_,rfl⟩);rw[BB,vO];have:(Instr.mapUpdate t (.map (some B.blk)) k (fr.eval z)).runT P w #[]=(.ok () (World.Ec w B.blk (.map (es'.push {key:=k,val:=fr.eval z,born:=BP}) (BP+1))),#[A3 B.blk false false,A3 B.blk true false]):=by
          rw[pre _ _ (fun _=>rfl) q1];exact C5 XA rfl _
         rw[AB this];rfl
        ·cases e9
       ·cases hp
     ·cases hp
    ·cases hp
   ·cases hp
 ·cases hp
theorem Mh{hn:Nat}{o:Oper}(A7:A8 P ty)(h:CJ H.ng ρ pf fr o)(hH:HR ρ H c w)(AO:CK c w){t kt:TypeId}{x y:Operand}(ho:o.op= .call {callee:= .builtin .delete,args:= #[x,y],argTypes:= #[t,kt]}){u k:Value}(hx:AQ H.ng pf x=some u)(hy:AQ H.ng pf y=some k){H':PH}(hp:On P ty H t u k=some H') :
  Sound P ρ hn undef H' c w (execOp fr.eval o):=by
 have hu:=h x (by simp[ho,Op.operands,Call.operands]) _ hx;have hk:=h y (by simp[ho,Op.operands,Call.operands]) _ hy;unfold On at hp;split at hp
 ·rename_i ti key elem e1;cases g1:ground 6 k with
  |false=>rw[g1]at hp; cases hp
  |true =>
   rw[g1]at hp;simp only[AG]at hp;have Yp:fr.eval y=k:=Fa 6 hk g1;split at hp
   ·rename_i r;split at hp
    ·rename_i es clock e2;split at hp
     ·rename_i un e3;have BB:execOp fr.eval o=(Builtin.delete_ #[t,kt] o.type #[fr.eval x,k]).bind fun r=>Sem.pure (Next.value r):=by
       rw[De ho, ← Yp];simp only[List.map_toArray,Du,List.map_nil];rfl
      generalize C6:fr.eval x=u' at hu BB;cases hu with
      |map hB =>
       rename_i B;obtain⟨es',BP,hw,hs,Ob⟩:=YX hH hB e2;have pre: ∀(r:Option (Nat×Value)) (o':Obj),CV P (Instr.findKey key k es'.toList)=some r→o'=(match r with|some (i,_)=> .map (es'.eraseIdxIfInBounds i) BP|none=> .map es' BP)→
         (Builtin.delete_ #[t,kt] o.type #[.map (some B.blk),k]).runT P w #[]=(.ok (.tuple #[]) (World.Ec w B.blk o'),#[A3 B.blk false false,A3 B.blk true false]):=fun r o' hr Ck=>by
        unfold Builtin.delete_;simp only[G7,CM,Fg];refine(AB (s:=underlying t) (Aa (A7 _ _ e1).2)).trans ?_;refine(AB (Da hw rfl #[])).trans ?_;have jG:CV P (Instr.checkKey es'.isEmpty 10000 key k)=some un:=by rw[isEmpty_eq hs]; exact e3
        refine(AB (DG jG w _)).trans ?_;refine(AB (DG hr w _)).trans ?_;subst Ck;cases r with
        |none=>exact(AB (C5 hw rfl _)).trans rfl
        |some x=>exact(AB (C5 hw rfl _)).trans rfl
       split at hp
       ·rename_i i v0 e4;rcases IL (P:=P) key k Ob e4 with⟨e9,_⟩|⟨i0,e0,j,e',e9,f0,q1,f1,f2,f3,f4,f5⟩
        ·cases e9
        cases e9;simp only[AE]at hp;subst hp;have her:(es'.toList.eraseIdx j).toArray=es'.eraseIdxIfInBounds j:=by
         apply Array.ext';simp
        refine Sound.setObj hH AO hB e2 (f5.to clock BP) (v':= .tuple #[]) (.tuple .nil) (es:= #[A3 B.blk false false,A3 B.blk true false]) (fun e he=>by simpa using he) (.inl ?_);rw[BB,her,AB (pre _ _ q1 rfl)];rfl
       ·rename_i e4;rcases IL (P:=P) key k Ob e4 with⟨_,q1⟩|⟨i0,e0,j,e',e9,_⟩
        ·simp only[AE]at hp;subst hp;have:=Ob.to clock BP;simp only[E3]at this;refine Sound.setObj hH AO hB e2 this (v':= .tuple #[]) (.tuple .nil) (es:= #[A3 B.blk false false,A3 B.blk true false]) (fun e he=>by simpa using he) (.inl ?_);rw[BB,AB (pre _ _ q1 rfl)];rfl
        ·cases e9
       ·cases hp
     ·cases hp
    ·cases hp
   ·cases hp
 ·cases hp
theorem RO{hn:Nat}{o:Oper}(A7:A8 P ty)(h:CJ H.ng ρ pf fr o)(hH:HR ρ H c w)(AO:CK c w){x:Operand}{t:TypeId}(ho:o.op= .call {callee:= .builtin .len,args:= #[x],argTypes:= #[t]}){i:TypeInfo}{ky el:TypeId}(e1:ty.get t=some (i,.map ky el)){u:Value}(hx:AQ H.ng pf x=some u){es:Array MapEntry}{clock:Nat}(hp:Jo H u=some (es,clock)) :
  Sound P ρ hn (goInt es.size) H c w (execOp fr.eval o):=by
 have hv:=h x (by simp[ho,Op.operands,Call.operands]) _ hx;generalize C6:fr.eval x=u' at hv;unfold Jo at hp;cases hv with
 |IP =>
  simp only[AE,AR]at hp;obtain⟨rfl,rfl⟩:=hp;refine Sound.pure hH AO (.int _ _) (Ma ho C6 ?_);unfold Builtin.len_;simp only[G7,CM];refine(AB (s:=underlying t) (Aa (A7 _ _ e1).2)).trans ?_;rfl
 |map hB =>
  rename_i r B;simp only at hp;split at hp
  ·rename_i kV oq e2;simp only[AE,AR]at hp;obtain⟨rfl,rfl⟩:=hp;obtain⟨es',BP,hw,hs,Ob⟩:=YX hH hB e2;refine Sound.getObj hH AO hB e2 (.int _ _) (v':=goInt kV.size) (es:= #[A3 B.blk false false]) (fun e he=>by simpa using he) (Ma ho C6 ?_);unfold Builtin.len_;simp only[G7,CM];refine(AB (s:=underlying t) (Aa (A7 _ _ e1).2)).trans ?_;refine(AB (Da hw rfl #[])).trans ?_;rw[hs];rfl
  ·cases hp
 |_=>cases hp
end
section
variable{P:Program}{ty:DD}{ρ:Ah}{pf:PF}{fr:Frame}{H:PH}{c:Ctx}{w:World}
def LU(ok:Bool)(v:Value):Value:=if ok then .tuple #[v,.bool true]else v
def Jj(ty:DD)(x:Value)(asserted:TypeId)(ok:Bool):Option Value :=
 match ty.get asserted with
 |some (ai,ad)=>match x with
  | .nilIface=>cond ok (match ai.zero with|some z=>cond (ground 6 z) (some (.tuple #[z,.bool false])) none|none=>none) none
  | .iface t v=>match ad with
   | .interface want=>match ty.get t with
    |some (i,_)=>match Instr.missingMethod want i.methods with
     |none=>some (LU ok x)
     |some _=>cond ok (match ai.zero with|some z=>cond (ground 6 z) (some (.tuple #[z,.bool false])) none|none=>none) none
    |none=>none
   |_=>cond (Nat.beq t asserted) (some (LU ok v)) (cond ok (match ai.zero with|some z=>cond (ground 6 z) (some (.tuple #[z,.bool false])) none|none=>none) none)
  |_=>none
 |none=>none
theorem Rv{v v':Value}(h:VR ρ v v')(ok:Bool):VR ρ (LU ok v) (LU ok v'):=by
 unfold LU;cases ok with
 |true=>exact .tuple (.cons h (.cons (.bool _) .nil))
 |false=>exact h
theorem My{hn:Nat}{o:Oper}(A7:A8 P ty)(h:CJ H.ng ρ pf fr o)(hH:HR ρ H c w)(AO:CK c w){x:Operand}{xT asserted:TypeId}{ok:Bool}(ho:o.op= .typeAssert x xT asserted ok){u v:Value}(hx:AQ H.ng pf x=some u)(hp:Jj ty u asserted ok=some v):Sound P ρ hn v H c w (execOp fr.eval o):=by
 have hu:=h x (by simp[ho,Op.operands]) _ hx;unfold Jj at hp;split at hp
 ·rename_i ai ad e1;have BB: ∀{v':Value},(Instr.typeAssert (fr.eval x) xT asserted ok).runT P w #[]=(.ok v' w,#[])→VR ρ v v'→Sound P ρ hn v H c w (execOp fr.eval o):=fun hr hv=>Sound.val hH AO hv (s:=Instr.typeAssert (fr.eval x) xT asserted ok) (by unfold execOp; rw[ho]; rfl) hr;have Lj:=Aa (w:=w) (es:= #[]) (A7 _ _ e1).2;have fO: ∀(s d:Option TypeId) (m:String),cond ok (match ai.zero with|some z=>cond (ground 6 z) (some (Value.tuple #[z,.bool false])) none|none=>none) none=some v→∃v',(if ok=true then((zeroValue asserted).bind fun z=>pure (Value.tuple #[z,.bool false]))else runtimePanic (.typeAssertion s d asserted m):Sem Value).runT P w #[]=(.ok v' w,#[])∧VR ρ v v':=fun s d m hc=>by
   cases ok with
   |false=>cases hc
   |true =>
    simp only[AG]at hc;split at hc
    ·rename_i z e2;cases e3:ground 6 z with
     |false=>rw[e3]at hc; cases hc
     |true =>
      rw[e3]at hc;simp only[AG,AE]at hc;subst hc;refine⟨.tuple #[z,.bool false], ?_,.tuple (.cons (B5 6 e3) (.cons (.bool _) .nil))⟩;simp only[Ad];rw[AB (FQ A7 e1 e2 _)];rfl
    ·cases hc
  generalize C6:fr.eval x=u' at hu BB;cases hu with
  |nilIface =>
   simp only at hp;have main: ∀(s:Option TypeId),(∀(v':Value),(if ok=true then((zeroValue asserted).bind fun z=>pure (Value.tuple #[z,.bool false]))else runtimePanic (.typeAssertion s none asserted ""):Sem Value).runT P w #[]=(.ok v' w,#[])→(Instr.typeAssert .nilIface xT asserted ok).runT P w #[]=(.ok v' w,#[]))→Sound P ρ hn v H c w (execOp fr.eval o):=fun s hs=>by
    obtain⟨v',q1,q2⟩:=fO s none "" hp;exact BB (hs v' q1) q2
   cases ad with
   |interface ms =>
    refine main none fun v' UX=> ?_;unfold Instr.typeAssert;refine(AB Lj).trans ?_;exact UX
   |_ =>
    refine main (some xT) fun v' UX=> ?_;unfold Instr.typeAssert;refine(AB Lj).trans ?_;exact UX
  |iface hv =>
   rename_i t v1 xH;simp only at hp;have conc:(∀ms,ad≠ .interface ms)→cond (Nat.beq t asserted) (some (LU ok v1)) (cond ok (match ai.zero with|some z=>cond (ground 6 z) (some (Value.tuple #[z,.bool false])) none|none=>none) none)=some v→
     (∀(v':Value),(if t=asserted then pure (if ok=true then Value.tuple #[xH,.bool true]else xH)else(if ok=true then((zeroValue asserted).bind fun z=>pure (Value.tuple #[z,.bool false]))else runtimePanic (.typeAssertion (some xT) (some t) asserted "")):Sem Value).runT P w #[]=(.ok v' w,#[])→(Instr.typeAssert (.iface t xH) xT asserted ok).runT P w #[]=(.ok v' w,#[]))→Sound P ρ hn v H c w (execOp fr.eval o):=fun _ hc hs=>by
    cases e:Nat.beq t asserted with
    |true =>
     rw[e]at hc;simp only[AG,AE]at hc;subst hc;exact BB (hs _ (by rw[AD (AJ e)]; rfl)) (Rv hv ok)
    |false =>
     rw[e]at hc;simp only[Av]at hc;obtain⟨v',q1,q2⟩:=fO (some xT) (some t) "" hc;exact BB (hs v' (by rw[AA (Bl e)]; exact q1)) q2
   cases ad with
   |interface want =>
    simp only at hp;split at hp
    ·rename_i i d e2;have xX:=B6 (w:=w) (es:= #[]) (A7 _ _ e2).1;split at hp
     ·rename_i e3;simp only[AE]at hp;subst hp;refine BB (v':=LU ok (.iface t xH)) ?_ (Rv (.iface hv) ok);unfold Instr.typeAssert;refine(AB Lj).trans ?_;refine(AB xX).trans ?_;rw[e3];rfl
     ·rename_i m e3;obtain⟨v',q1,q2⟩:=fO none (some t) m hp;refine BB (v':=v') ?_ q2;unfold Instr.typeAssert;refine(AB Lj).trans ?_;refine(AB xX).trans ?_;rw[e3];exact q1
    ·cases hp
   |_ =>
    refine conc (fun ms e=>by cases e) hp fun v' UX=> ?_;unfold Instr.typeAssert;refine(AB Lj).trans ?_;exact UX
  |_=>cases hp
 ·cases hp
def pnext(H:PH)(r:Nat):Option (Value×PH) :=
 match H.t.get r with
 |some (.obj (.stringIter s pos))=>cond (Nat.blt pos s.size)
  (match Utf8.decode s pos with
   |(ch,width)=>some (.tuple #[.bool true,goInt pos,.int .i32 ch],(H.Ho (H.t.set r (.obj (.stringIter s (pos+width)))))))
  (some (.tuple #[.bool false],H))
 |_=>none
def LS(ty:DD)(H:PH)(t:TypeId)(l n:Nat):Option (Value×PH) :=
 match ty.get t with
 |some (_,.slice elem)=>match ty.get elem with
  |some (i,_)=>cond (Nat.ble l n&&(Nat.ble n 1099511627776&&(Nat.ble (i.bytes*n) 1099511627776))) (match(cond (Nat.beq (n*i.size) 0) (some []) (match i.zero with|some z=>cond (ground 6 z) (some (SO z (n*i.size))) none|none=>none))with
   |some cs=>match U7 H cs elem i.size with
    |some H'=>some (.slice (some ⟨H.next,0,none⟩) l n,H')
    |none=>none
   |none=>none) none
  |none=>none
 |_=>none
theorem OU{o:Oper}(A7:A8 P ty)(h:CJ H.ng ρ pf fr o)(hH:HR ρ H c w)(AO:CK c w){t:TypeId}{x y:Operand}(ho:o.op= .makeSlice t x y){k k':IntKind}{l n:Nat}(hx:AQ H.ng pf x=some (.int k (Int.ofNat l)))(hy:AQ H.ng pf y=some (.int k' (Int.ofNat n))){v:Value}{H':PH}(hp:LS ty H t l n=some (v,H')) :
  Sound P ρ H.next v H' c w (execOp fr.eval o):=by
 have h1:=h x (by simp[ho,Op.operands]) _ hx;have h2:=h y (by simp[ho,Op.operands]) _ hy;generalize e1:fr.eval x=u1 at h1;generalize e2:fr.eval y=u2 at h2;cases h1;cases h2;unfold LS at hp;split at hp
 ·rename_i ti elem e3;split at hp
  ·rename_i i d e4;cases e5:(Nat.ble l n&&(Nat.ble n 1099511627776&&(Nat.ble (i.bytes*n) 1099511627776)))with
   |false=>rw[e5]at hp; cases hp
   |true =>
    rw[e5]at hp;simp only[AF]at e5;obtain⟨c1,c2,c3⟩:=e5;have c1:=AH c1;have c2:=AH c2;have c3:=AH c3;simp only[AG]at hp;split at hp
    ·rename_i cs e6;split at hp
     ·rename_i H'' e7;simp only[AE,AR]at hp;obtain⟨rfl,rfl⟩:=hp;have NN:CE ρ cs cs∧∀(K:Array Value→Sem Value) es,(∀zc:Array Value,((Array.range (n*i.size)).map (fun k=>zc[k%zc.size]!)).toList=cs→(K zc).runT P w es=(.ok (.slice (some ⟨w.heap.size,0,none⟩) l n) (World.grow w (.cells cs.toArray elem)),es))→
        (if n*i.size=0 then(Sem.pure #[]).bind K else(zeroValue elem).bind fun z=>(Sem.pure z.cells).bind K).runT P w es=(.ok (.slice (some ⟨w.heap.size,0,none⟩) l n) (World.grow w (.cells cs.toArray elem)),es):=by
       cases e8:Nat.beq (n*i.size) 0 with
       |true =>
        rw[e8]at e6;have e6:=As e6;subst e6;have e8:=AJ e8;exact⟨.nil,fun K es hK=>by rw[AD e8]; exact hK #[] (by simp[e8])⟩
       |false =>
        rw[e8]at e6;have e8:=Bl e8;cases e9:i.zero with
        |none=>rw[e9]at e6; cases e6
        |some z =>
         rw[e9]at e6;simp only[Av]at e6;cases e10:ground 6 z with
         |false=>rw[e10]at e6; cases e6
         |true =>
          rw[e10]at e6;have e6:=As e6;subst e6;refine⟨O4 e10 _,fun K es hK=> ?_⟩;rw[AA e8,AB (FQ A7 e4 e9 _)];exact hK z.cells (by simp[SO])
      have hb:n≠HN:=fun e=>by
       have:HN=9223372036854775808:=rfl;omega
      refine Sound.alloc hH AO NN.1 e7 (v':= .slice (some ⟨w.heap.size,0,none⟩) l n) (.sl (a:=⟨H.next,0,none⟩) (B:=⟨w.heap.size,cs.length,i.size⟩) (Cy _ _ _) (.inl ⟨hb,rfl⟩)) ?_;have BB:execOp fr.eval o=(Instr.makeSlice t (.int k (Int.ofNat l)) (.int k' (Int.ofNat n))).bind fun r=>Sem.pure (Next.value r):=by
       unfold execOp;rw[ho];simp only[e1,e2];rfl
      have hwl:IntKind.wrap .i64 (Int.ofNat l)=Int.ofNat l:=Il (by show Nat.blt l _=true; rw[blt_eq]; exact decide_eq_true (by omega));have iQ:IntKind.wrap .i64 (Int.ofNat n)=Int.ofNat n:=Il (by show Nat.blt n _=true; rw[blt_eq]; exact decide_eq_true (by omega));have:(Instr.makeSlice t (.int k (Int.ofNat l)) (.int k' (Int.ofNat n))).runT P w #[]=(.ok (.slice (some ⟨w.heap.size,0,none⟩) l n) (World.grow w (.cells cs.toArray elem)),#[]):=by
       unfold Instr.makeSlice;refine(AB (s:=underlying t) (Aa (A7 _ _ e3).2)).trans ?_;refine(AB (s:=asInt (.int k (Int.ofNat l))) (a:=Int.ofNat l) (w':=w) (es':= #[]) rfl).trans ?_;refine(AB (s:=asInt (.int k' (Int.ofNat n))) (a:=Int.ofNat n) (w':=w) (es':= #[]) rfl).trans ?_;refine(AB (s:=typeInfo elem) (B6 (A7 _ _ e4).1)).trans ?_;have hbn:((i.bytes:Int)*Int.ofNat n)≤1099511627776:=by
        have h1:((i.bytes*n:Nat):Int)≤((1099511627776:Nat):Int):=Int.ofNat_le.2 c3;rw[Int.natCast_mul]at h1;exact h1
       have hbn':(i.bytes:Int)*(n:Int)≤1099511627776:=hbn;simp only[hwl,iQ];have v5:(((decide (Int.ofNat n<0))||(decide ((i.bytes:Int)*Int.ofNat n>2^48)))||(decide (Int.ofNat l<0))||(decide (Int.ofNat l>Int.ofNat n)))=false:=by
        simp only[Gf];simp only[Bool.or_eq_false_iff,decide_eq_false_iff_not];refine⟨⟨⟨by omega, ?_⟩,by omega⟩,by omega⟩;have:(2:Int)^48=281474976710656:=by rfl
        rw[this]; omega
       rw[AA (by rw[v5]; simp)];refine(AB (s:=askRoom _) (a:=()) (w':=w) (es':= #[]) ?_).trans ?_
       ·unfold askRoom;have: ¬(Int.ofNat n).toNat*i.bytes>roomBytes:=by
         show ¬n*i.bytes>roomBytes;rw[Nat.mul_comm];unfold roomBytes;omega
        rw[AA this];rfl
       refine(AB (runT_size (A7 _ _ e4).1)).trans ?_;refine NN.2 _ #[] fun zc rH=> ?_;have hm:((Array.range (n*i.size)).map (fun k=>zc[k%zc.size]!))=cs.toArray:=by
        apply Array.ext'; simpa using rH
       show(Result.ok (Value.slice (some ⟨w.heap.size,0,none⟩) l n) (World.grow w (.cells ((Array.range (n*i.size)).map (fun k=>zc[k%zc.size]!)) elem)),#[])=_;rw[hm]
      rw[BB,AB this];rfl
     ·cases hp
    ·cases hp
  ·cases hp
 ·cases hp
end
def CN(f:FuncId)(fn:Func)(body:Code)(args:List Value)(kind:CallKind):PF :=
 ⟨f,T.HY args .nil 0,args.length+(fn.ntmps-args.length),[.code body],[],.run,kind,none⟩
section
variable{P:Program}{ty:TypeId}{Post:Value→World→Prop}{main:Bool}{n:Nat}{E:Env}{ρ:Ah}{s:DS}{c:Ctx}{g:Goroutine}{w:World}
theorem Br.enter{f:FuncId}{fn:Func}{body:Code}(hf:P.funcs[f]? =some fn)(hb:fn.body=some body){args:List Value}{Ap:Array Value}(hl:CE ρ args Ap.toList)(hlen:args.length≤2^T.deep)(kind:CallKind):Br ρ (CN f fn body args kind) (Frame.enter P f Ap kind) []:=by
 have ia:=hl.length;simp only[FC]at ia;refine⟨rfl, ?_,⟨_,.plain ?_,fun k v hk _=> ?_⟩,.nil,.run,rfl,.none⟩
 ·simp only[Frame.enter,hf,CN,Bc,Option.getD_some,Array.size_append,Array.size_replicate];omega
 ·simp only[Frame.enter,hf,hb,CN,EC,Option.getD_some];exact .cons (.code body) .nil
 ·simp only[CN]at hk;rw[T.I3 args _ _ _ (by omega)]at hk;by_cases e:0≤k∧k<0+args.length
  ·rw[AD e]at hk;obtain⟨v',h1,h2⟩:=hl.get _ v hk;refine⟨v', ?_,h2⟩;simp only[Frame.enter,Nat.sub_zero]at h1 ⊢;rw[Array.getElem?_append_left (by omega)];simpa using h1
  ·rw[AA e]at hk;cases hk
theorem Fi{fr:Frame}{cs:List Frame}{w w':World}{all:Array Oper}{i:Nat}{rest:List Nat}{m:List Item}{o:Oper}{f:FuncId}{args:Array Value}{es:Array Event}(hr:fr.mode= .run)(ht:fr.todo= .inRegion all (i::rest)::m)(ho:all[i]? =some o)(hw:Region.wanted o (yielded all fr.tmps)=true)(hk:fr.kind≠ .early)(hd: ∀c,o.op≠ .defer c)
  (AT:(execOp fr.eval o).runT P w #[]=(.ok (.enter f args) w',es)):stepG P main (G fr cs) w= .go (G (Frame.enter P f args .normal) (fr::cs)) w' (seen P fr.fn es):=by
 rw[HQ hr ht ho hw (fun c hc=>absurd hc (hd c))];unfold stepG.apply;have Hs:(fr.kind==CallKind.early)=false:=by simpa using hk
 simp only[Ad,AT,Hs,ht];rfl
def W8(P:Program)(ρ:Ah)(f:FuncId)(args:List Value)(w:World)(s:Sem Next):Prop:= ∃Ap,CE ρ args Ap.toList∧s.runT P w #[]=(.ok (.enter f Ap) w,#[])
theorem Reach.call(_hb:main=true∨E.send≠none)(hm:s.fr.mode= .run){all:Array Oper}{i:Nat}{o:Oper}{l:List Oper}{k:List Ab}(ht:s.fr.todo= .ops all i (o::l)::k)(hk:s.fr.kind≠ .early)(hd: ∀c,o.op≠ .defer c)
  (hw:Aj s.fr all o=some true) {f:FuncId} {fn:Func} {body:Code} (hf:P.funcs[f]? =some fn) (RX:fn.body=some body) {args:List Value} (hlen:args.length≤2^T.deep)
  (hs: ∀ρ c fr w₁,CJ s.H.ng ρ s.fr fr o→HR ρ s.H c w₁→CK c w₁→W8 P ρ f args w₁ (execOp fr.eval o)) :
  Reach P ty Post main E s {s with fr:=CN f fn body args .normal,cs:=s.fr::s.cs}:=by
 refine⟨1,fun E hb n hn ρ c g w h=> ?_⟩;cases h with
 |mk D8 hc D7 ET hH AO Dx h1 h2 h3 Bv =>
  rename_i fr cs pd pds;refine W.GA rfl (hb.imp id fun e=>by rw[h1]; exact e) fun w₁ r=> ?_;obtain⟨Dj,ho,A9,rest,m,e,E0,Ky⟩:=D8.ops ht;have DN:=hH.rely r;have BY:=AO.rely r;obtain⟨Ap,a1,a2⟩:=hs ρ c fr w₁ (CJ.of A9 DN o) DN BY;have Aq:=Fi (P:=P) (main:=main) (cs:=cs++E.base) ((Br.run D8) hm) e ho (BE (fun _ _ t v _ _ hv=>A9 t v hv) hw) (by rw[D8.kind]; exact hk) hd a2;have IU:seen P fr.fn #[]= #[]:=by rw[seen_def]; rfl
  refine⟨_,w₁,_,c.M,c.R,Aq,rfl,Ca.refl BY,by rw[IU]; exact BQ.nil _ _ _, ?_⟩;rw[IU];have Oz:DR E ρ {s with fr:=CN f fn body args .normal,cs:=s.fr::s.cs} c (G (Frame.enter P f Ap .normal) (fr::cs++E.base)) w₁ :=
   .mk (Br.enter hf RX a1 hlen .normal) (.cons D8 hc) (by simpa using D7) (by simpa using ET) DN BY Dx h1 h2 h3 (Bv.rely r)
  exact hn ρ c _ w₁ Oz
def Ol(ty:DD)(H:PH)(tmps:T Value):ResultVar→Option Value
 | .tmp t=>tmps.get t
 | .cell a t=>match tmps.get a with
  |some (.pointer (some x))=>Ru ty H t x
  |_=>none
def Db(ty:DD)(H:PH)(tmps:T Value)(l:List ResultVar):Option (List Value) :=
 List.rec (motive:=fun _=>Option (List Value)) (some []) (fun x _ ih=>match Ol ty H tmps x with
  |some v=>match ih with
   |some l=>some (v::l)
   |none=>none
  |none=>none) l
def HV(l:List Value):Value:=match l with
 | [v]=>v
 |l=> .tuple l.toArray
end
section
variable{P:Program}{ty:DD}{ρ:Ah}{H:PH}{c:Ctx}{w:World}
theorem UP.yL{b lo hi:Nat}{l:List Event}(h:UP b lo hi l)(h':c.M b∨∀k,lo≤k→k<hi→c.R ⟨b,k,none⟩):JZ c l:=fun e he=>by
 obtain⟨k,k1,k2,rfl⟩:=h e he;refine⟨_,rfl,rfl, ?_⟩;rcases h' with h'|h'
 ·exact .inl h'
 ·exact .inr (h' k k1 k2)
def Sg(tm:Array Value):ResultVar→Sem Value
 | .tmp t=>pure (tm.getD t undef)
 | .cell a t=>do loadVar t (← asAddr (tm.getD a undef))
theorem Nr(A7:A8 P ty)(hH:HR ρ H c w){tmps:T Value}{tm:Array Value}(hv: ∀k v,tmps.get k=some v→∃v',tm[k]? =some v'∧VR ρ v v'): ∀{l:List ResultVar} {vs:List Value},Db ty H tmps l=some vs→∀es,∃Of ev,CE ρ vs Of∧JZ c ev∧
  (l.mapM (Sg tm)).runT P w es=(.ok Of w,es++ev.toArray)
 | [],vs,h,es=>by
  have:vs= []:=(As h).symm;subst this;exact⟨[],[],.nil,(fun e he=>by cases he),by rw[List.mapM_nil]; simp[pure]⟩
 |x::l,vs,h,es=>by
  have h:(match Ol ty H tmps x with
   |some v=>match Db ty H tmps l with
    |some l=>some (v::l)
    |none=>none
   |none=>none)=some vs:=h
  cases e1:Ol ty H tmps x with
  |none=>rw[e1]at h; cases h
  |some v =>
   rw[e1]at h;simp only at h;cases e2:Db ty H tmps l with
   |none=>rw[e2]at h; cases h
   |some us =>
    rw[e2]at h;simp only[AE]at h;subst h;have hx: ∃v' ev,VR ρ v v'∧JZ c ev∧(Sg tm x).runT P w es=(.ok v' w,es++ev.toArray):=by
     cases x with
     |tmp t =>
      obtain⟨v',h1,h2⟩:=hv t v e1;refine⟨v',[],h2,(fun e he=>by cases he), ?_⟩;have:tm.getD t undef=v':=by rw[Bt,h1]; rfl
      simp[Sg,this,pure]
     |cell a t =>
      simp only[Ol]at e1;split at e1
      ·rename_i x e3;obtain⟨p',h1,h2⟩:=hv a _ e3;cases h2 with
       |ptr hB =>
        rename_i B;obtain⟨v',l,q1,q2,lo,hi,q4,q5⟩:=run_load (P:=P) A7 hH e1 hB es;refine⟨v',l,q1,q4.yL q5, ?_⟩;have:tm.getD a undef= .pointer (some {x with block:=B.blk}):=by rw[Bt,h1]; rfl
        simp only[Sg,this];exact q2
      ·cases e1
    obtain⟨v',ev,g1,g2,g3⟩:=hx;obtain⟨xz,ev2,f1,f2,f3⟩:=Nr A7 hH hv e2 (es++ev.toArray);refine⟨v'::xz,ev++ev2,.cons g1 f1,g2.append f2, ?_⟩;rw[List.mapM_cons];refine(AB g3).trans ?_;refine(AB f3).trans ?_;simp[pure]
theorem Es(A7:A8 P ty)(hH:HR ρ H c w){tmps:T Value}{tm:Array Value}(hv: ∀k v,tmps.get k=some v→∃v',tm[k]? =some v'∧VR ρ v v'){fn:Func}{vs:List Value}(h:Db ty H tmps fn.results.toList=some vs) :
  ∃v' ev,VR ρ (HV vs) v'∧JZ c ev∧(results fn tm).runT P w #[]=(.ok v' w,ev.toArray):=by
 obtain⟨Of,ev,h1,h2,h3⟩:=Nr (P:=P) A7 hH hv h #[];refine⟨HV Of,ev, ?_,h2, ?_⟩
 ·cases h1 with
  |nil=>exact .tuple .nil
  |cons a t=>cases t with
   |nil=>exact a
   |cons b t=>exact .tuple (.cons a (.cons b t))
 ·unfold results;rw[Array.mapM_eq_mapM_toList];have h3':((fn.results.toList.mapM (Sg tm)).bind fun l=>Sem.pure l.toArray).runT P w #[]=(.ok Of.toArray w,ev.toArray):=by
   rw[AB h3];simp[Sem.runT]
  refine(AB h3').trans ?_;cases Of with
  |nil=>rfl
  |cons a t=>cases t with
   |nil=>rfl
   |cons b t=>simp[HV,pure]
end
section
variable{P:Program}{ty:TypeId}{E7:DD}{Post:Value→World→Prop}{main:Bool}{n:Nat}{E:Env}{ρ:Ah}{s:DS}{c:Ctx}{g:Goroutine}{w:World}
theorem Er{fr:Frame}{cs:List Frame}{w w':World}{fn:Func}{v:Value}{es:Array Event}(hr:fr.mode= .returning)(hd:fr.defers= [])(hf:P.funcs[fr.fn]? =some fn)(AT:(results fn fr.tmps).runT P w #[]=(.ok v w',es)) :
  stepG P main (G fr cs) w=(doReturn P main fr cs none v w').after (seen P fr.fn es):=by
 have e1:stepG P main (G fr cs) w=unwind P main fr cs none w:=by simp[stepG,G,hr]
 rw[e1];unfold unwind;simp only[hd,hr,hf,AT]
theorem FB(es es':Array Event)(g:Goroutine)(w:World):(GStep.go g w es').after es= .go g w (es++es'):=rfl
def At:List Ab→Bool
 | .CH .. ::_| .dcall .. ::_=>false
 |_=>true
theorem Br.Dl{pf:PF}{fr:Frame}{pd:List Nat}(h:Br ρ pf fr pd)(hp:At pf.todo=true):pd= []∧LR (Ic ρ) pf.todo fr.todo∧∀k v,pf.tmps.get k=some v→∃v',fr.tmps[k]? =some v'∧VR ρ v v' :=
 h.plain (fun _ _ _ _ e=>by rw[e]at hp; cases hp) (fun _ _ _ _ _ e=>by rw[e]at hp; cases hp)
theorem Reach.ret(A7:A8 P E7)(_hb:main=true∨E.send≠none)(hm:s.fr.mode= .returning)(G2:s.fr.defers= [])(JG:At s.fr.todo=true)(hk:s.fr.kind= .normal){fn:Func}(hf:P.funcs[s.fr.fn]? =some fn){vs:List Value}(hv:Db E7 s.H s.fr.tmps fn.results.toList=some vs)
  {pf:PF} {cs':List PF} (NN:s.cs=pf::cs') {all:Array Oper} {i:Nat} {o:Oper} {l:List Oper} {k:List Ab} (ht:pf.todo= .ops all i (o::l)::k) {tm:T Value} (hp:By pf o.dst (HV vs)=some tm) :
  Reach P ty Post main E s {s with fr:={pf with tmps:=tm,todo:= .ops all (i+1) l::k},cs:=cs'}:=by
 refine⟨1,fun E hb n hn ρ c g w h=> ?_⟩;obtain⟨fr0,gY,H0,d0⟩:=s;simp only at hm G2 JG hk hf hv NN hn ⊢;subst NN;cases h with
 |mk D8 hc D7 ET hH AO Dx h1 h2 h3 Bv =>
  rename_i fr cs pd pds;cases hc with
  |cons E1 Oc =>
   rename_i B4 BD Xm LW;refine W.GA rfl (hb.imp id fun e=>by rw[h1]; exact e) fun w₁ r=> ?_;obtain⟨Dj,_,A9⟩:=D8.Dl JG;have DN:=hH.rely r;have BY:=AO.rely r;obtain⟨v',ev,q1,q2,q3⟩:=Es (P:=P) A7 DN A9 hv;have Dp:fr.mode= .returning:=by
    have:=D8.mode;simp only at this;rw[hm]at this;generalize fr.mode=b at this;cases this; rfl
   have I1:fr.defers= []:=by
    have:=D8.defers;simp only at this;rw[G2]at this;exact this.Co
   have Aq:=Er (P:=P) (main:=main) (cs:=(B4::BD)++E.base) Dp I1 (by rw[D8.fn]; exact hf) q3;have WR:doReturn P main fr ((B4::BD)++E.base) none v' w₁= .go (G (B4.finish v') (BD++E.base)) w₁:=by
    have KZ:fr.kind= .normal:=by rw[D8.kind]; exact hk
    simp[doReturn,KZ,G]
   rw[WR,FB]at Aq;have eD:=(E1.ops ht).1;have Ch:=EH P fr.fn ev.toArray;have oD:deafBehind c.d (seen P fr.fn ev.toArray++ #[])=c.d:=Cl _ _ fun e he=>q2.Kg e (Ch e (by simpa using he));refine⟨_,w₁,_,c.M,c.R,Aq,rfl,Ca.refl BY,(q2.Hj w₁).sub fun e he=>Ch e (by simpa using he), ?_⟩;rw[oD];have Ff:=E1.put ht hp q1;subst Dj eD;exact hn ρ c _ w₁ (.mk Ff Oc (by simpa using D7) (by simpa using ET) DN BY Dx h1 h2 h3 (Bv.rely r))
end
def A4(fn:Func):Bool:=match fn.body with
 |some _=> !(fn.name== "runtime.NumGoroutine")
 |none=>false
section
variable{P:Program}{E7:DD}{ρ:Ah}{pf:PF}{fr:Frame}{H:PH}{c:Ctx}{w:World}
theorem EA{f:FuncId}{fn:Func}(hf:P.funcs[f]? =some fn)(hp:A4 fn=true)(args:Array Value)(es:Array Event):(callFunc f args).runT P w es=(.ok (.enter f args) w,es):=by
 unfold A4 at hp;cases hb:fn.body with
 |none=>rw[hb]at hp; cases hp
 |some b =>
  rw[hb]at hp;have hn:(fn.name== "runtime.NumGoroutine")=false:=by simpa using hp
  unfold callFunc;refine(AB (s:=program) (a:=P) (w':=w) (es':=es) rfl).trans ?_;simp only[hf,hn,hb];rfl
theorem H5{o:Oper}(h:CJ H.ng ρ pf fr o){f:Operand}{AAe:Array Operand}{EY:Array TypeId}(ho:o.op= .call {callee:= .value f,args:=AAe,argTypes:=EY}){g:FuncId}{xs ys:Array Value}(hx:AQ H.ng pf f=some (.func (.func g) xs ys)){fn:Func}(hf:P.funcs[g]? =some fn)(hp:A4 fn=true)
  {vs:List Value} (hv:Eh H.ng pf AAe.toList=some vs):W8 P ρ g (xs.toList++vs++ys.toList) w (execOp fr.eval o):=by
 have h1:=h f (by simp[ho,Op.operands,Call.operands]) _ hx;have h2:=DO h (fun z hz=>by rw[ho]; simp[Op.operands,Call.operands]at hz ⊢; exact .inr hz) hv;generalize C6:fr.eval f=u at h1;cases h1 with
 |func Gv Au Li =>
  rename_i NS xs' Ij;cases Gv;refine⟨xs'++AAe.map fr.eval++Ij,by simpa using(Au.append h2).append Li, ?_⟩;have BB:execOp fr.eval o=callFunc g (xs'++AAe.map fr.eval++Ij):=by
   unfold execOp;rw[ho];simp only[resolve,C6];rfl
  rw[BB];exact EA hf hp _ _
def Om(E7:DD)(t:TypeId)(name:String):Option FuncId :=
 match E7.get t with
 |some (i,d)=>match i.methods.find? (·.name==name)with
  |some m=>match m.path.toList with
   | []=>match m.func with
    |some (f,b)=>match d with
     | .pointer _=>cond b (some f) none
     |_=>cond b none (some f)
    |none=>none
   |_=>none
  |none=>none
 |none=>none
theorem XV(A7:A8 P E7){t:TypeId}{name:String}{f:FuncId}(h:Om E7 t name=some f)(v:Value)(k:Nat)(es:Array Event):(method (k+1) t v name).runT P w es=(.ok (f,v) w,es):=by
 unfold Om at h;split at h
 ·rename_i i d e1;split at h
  ·rename_i m e2;split at h
   ·rename_i e3;split at h
    ·rename_i f' b e4;unfold method;refine(AB (s:=typeInfo t) (B6 (A7 _ _ e1).1)).trans ?_;rw[e2];simp only
     rw[e3];refine(AB (s:=follow [] t (.val v)) (a:=(t,.val v)) (w':=w) (es':=es) rfl).trans ?_;simp only[e4];have Lj:=Aa (w:=w) (es:=es) (A7 _ _ e1).2;have hrec: ∀wr,(receiverAt t (.val v) b wr).runT P w es=(.ok v w,es)∧f'=f:=fun wr=>by
      unfold receiverAt;cases b with
      |true =>
       cases d with
       |pointer e=>cases h; exact⟨(AB Lj).trans rfl,rfl⟩
       |_=>cases h
      |false =>
       cases d with
       |pointer e=>cases h
       |_=>cases h; exact⟨(AB Lj).trans rfl,rfl⟩
     obtain⟨h1,rfl⟩:=hrec (if m.path.isEmpty then some ((name.splitOn ".").getLastD name)else none);refine(AB h1).trans ?_;rfl
    ·cases h
   ·cases h
  ·cases h
 ·cases h
theorem UE(A7:A8 P E7){o:Oper}(h:CJ H.ng ρ pf fr o){r:Operand}{name:String}{AAe:Array Operand}{EY:Array TypeId}(ho:o.op= .call {callee:= .invoke r name,args:=AAe,argTypes:=EY}){t:TypeId}{v:Value}(hx:AQ H.ng pf r=some (.iface t v)){g:FuncId}(hm:Om E7 t name=some g){fn:Func}(hf:P.funcs[g]? =some fn)(hp:A4 fn=true)
  {vs:List Value} (hv:Eh H.ng pf AAe.toList=some vs):W8 P ρ g (v::vs) w (execOp fr.eval o):=by
 have h1:=h r (by simp[ho,Op.operands,Call.operands]) _ hx;have h2:=DO h (fun z hz=>by rw[ho]; simp[Op.operands,Call.operands]at hz ⊢; exact .inr hz) hv;generalize C6:fr.eval r=u at h1;cases h1 with
 |iface xV =>
  rename_i v';refine⟨#[v']++AAe.map fr.eval,by simpa using CE.cons xV h2, ?_⟩;have BB:execOp fr.eval o=callMethod (.iface t v') name (AAe.map fr.eval):=by
   unfold execOp;rw[ho];simp only[resolve,C6];show invoke (.fn (.method name) #[]) (#[.iface t v']++AAe.map fr.eval)=_;unfold invoke;have e1:(#[Value.iface t v']++AAe.map fr.eval)[0]? =some (.iface t v'):=by
    rw[Array.getElem?_append_left (by simp)]; rfl
   have e2:(#[Value.iface t v']++AAe.map fr.eval).extract 1 (#[Value.iface t v']++AAe.map fr.eval).size=AAe.map fr.eval:=by
    apply Array.ext';simp;exact List.take_of_length_le (by simp)
   simp only[e1,e2]
  rw[BB];unfold callMethod;refine(AB (s:=program) (a:=P) (w':=w) (es':= #[]) rfl).trans ?_;obtain⟨k,hk⟩: ∃k,P.types.size+Made.depth=k+1:=⟨P.types.size+Made.depth-1,by
   have:0<Made.depth:=by decide
   omega⟩
  rw[hk];refine(AB (XV A7 hm v' k #[])).trans ?_;exact EA hf hp _ _
end
section
variable{P:Program}{ty:TypeId}{E7:DD}{Post:Value→World→Prop}{main:Bool}{n:Nat}{E:Env}{ρ:Ah}{s:DS}{c:Ctx}{g:Goroutine}{w:World}
theorem UY.MG{a b:FrameMode}(h:UY ρ a b):(a= .run→b= .run)∧(a= .returning→b= .returning):=by
 cases h with
 |run=>exact⟨fun _=>rfl,(fun e=>by cases e)⟩
 |returning=>exact⟨(fun e=>by cases e),fun _=>rfl⟩
 |panicking _=>exact⟨(fun e=>by cases e),(fun e=>by cases e)⟩
theorem Reach.J6(_hb:main=true∨E.send≠none){IC:PF}{cs':List PF}
  (Aq: ∀(E:Env) ρ c fr cs pd pds w,Br ρ s.fr fr pd→Q8 ρ s.cs cs pds→HR ρ s.H c w→CK c w→∃JN JP JF Gy ev,Br ρ IC JN JF∧Q8 ρ cs' JP Gy∧(JF++Gy).Sublist (pd++pds)∧JZ c ev∧stepG P main (G fr (cs++E.base)) w= .go (G JN (JP++E.base)) w (seen P fr.fn ev.toArray)) :
  Reach P ty Post main E s {s with fr:=IC,cs:=cs'}:=by
 refine⟨1,fun E hb n hn ρ c g w h=> ?_⟩;cases h with
 |mk hf hc D7 ET hH AO Dx h1 h2 h3 Bv =>
  rename_i fr cs pd pds;refine W.GA rfl (hb.imp id fun e=>by rw[h1]; exact e) fun w₁ r=> ?_;obtain⟨JN,JP,JF,Gy,ev,q1,q2,q3,q4,q5⟩:=Aq E ρ c fr cs pd pds w₁ hf hc (hH.rely r) (AO.rely r);have Ch:=EH P fr.fn ev.toArray;have G2:deafBehind c.d (seen P fr.fn ev.toArray)=c.d:=Cl _ _ fun e he=>q4.Kg e (Ch e he);refine⟨_,w₁,_,c.M,c.R,q5,rfl,Ca.refl (AO.rely r),(q4.Hj w₁).sub Ch, ?_⟩;rw[G2];exact hn ρ c _ w₁ (.mk q1 q2 (D7.sublist q3) (fun b hb=>ET b (q3.subset hb)) (hH.rely r) (AO.rely r) Dx h1 h2 h3 (Bv.rely r))
theorem D6{fr:Frame}{cs:List Frame}{w:World}{all:Array Oper}{i:Nat}{rest:List Nat}{m:List Item}{o:Oper}(hr:fr.mode= .run)(ht:fr.todo= .inRegion all (i::rest)::m)(ho:all[i]? =some o)(hw:Region.wanted o (yielded all fr.tmps)=true)(hd: ∀c,o.op= .defer c→fr.roundOf=none) :
  stepG P main (G fr cs) w=stepG.apply P true fr cs none (execOp fr.eval o) w:=HQ hr ht ho hw hd
def EM(ng:Nat)(pf:PF)(o:Oper)(c:Call):Option Deferred :=
 match Eh ng pf c.args.toList with
 |some vs=>match c.callee with
  | .value f=>match AQ ng pf f with
   |some (.func fn xs ys)=>match fn with
    | .func g=>some ⟨.fn (.func g) ys,(xs.toList++vs).toArray⟩
    |_=>none
   |_=>none
  | .builtin b=>some ⟨.builtin b c.argTypes o.type (c.args.map fun| .const _=>true|_=>false),vs.toArray⟩
  |_=>none
 |none=>none
theorem HD{pf:PF}{fr:Frame}{H:PH}{o:Oper}(h:CJ H.ng ρ pf fr o){cl:Call}(ho:o.op= .defer cl){d:Deferred}(hp:EM H.ng pf o cl=some d): ∃d',SN ρ d d'∧(execOp fr.eval o).runT P w #[]=(.ok (.defer d') w,#[]):=by
 unfold EM at hp;split at hp
 ·rename_i vs e1;have h2:=DO h (fun z hz=>by rw[ho]; simp[Op.operands,Call.operands]at hz ⊢; exact .inr hz) e1;obtain⟨callee,AAe,EY⟩:=cl;simp only at hp h2;cases callee with
  |value f =>
   simp only at hp;split at hp
   ·rename_i fn xs ys e2;have h1:=h f (by simp[ho,Op.operands,Call.operands]) _ e2;split at hp
    ·rename_i g;simp only[AE]at hp;subst hp;generalize C6:fr.eval f=u at h1;cases h1 with
     |func Gv Au Li =>
      rename_i NS xs' Ij;cases Gv;refine⟨⟨.fn (.func g) Ij,xs'++AAe.map fr.eval⟩,.mk (.fn (.func g) Li) (by simpa using Au.append h2), ?_⟩;unfold execOp;rw[ho];simp only[resolve,C6];rfl
    ·cases hp
   ·cases hp
  |invoke r nm=>cases hp
  |builtin b =>
   simp only[AE]at hp;subst hp;refine⟨_,.mk (.builtin b EY o.type _) (xs':=AAe.map fr.eval) (by simpa using h2), ?_⟩;unfold execOp;rw[ho];rfl
 ·cases hp
theorem Reach.defer(hb:main=true∨E.send≠none)(hm:s.fr.mode= .run){all:Array Oper}{i:Nat}{o:Oper}{l:List Oper}{k:List Ab}(ht:s.fr.todo= .ops all i (o::l)::k)(hk:s.fr.kind≠ .early){cl:Call}(A5:o.op= .defer cl)(Tg:s.fr.round=none)
  (hw:Aj s.fr all o=some true) {d:Deferred} (hd:EM s.H.ng s.fr o cl=some d) {tm:T Value} (hp:By s.fr o.dst undef=some tm) :
  Reach P ty Post main E s {s with fr:={s.fr with tmps:=tm,todo:= .ops all (i+1) l::k,defers:=d::s.fr.defers}}:=by
 refine Reach.J6 (cs':=s.cs) hb fun E ρ c fr cs pd pds w hf hc hH AO=> ?_;obtain⟨Dj,ho,A9,rest,m,e,E0,Ky⟩:=hf.ops ht;obtain⟨d',d1,d2⟩:=HD (P:=P) (w:=w) (CJ.of A9 hH o) A5 hd;have I0:fr.roundOf=none:=by
  have:=hf.round;rw[Tg]at this;generalize fr.roundOf=b at this;cases this; rfl
 have BO:=hf.put ht hp (v':=undef) (.tuple .nil);have vr:Br ρ {s.fr with tmps:=tm,todo:= .ops all (i+1) l::k,defers:=d::s.fr.defers} (({fr with defers:=d'::fr.defers}:Frame).finish undef) []:=by
  have e1:({fr with defers:=d'::fr.defers}:Frame).finish undef={fr.finish undef with defers:=d'::fr.defers}:=by
   rw[BV (fr:={fr with defers:=d'::fr.defers}) e ho,BV e ho]
  rw[e1];exact⟨BO.fn,BO.size,BO.todo,.cons d1 hf.defers,BO.mode,BO.kind,BO.round⟩
 refine⟨_,cs,[],pds,[],vr,hc,by subst Dj; simp,(fun e he=>by cases he), ?_⟩;rw[D6 (Br.run hf hm) e ho (BE (fun _ _ t v _ _ hv=>A9 t v hv) hw) (fun _ _=>I0)];unfold stepG.apply;have Hs:(fr.kind==CallKind.early)=false:=by
  have:fr.kind≠ .early:=by rw[hf.kind]; exact hk
  simpa using this
 simp only[Ad,d2,Hs];rfl
theorem DZ{fr:Frame}{cs:List Frame}{w:World}(hr:fr.mode≠ .run):stepG P main (G fr cs) w=unwind P main fr cs none w:=by
 unfold stepG G;cases hm:fr.mode with
 |run=>exact absurd hm hr
 |returning=>simp only[hm]
 |panicking l=>simp only[hm]
theorem UY.La{a b:FrameMode}(h:UY ρ a b)(ha:a≠ .run):b≠ .run:=by
 cases h with
 |run=>exact absurd rfl ha
 |returning=>simp
 |panicking _=>simp
theorem Reach.callDeferred(hb:main=true∨E.send≠none)(hm:s.fr.mode≠ .run){f:FuncId}{ys:Array Value}{AAe:Array Value}{ds:List Deferred}(hd:s.fr.defers=⟨.fn (.func f) ys,AAe⟩::ds){fn:Func}{body:Code}(hf:P.funcs[f]? =some fn)(RX:fn.body=some body)(kB:A4 fn=true)(hlen:AAe.size+ys.size≤2^T.deep) :
  Reach P ty Post main E s {s with fr:=CN f fn body (AAe.toList++ys.toList) .deferred,cs:={s.fr with defers:=ds}::s.cs}:=by
 refine Reach.J6 hb fun E ρ c fr cs pd pds w Ff hc hH AO=> ?_;have G2:=Ff.defers;rw[hd]at G2;obtain⟨d',XG,e1,IX,Ys⟩:=G2.cons_inv;cases IX with
 |mk ht hx =>
  rename_i t' xs';cases ht with
  |fn Gv Li =>
   rename_i NS Ij;cases Gv;refine⟨Frame.enter P f (xs'++Ij) .deferred,{fr with defers:=XG}::cs,[],pd++pds,[],Br.enter hf RX (by simpa using hx.append Li) (by simpa using hlen) .deferred,.cons ⟨Ff.fn,Ff.size,Ff.todo,Ys,Ff.mode,Ff.kind,Ff.round⟩ hc,by simp,(fun e he=>by cases he), ?_⟩;rw[DZ (Ff.mode.La hm)];unfold unwind;simp only[e1];unfold Go.callDeferred;have hinv:invoke (.fn (.func f) Ij) xs'=callFunc f (xs'++Ij):=rfl;rw[hinv,EA hf kB];rfl
theorem Reach.Y5(_hb:main=true∨E.send≠none)(hm:s.fr.mode≠ .run){b:Builtin}{EY:Array TypeId}{t:TypeId}{gY:Array Bool}{AAe:Array Value}{ds:List Deferred}(hd:s.fr.defers=⟨.builtin b EY t gY,AAe⟩::ds){v:Value}{H':PH}(Mv:s.H.next≤H'.next)
  (hs: ∀ρ c w₁ bJ,CE ρ AAe.toList bJ.toList→HR ρ s.H c w₁→CK c w₁→Sound P ρ s.H.next v H' c w₁ (builtin b EY t gY bJ)) :
  Reach P ty Post main E s {s with fr:={s.fr with defers:=ds},H:=H'}:=by
 refine⟨1,fun E hb n hn ρ c g w h=> ?_⟩;cases h with
 |mk hf hc D7 ET hH AO Dx h1 h2 h3 Bv =>
  rename_i fr cs pd pds;refine W.GA rfl (hb.imp id fun e=>by rw[h1]; exact e) fun w₁ r=> ?_;have DN:=hH.rely r;have BY:=AO.rely r;have G2:=hf.defers;rw[hd]at G2;obtain⟨d',XG,e1,IX,Ys⟩:=G2.cons_inv;cases IX with
  |mk Zl hx =>
   rename_i t' xs';cases Zl with
   |builtin _ _ _ _ =>
    obtain⟨ρ',M',R',v',w',es,a1,a2,a3,a4,a5,a6,a7,a8,a9⟩:=hs ρ c w₁ xs' hx DN BY;have Ch:=EH P fr.fn es;have Aq:stepG P main (G fr (cs++E.base)) w₁= .go (G {fr with defers:=XG} (cs++E.base)) w' (seen P fr.fn es):=by
     rw[DZ (hf.mode.La hm)];unfold unwind;simp only[e1];unfold Go.callDeferred;have hinv:invoke (.builtin b EY t gY) xs'=builtin b EY t gY xs':=rfl;rw[hinv];rcases a3 with a3|⟨a3,_⟩
     ·rw[a3]; simp only[FB,DF]; rfl
     ·rw[a3]; simp only[FB,DF]; rfl
    have eX:deafBehind c.d (seen P fr.fn es)=c.d:=Cl _ _ fun e he=>a8 e (Ch e he);refine⟨_,w',_,M',R',Aq,rfl,a6,a7.sub Ch, ?_⟩;rw[eX];have Fx:=hf.mono a1;refine hn ρ' {c with M:=M',R:=R'} _ w' (.mk ⟨Fx.fn,Fx.size,Fx.todo,Ys.mono fun _ _=>SN.mono a1,Fx.mode,Fx.kind,Fx.round⟩ (hc.mono a1) D7 (fun b' B7=> ?_) a4 a5 Dx h1 h2 h3 ((Bv.rely r).step BY a6 a9 a1));obtain⟨q1,q2⟩:=ET b' B7;refine⟨?_,AV q2 Mv⟩;cases hx:ρ' b' with
    |none=>rfl
    |some B =>
     rcases a9.new b' B hx with h|h
     ·rw[q1]at h; cases h
     ·omega
end
def NA:FrameMode→Option FrameMode
 | .panicking (e::Py)=>if e.recovered then(match Py.dropWhile (fun e=> !e.goexit)with
  | []=>some .returning
  |_=>none)else some (.panicking (e::Py))
 |m=>some m
def Sq(vs:List PanicEntry):FrameMode→FrameMode
 | .panicking ch=> .panicking (vs++ch)
 |_=> .panicking vs
section
variable{P:Program}{ty:TypeId}{E7:DD}{Post:Value→World→Prop}{main:Bool}{n:Nat}{E:Env}{ρ:Ah}{s:DS}{c:Ctx}{g:Goroutine}{w:World}
theorem LR.app{α β:Type}{R:α→β→Prop}{a a':List α}{b b':List β}(h:LR R a b)(h':LR R a' b'):LR R (a++a') (b++b'):=by
 induction h with
 |nil=>exact h'
 |cons h _ ih=>exact .cons h ih
theorem Br.raise{pf:PF}{fr:Frame}{pd:List Nat}(h:Br ρ pf fr pd){vs:List PanicEntry}{Of:List PanicEntry}(hv:LR (xx ρ) vs Of):Br ρ {pf with mode:=Sq vs pf.mode} (fr.raise Of) pd:=by
 have hm:=h.mode;have key: ∀m',m'=fr.mode→∃m,fr.raise Of={fr with mode:=m}∧UY ρ (Sq vs pf.mode) m:=fun m' e=>by
  generalize pf.mode=a at hm;unfold Frame.raise;rw[← e]at hm ⊢;cases hm with
  |run=>exact⟨_,rfl,.panicking hv⟩
  |returning=>exact⟨_,rfl,.panicking hv⟩
  |panicking hl=>exact⟨_,rfl,.panicking (hv.app hl)⟩
 obtain⟨m,e1,e2⟩:=key _ rfl;rw[e1];exact⟨h.fn,h.size,h.todo,h.defers,e2,h.kind,h.round⟩
theorem Reach.panic(hb:main=true∨E.send≠none)(hm:s.fr.mode= .run){all:Array Oper}{i:Nat}{o:Oper}{l:List Oper}{k:List Ab}(ht:s.fr.todo= .ops all i (o::l)::k)(hk:s.fr.kind≠ .early){x:Operand}(A5:o.op= .panic x)
  (hw:Aj s.fr all o=some true) {t:TypeId} {v:Value} (hx:AQ s.H.ng s.fr x=some (.iface t v)):Reach P ty Post main E s {s with fr:={s.fr with mode:= .panicking [⟨.iface t v,false,false⟩]}}:=by
 refine Reach.J6 (cs':=s.cs) hb fun E ρ c fr cs pd pds w hf hc hH AO=> ?_;obtain⟨Dj,ho,A9,rest,m,e,E0,Ky⟩:=hf.ops ht;have h1:=CJ.of A9 hH o x (by simp[A5,Op.operands]) _ hx;generalize C6:fr.eval x=u at h1;cases h1 with
 |iface hv =>
  rename_i v';have Ff:=hf.raise (vs:= [⟨.iface t v,false,false⟩]) (.cons (.mk false false (.iface hv)) .nil);rw[hm]at Ff;refine⟨fr.raise [⟨.iface t v',false,false⟩],cs,pd,pds,[],Ff,hc,by simp,(fun e he=>by cases he), ?_⟩;rw[D6 (Br.run hf hm) e ho (BE (fun _ _ t v _ _ hv=>A9 t v hv) hw) (fun c hc=>by rw[A5]at hc; cases hc)];have AT:(execOp fr.eval o).runT P w #[]=(.halt (.panic (.iface t v')) w,#[]):=by
   unfold execOp;rw[A5];simp only[C6];rfl
  unfold stepG.apply;have Hs:(fr.kind==CallKind.early)=false:=by
   have:fr.kind≠ .early:=by rw[hf.kind]; exact hk
   simpa using this
  simp only[Ad,AT,Hs];rfl
theorem Reach.gi(hb:main=true∨E.send≠none){chain:List PanicEntry}(hm:s.fr.mode= .panicking chain)(hd:s.fr.defers= []){fn:Func}(hf:P.funcs[s.fr.fn]? =some fn){pf:PF}{cs':List PF}(NN:s.cs=pf::cs') :
  Reach P ty Post main E s {s with fr:={pf with mode:=Sq chain pf.mode},cs:=cs'}:=by
 refine Reach.J6 hb fun E ρ c fr cs pd pds w Ff hc hH AO=> ?_;rw[NN]at hc;cases hc with
 |cons E1 Oc =>
  rename_i B4 BD Xm LW;have Dp:=Ff.mode;rw[hm]at Dp;generalize Fx:fr.mode=fm at Dp;cases Dp with
  |panicking hl =>
   rename_i ou;have I1:fr.defers= []:=by
    have:=Ff.defers;rw[hd]at this;exact this.Co
   refine⟨B4.raise ou,BD,Xm,LW,[],E1.raise hl,Oc,by simp,(fun e he=>by cases he), ?_⟩;rw[DZ (by rw[Fx]; simp)];unfold unwind;have aX:fr.catches P=false:=by
    unfold Frame.catches;rw[Ff.fn,hf]
   simp only[I1,Fx,aX];have IU:seen P fr.fn (([]:List Event).toArray)= #[]:=by rw[seen_def]; rfl
   rw[IU];rfl
theorem Yy{a b:List PanicEntry}(h:LR (xx ρ) a b):a.dropWhile (fun e=> !e.goexit)= []→b.dropWhile (fun e=> !e.goexit)= []:=by
 induction h with
 |nil=>exact fun _=>rfl
 |cons h t ih =>
  cases h with
  |mk r g hv =>
   intro e;rw[List.dropWhile_cons]at e ⊢;cases g with
   |true=>simp at e
   |false=>simp only[Bool.not_false,Ad]at e ⊢; exact ih e
theorem Na{a b:FrameMode}{m:FrameMode}(h:UY ρ a b)(hp:NA a=some m): ∃m',UY ρ m m'∧∀fr:Frame,fr.mode=b→(match fr.mode with
  | .panicking ({recovered:=true, .. }::Py) =>
   match Py.dropWhile (!·.goexit)with
   | []=>{fr with mode:= .returning}
   |rest=>{fr with mode:= .panicking rest}
  |_=>fr)={fr with mode:=m'}:=by
 cases h with
 |run =>
  cases hp;exact⟨.run,.run,fun fr e=>by rw[e]; simp only; rw[← e]⟩
 |returning =>
  cases hp;exact⟨.returning,.returning,fun fr e=>by rw[e]; simp only; rw[← e]⟩
 |panicking hl =>
  cases hl with
  |nil =>
   cases hp;exact⟨.panicking [],.panicking .nil,fun fr e=>by rw[e]; simp only; rw[← e]⟩
  |cons h t =>
   cases h with
   |mk r g hv =>
    cases r with
    |true =>
     simp only[NA,Ad]at hp;split at hp
     ·rename_i e1;cases hp;refine⟨.returning,.returning,fun fr e=> ?_⟩;rw[e];simp only[Yy t e1]
     ·cases hp
    |false =>
     simp only[NA,Bq,BS,AE]at hp;subst hp;refine⟨_,.panicking (.cons (.mk false g hv) t),fun fr e=> ?_⟩;rw[e];simp only
     rw[← e]
theorem Reach.Ut(A7:A8 P E7)(hb:main=true∨E.send≠none)(hm:s.fr.mode= .returning)(G2:s.fr.defers= [])(JG:At s.fr.todo=true)(hk:s.fr.kind= .deferred){fn:Func}(hf:P.funcs[s.fr.fn]? =some fn){vs:List Value}(hv:Db E7 s.H s.fr.tmps fn.results.toList=some vs)
  {pf:PF} {cs':List PF} (NN:s.cs=pf::cs') {m:FrameMode} (hp:NA pf.mode=some m) :
  Reach P ty Post main E s {s with fr:={pf with mode:=m},cs:=cs'}:=by
 refine Reach.J6 hb fun E ρ c fr cs pd pds w Ff hc hH AO=> ?_;rw[NN]at hc;cases hc with
 |cons E1 Oc =>
  rename_i B4 BD Xm LW;obtain⟨Dj,_,A9⟩:=Ff.Dl JG;obtain⟨v',ev,q1,q2,q3⟩:=Es (P:=P) A7 hH A9 hv;have Dp:fr.mode= .returning:=Ff.mode.MG.2 hm;have I1:fr.defers= []:=by
   have:=Ff.defers;rw[G2]at this;exact this.Co
  obtain⟨m',r1,r2⟩:=Na E1.mode hp;have Aq:=Er (P:=P) (main:=main) (cs:=(B4::BD)++E.base) Dp I1 (by rw[Ff.fn]; exact hf) q3;have WR:doReturn P main fr ((B4::BD)++E.base) none v' w= .go (G {B4 with mode:=m'} (BD++E.base)) w:=by
   have KZ:fr.kind= .deferred:=by rw[Ff.kind]; exact hk
   have:=r2 B4 rfl;simp only[doReturn,List.cons_append,KZ,G];exact congrArg (fun f:Frame=>GStep.go ({frame:=f,callers:=BD++E.base,status:= .running,dying:=none}:Goroutine) w) this
  rw[WR,FB]at Aq;exact⟨{B4 with mode:=m'},BD,Xm,LW,ev,⟨E1.fn,E1.size,E1.todo,E1.defers,r1,E1.kind,E1.round⟩,Oc,by subst Dj; simp,q2,by simpa using Aq⟩
def Jk(pf:PF)(cs:List PF):Option (Value×List PF) :=
 match pf.kind with
 | .deferred=>match cs with
  |caller::rest=>match caller.mode with
   | .panicking (e::Py)=>cond e.goexit none (cond e.recovered (some (.nilIface,cs)) (some (e.v,{caller with mode:= .panicking (⟨e.v,true,false⟩::Py)}::rest)))
   | .panicking []=>none
   |_=>some (.nilIface,cs)
  | []=>none
 |_=>none
theorem Uw{pf:PF}{fr:Frame}{cs:List PF}{Kj base:List Frame}{pd pds:List Nat}(h:Br ρ pf fr pd)(hc:Q8 ρ cs Kj pds){v:Value}{cs':List PF}(hp:Jk pf cs=some (v,cs')): ∃v' fb,VR ρ v v'∧Q8 ρ cs' fb pds∧
  ((tryRecover fr (Kj++base)=some (v',fb++base))∨(tryRecover fr (Kj++base)=none∧fb=Kj∧v'= .nilIface)):=by
 unfold Jk at hp;split at hp
 ·rename_i ek;split at hp
  ·rename_i caller rest;cases hc with
   |cons E1 Oc =>
    rename_i B4 BD Xm LW;have KZ:fr.kind= .deferred:=by rw[h.kind]; exact ek
    have Dp:=E1.mode;split at hp
    ·rename_i e Py em;rw[em]at Dp;generalize Fx:B4.mode=fm at Dp;cases Dp with
     |panicking hl =>
      cases hl with
      |cons he ht =>
       cases he with
       |mk r g hv =>
        rename_i lu u u';simp only at hp;cases g with
        |true=>cases hp
        |false =>
         simp only[Av]at hp;cases r with
         |true =>
          simp only[AG,AE,AR]at hp;obtain⟨rfl,rfl⟩:=hp;refine⟨.nilIface,B4::BD,.nilIface,.cons E1 Oc,.inr ⟨?_,rfl,rfl⟩⟩;simp only[tryRecover,KZ,List.cons_append,Fx]
         |false =>
          simp only[Av,AE,AR]at hp;obtain⟨rfl,rfl⟩:=hp;refine⟨u',{B4 with mode:= .panicking (⟨u',true,false⟩::lu)}::BD,hv,.cons ⟨E1.fn,E1.size,E1.todo,E1.defers,.panicking (.cons (.mk true false hv) ht),E1.kind,E1.round⟩ Oc,.inl ?_⟩;simp only[tryRecover,KZ,List.cons_append,Fx]
    ·cases hp
    ·rename_i h1 h2;simp only[AE,AR]at hp;obtain⟨rfl,rfl⟩:=hp;refine⟨.nilIface,B4::BD,.nilIface,.cons E1 Oc,.inr ⟨?_,rfl,rfl⟩⟩;generalize bH:caller.mode=cm at Dp h1 h2;generalize Fx:B4.mode=fm at Dp;cases Dp with
     |run=>simp only[tryRecover,KZ,List.cons_append,Fx]
     |returning=>simp only[tryRecover,KZ,List.cons_append,Fx]
     |panicking hl =>
      cases hl with
      |nil=>exact absurd rfl h2
      |cons a b=>exact absurd rfl (h1 _ _)
  ·cases hp
 ·cases hp
theorem Reach.recover(hb:main=true∨E.send≠none)(hm:s.fr.mode= .run){all:Array Oper}{i:Nat}{o:Oper}{l:List Oper}{k:List Ab}(ht:s.fr.todo= .ops all i (o::l)::k)(Tg:s.fr.round=none){AAe:Array Operand}{EY:Array TypeId}(A5:o.op= .call {callee:= .builtin .recover,args:=AAe,argTypes:=EY})
  (hw:Aj s.fr all o=some true) {v:Value} {cs':List PF} (hr:Jk s.fr s.cs=some (v,cs')) {tm:T Value} (hp:By s.fr o.dst v=some tm):Reach P ty Post main E s {s with fr:={s.fr with tmps:=tm,todo:= .ops all (i+1) l::k},cs:=cs'}:=by
 refine Reach.J6 hb fun E ρ c fr cs pd pds w hf hc hH AO=> ?_;obtain⟨Dj,ho,A9,rest,m,e,E0,Ky⟩:=hf.ops ht;obtain⟨v',fb,r1,r2,r3⟩:=Uw (base:=E.base) hf hc hr;have I0:fr.roundOf=none:=by
  have:=hf.round;rw[Tg]at this;generalize fr.roundOf=b at this;cases this; rfl
 have hk:fr.kind≠ .early:=by
  rw[hf.kind];intro e;unfold Jk at hr;rw[e]at hr;cases hr
 refine⟨fr.finish v',fb,[],pds,[],hf.put ht hp r1,r2,by subst Dj; simp,(fun e he=>by cases he), ?_⟩;rw[D6 (Br.run hf hm) e ho (BE (fun _ _ t v _ _ hv=>A9 t v hv) hw) (fun c hc=>by rw[A5]at hc; cases hc)];have AT:(execOp fr.eval o).runT P w #[]=(.ok .recover w,#[]):=by
  rw[De A5];rfl
 unfold stepG.apply;have Hs:(fr.kind==CallKind.early)=false:=by simpa using hk
 simp only[Ad,AT,Hs,I0];have IU:seen P fr.fn (([]:List Event).toArray)= #[]:=by rw[seen_def]; rfl
 have iS:seen P fr.fn #[]= #[]:=by rw[seen_def]; rfl
 rw[IU];rcases r3 with r3|⟨r3,r4,r5⟩
 ·rw[r3];simp only;rfl
 ·rw[r3];subst r4 r5;simp only;rfl
end
def Mg(ops:Array Oper):Bool:=ops.toList.zipIdx.all fun(o,i)=>o.after.toList.all fun e=> !Region.binds .any e||Nat.blt e.on i
def bitsOf(acc:Array Nat)(o:Oper):Nat:=o.after.foldl (fun s e=>if Region.binds .any e then s ||| 2^e.on ||| acc.getD e.on 0 else s) 0
theorem aj(ops:Array Oper):Region.before ops=ops.toList.foldl (fun acc o=>acc.push (bitsOf acc o)) #[]:=by
 unfold Region.before;rw[← Array.foldl_toList];rfl
theorem Ww{acc:Array Nat}{o:Oper}{j:Nat}(h:(bitsOf acc o).testBit j=true): ∃e∈o.after.toList,Region.binds .any e=true∧(e.on=j∨(acc.getD e.on 0).testBit j=true):=by
 unfold bitsOf at h;rw[← Array.foldl_toList]at h;have key: ∀(l:List Edge) (s:Nat),(l.foldl (fun s e=>if Region.binds .any e then s ||| 2^e.on ||| acc.getD e.on 0 else s) s).testBit j=true→s.testBit j=true∨∃e∈l,Region.binds .any e=true∧(e.on=j∨(acc.getD e.on 0).testBit j=true):=by
  intro l;induction l with
  |nil=>intro s hs; exact .inl hs
  |cons e l ih =>
   intro s hs;rw[List.foldl_cons]at hs;rcases ih _ hs with h1|⟨e',h1,h2⟩
   ·cases hb:Region.binds .any e with
    |false=>rw[hb]at h1; exact .inl (by simpa using h1)
    |true =>
     rw[hb]at h1;simp only[Ad,Nat.testBit_or,DX]at h1;rcases h1 with(h1|h1)|h1
     ·exact .inl h1
     ·refine .inr ⟨e,by simp,hb,.inl ?_⟩;rw[Nat.testBit_two_pow]at h1;simpa using h1
     ·exact .inr ⟨e,by simp,hb,.inr h1⟩
   ·exact .inr ⟨e',by simp[h1],h2⟩
 rcases key _ 0 h with h|h
 ·simp at h
 ·exact h
theorem OI: ∀(l:List Oper) (acc:Array Nat),(l.foldl (fun acc o=>acc.push (bitsOf acc o)) acc).size=acc.size+l.length∧(∀k,k<acc.size→(l.foldl (fun acc o=>acc.push (bitsOf acc o)) acc)[k]? =acc[k]?)∧
  ∀k o,l[k]? =some o→∃pre:Array Nat,pre.size=acc.size+k∧(∀m,m<acc.size+k→(l.foldl (fun acc o=>acc.push (bitsOf acc o)) acc)[m]? =pre[m]?)∧(l.foldl (fun acc o=>acc.push (bitsOf acc o)) acc)[acc.size+k]? =some (bitsOf pre o)
 | [],acc=>⟨rfl,fun _ _=>rfl,fun k o h=>by simp at h⟩
 |o::l,acc=>by
  obtain⟨h1,h2,h3⟩:=OI l (acc.push (bitsOf acc o));rw[List.foldl_cons];refine⟨by rw[h1]; simp; omega,fun k hk=> ?_,fun k o' ho=> ?_⟩
  ·rw[h2 k (by simp; omega),Array.getElem?_push_lt hk,CR hk]
  ·cases k with
   |zero =>
    simp only[CM,AE]at ho;subst ho;refine⟨acc,rfl,fun m hm=> ?_, ?_⟩
    ·rw[h2 m (by simp; omega),Array.getElem?_push_lt (by omega),CR (by omega)]
    ·rw[h2 _ (by simp)];simp
   |succ k =>
    obtain⟨pre,p1,p2,p3⟩:=h3 k o' (by simpa using ho);simp only[Array.size_push]at p1 p2 p3;exact⟨pre,by omega,fun m hm=>p2 m (by omega),by rw[show acc.size+(k+1)=acc.size+1+k by omega]; exact p3⟩
theorem SD{ops:Array Oper}{i j:Nat}(h:Qs (Region.before ops) i j=true): ∃o,ops[i]? =some o∧∃e∈o.after.toList,Region.binds .any e=true∧(e.on=j∨(e.on<i∧Qs (Region.before ops) e.on j=true)):=by
 unfold Qs at h ⊢;have hb:=OI ops.toList #[];rw[← aj]at hb;obtain⟨h1,_,h3⟩:=hb;simp only[Array.size_empty,DV,FC]at h1 h3;have Ac:i<ops.size:=by
  refine Nat.lt_of_not_le fun hle=> ?_;have:(Region.before ops).getD i 0=0:=by
   rw[Bt,Array.getElem?_eq_none (by omega)]; rfl
  rw[this]at h;simp at h
 obtain⟨pre,p1,p2,p3⟩:=h3 i ops[i] (by simp[Ac]);have hg:(Region.before ops).getD i 0=bitsOf pre ops[i]:=by rw[Bt,p3]; rfl
 rw[hg]at h;obtain⟨e,e1,e2,e3⟩:=Ww h;refine⟨ops[i],by simp[Ac],e,e1,e2, ?_⟩;rcases e3 with e3|e3
 ·exact .inl e3
 ·by_cases kD:e.on<i
  ·refine .inr ⟨kD, ?_⟩;have:(Region.before ops).getD e.on 0=pre.getD e.on 0:=by
    rw[Bt,Bt,p2 _ kD]
   rw[this]; exact e3
  ·have:pre.getD e.on 0=0:=by rw[Bt,Array.getElem?_eq_none (by omega)]; rfl
   rw[this]at e3;simp at e3
inductive ga(ops:Array Oper):(Nat→Bool)→List Nat→Prop where
 |nil {listed:Nat→Bool} (h: ∀i,i<ops.size→listed i=true):ga ops listed []
 |cons {listed:Nat→Bool} {i:Nat} {l:List Nat} {o:Oper} (ho:ops[i]? =some o) (hn:listed i=false) (he: ∀e∈o.after.toList,Region.binds .any e=true→listed e.on=true) (t:ga ops (fun j=>listed j||j==i) l):ga ops listed (i::l)
theorem ga.mem{ops:Array Oper}{listed:Nat→Bool}{l:List Nat}(h:ga ops listed l): ∀i∈l,listed i=false∧i<ops.size:=by
 induction h with
 |nil h=>intro i hi; cases hi
 |cons ho hn he t ih =>
  intro j hj;rcases AZ.1 hj with rfl|hj
  ·exact⟨hn,(A6.1 ho).1⟩
  ·obtain⟨h1,h2⟩:=ih j hj;simp only[Bool.or_eq_false_iff]at h1;exact⟨h1.1,h2⟩
theorem ga.all{ops:Array Oper}{listed:Nat→Bool}{l:List Nat}(h:ga ops listed l): ∀i,i<ops.size→listed i=false→i∈l:=by
 induction h with
 |nil h=>intro i hi hl; rw[h i hi]at hl; cases hl
 |cons ho hn he t ih =>
  intro j hj hl;rename_i listed i l o;by_cases e:j=i
  ·simp[e]
  ·exact List.mem_cons_of_mem _ (ih j hj (by simp[hl,e]))
theorem ga.feas{ops:Array Oper}{listed:Nat→Bool}{l:List Nat}(h:ga ops listed l)(hc: ∀i o,ops[i]? =some o→listed i=true→∀e∈o.after.toList,Region.binds .any e=true→listed e.on=true):Mq (Region.before ops) l:=by
 induction h with
 |nil h=>exact .nil
 |cons ho hn he t ih =>
  rename_i listed i l o;have pred: ∀(k:Nat) (o':Oper),ops[k]? =some o'→(listed k=true∨k=i)→∀j,Qs (Region.before ops) k j=true→listed j=true:=by
   intro k;induction k using Nat.strongRecOn with
   |ind k xO =>
    intro o' Ck hk j hj;obtain⟨o2,g1,e,g2,g3,g4⟩:=SD hj;rw[Ck]at g1; cases g1;have kD:listed e.on=true:=by
     rcases hk with hk|rfl
     ·exact hc k o' Ck hk e g2 g3
     ·rw[ho]at Ck; cases Ck;exact he e g2 g3
    rcases g4 with rfl|⟨g4,g5⟩
    ·exact kD
    ·obtain⟨o3,g6,_⟩:=SD g5;exact xO e.on g4 o3 g6 (.inl kD) j g5
  have hm:=t.mem;refine .cons (fun j hj=> ?_) (fun hi=> ?_) (ih fun k o' Ck hk e g1 g2=> ?_)
  ·cases hb:Qs (Region.before ops) i j with
   |false=>rfl
   |true =>
    have h1:=pred i o ho (.inr rfl) j hb;have h2:=(hm j hj).1;simp[h1]at h2
  ·have:=(hm i hi).1;simp at this
  ·simp only[DX,beq_iff_eq]at hk ⊢;rcases hk with hk|rfl
   ·exact .inl (hc k o' Ck hk e g1 g2)
   ·rw[ho]at Ck; cases Ck;exact .inl (he e g1 g2)
theorem RN(ops:Array Oper)(AO:Mg ops=true): ∀(fuel t:Nat) (listed:Array Bool) (acc:List Nat),listed.size=ops.size→(∀s:List Nat,s.Nodup→(∀i∈s,i<ops.size∧listed.getD i true=false)→s.length≤fuel)→
  ∃l,Region.linearise.go .any ops fuel t listed acc=acc.reverse++l∧ga ops (fun i=>listed.getD i false) l:=by
 intro fuel;induction fuel with
 |zero =>
  intro t listed acc hs hf;refine⟨[],by simp[Region.linearise.go],.nil fun i hi=> ?_⟩;cases h:listed.getD i false with
  |true=>rfl
  |false =>
   have:=hf [i] (by simp) (fun j hj=>by
    simp at hj;subst hj;refine⟨hi, ?_⟩;rw[Bt,CR (by omega)]at h ⊢;exact h)
   simp at this
 |succ fuel ih =>
  intro t listed acc hs hf;unfold Region.linearise.go;generalize hrs:((List.range ops.size).filter fun i=> !listed.getD i true&&((ops[i]?).map (·.after.all fun e=> !Region.binds .any e||listed.getD e.on false)).getD false)=rs;simp only
  cases hg:rs[t%rs.length]? with
  |none =>
   have Yn:rs= []:=by
    cases rs with
    |nil=>rfl
    |cons a l =>
     have:=Nat.mod_lt t (show(a::l).length>0 by simp);rw[List.getElem?_eq_none_iff]at hg;omega
   refine⟨[],by simp,.nil fun i hi=> ?_⟩;have key: ∀k,∀i,i<k→i<ops.size→listed.getD i false=true:=by
    intro k;induction k with
    |zero=>intro i h; omega
    |succ k xO =>
     intro i hik hi;by_cases e:i<k
     ·exact xO i e hi
     ·have e:i=k:=by omega
      subst e;cases h:listed.getD i false with
      |true=>rfl
      |false =>
       exfalso;have:i∈rs:=by
        rw[← hrs,B8,Cq];refine⟨hi, ?_⟩;have h1:listed.getD i true=false:=by
         rw[Bt,CR (by omega)]at h ⊢;exact h
        rw[h1];simp only[Bool.not_false,Bool.true_and];rw[CR hi];simp only[Bc,Option.getD_some,Array.all_eq_true_iff_forall_mem];intro e he;have hz:=AX.1 AO (ops[i],i) (by
         rw[List.mk_mem_zipIdx_iff_getElem?];simp[hi])
        simp only[AX]at hz;have hz:=hz e (by simpa using he);simp only[DX,BI]at hz ⊢;rcases hz with hz|hz
        ·exact .inl hz
        ·have hz:e.on<i:=AH hz;exact .inr (xO e.on hz (by omega))
       rw[Yn]at this;cases this
   exact key (i+1) i (by omega) hi
  |some i =>
   have hi:i∈rs:=Cg hg;rw[← hrs,B8,Cq]at hi;obtain⟨Ac,hi⟩:=hi;simp only[AF,BI]at hi;obtain⟨hu,hr⟩:=hi;have nK:listed.getD i false=false:=by
    rw[Bt,CR (by omega)]at hu ⊢;exact hu
   obtain⟨l,h1,h2⟩:=ih (t/rs.length) (listed.setIfInBounds i true) (i::acc) (by simpa using hs) (fun s hsn nP=>by
    have:=hf (i::s) (List.nodup_cons.2 ⟨(fun his=>by
     have:=(nP i his).2;rw[Bt,Bs (by omega)]at this;cases this),hsn⟩) (fun j hj=>by
     rcases AZ.1 hj with rfl|hj
     ·exact⟨Ac,hu⟩
     ·obtain⟨g1,g2⟩:=nP j hj;refine⟨g1, ?_⟩;by_cases e:i=j
      ·subst e; exact hu
      ·rw[Bt,Bb e]at g2;rw[Bt]; exact g2)
    simp at this;exact this)
   refine⟨i::l,(by
    show Region.linearise.go .any ops fuel (t/rs.length) (listed.setIfInBounds i true) (i::acc)=_;rw[h1]; simp), ?_⟩
   rw[CR Ac]at hr;simp only[Bc,Option.getD_some,Array.all_eq_true_iff_forall_mem]at hr;refine .cons (o:=ops[i]) (CR Ac) nK (fun e he hb=> ?_) ?_
   ·have:=hr e (by simpa using he);rw[hb]at this;simpa using this
   ·have:(fun j=>(listed.setIfInBounds i true).getD j false)=fun j=>listed.getD j false||j==i:=by
     funext j;by_cases e:i=j
     ·subst e;rw[Bt,Bs (by omega)];simp
     ·rw[Bt,Bb e, ← Bt];have:(j==i)=false:=by simp; exact fun h=>e h.symm
      rw[this,Bool.or_false]
    rw[this]at h2;exact h2
theorem Hz: ∀{n:Nat} {s:List Nat},s.Nodup→(∀i∈s,i<n)→s.length≤n
 |0,s,_,h=>by
  cases s with
  |nil=>simp
  |cons a s=>exact absurd (h a (by simp)) (Nat.not_lt_zero a)
 |n+1,s,hs,h=>by
  by_cases e:n∈s
  ·have h1:=Hz (n:=n) (hs.erase n) fun i hi=>by
    have hm:=List.mem_of_mem_erase hi;have:=h i hm;have BK:i≠n:=fun q=>by
     rw[q]at hi;exact hs.not_mem_erase hi
    omega
   rw[List.length_erase_of_mem e]at h1;omega
  ·have h1:=Hz (n:=n) hs fun i hi=>by
    have:=h i hi;have BK:i≠n:=fun q=>e (q ▸hi);omega
   omega
theorem RD(ops:Array Oper)(AO:Mg ops=true)(t:Nat):Mq (Region.before ops) (Region.schedule true ops t)∧(∀i,i<ops.size→i∈Region.schedule true ops t)∧∀i∈Region.schedule true ops t,i<ops.size:=by
 have hr: ∀i,(Array.replicate ops.size false).getD i false=false:=fun i=>by
  rw[Bt,Array.getElem?_replicate];split<;>rfl
 obtain⟨l,h1,h2⟩:=RN ops AO ops.size t (Array.replicate ops.size false) [] (by simp) (fun s hs hm=>Hz hs fun i hi=>(hm i hi).1);have e:Region.schedule true ops t=l:=by
  unfold Region.schedule Region.linearise;simpa using h1
 rw[e];exact⟨h2.feas (fun i o _ hl=>by simp only[hr]at hl; cases hl),fun i hi=>h2.all i hi (hr i),fun i hi=>(h2.mem i hi).2⟩
def looksAt(all:Array Oper)(o:Oper):List Tmp :=
 (o.op.operands.toList.filterMap fun| .tmp t=>some t|_=>none)++(match o.guard with
  |some (j,_)=>(CY all j).toList
  |none=> [])
def Js(all:Array Oper):List (Oper×Nat):=all.toList.zipIdx
def Yc(o:Oper):Bool:=match o.op with| .assign _=>true|_=>false
def IQ(all:Array Oper)(i:Nat):Bool:=match all.toList[i]? with|some o=>Yc o|none=>true
def Cr(all:Array Oper):Bool :=
 (Js all).all fun(o,i)=>(Js all).all fun(o',j)=>match o'.dst with
  |none=>true
  |some t=>(Nat.beq i j||o.dst != some t)&&(Yc o'||(!(looksAt all o).any (Nat.beq t)||(Qs (Region.before all) i j&& !Nat.beq i j)))
theorem HB{all:Array Oper}{i:Nat}{o:Oper}(h:all[i]? =some o):(o,i)∈Js all:=by
 unfold Js;rw[List.mk_mem_zipIdx_iff_getElem?];simpa using h
theorem PA{all:Array Oper}(h:Cr all=true){i j:Nat}{t:Tmp}(hi:CY all i=some t)(hj:CY all j=some t):i=j:=by
 unfold CY at hi hj;cases e1:all[i]? with
 |none=>rw[e1]at hi; cases hi
 |some o =>
  cases e2:all[j]? with
  |none=>rw[e2]at hj; cases hj
  |some o' =>
   rw[e1]at hi;rw[e2]at hj;have hi:o.dst=some t:=hi;have hj:o'.dst=some t:=hj;have:=AX.1 (AX.1 h _ (HB e1)) _ (HB e2);simp only[hj,AF,DX]at this;rcases this.1 with q|q
   ·exact AJ q
   ·rw[hi]at q; simp at q
theorem Uf{all:Array Oper}(h:Cr all=true){i j:Nat}{o:Oper}{t:Tmp}(hi:all[i]? =some o)(ht:t∈looksAt all o)(hj:CY all j=some t)(Ac:IQ all j=false):Qs (Region.before all) i j=true∧i≠j:=by
 unfold CY at hj;cases e2:all[j]? with
 |none=>rw[e2]at hj; cases hj
 |some o' =>
  rw[e2]at hj;have hj:o'.dst=some t:=hj;have:=AX.1 (AX.1 h _ (HB hi)) _ (HB e2);simp only[hj,AF,DX,BI]at this;have Mw:Yc o'=false:=by
   unfold IQ at Ac;rw[show all.toList[j]? =some o' by rw[CQ]; exact e2]at Ac;exact Ac
  rw[Mw]at this;simp only[Bq,false_or]at this;rcases this.2 with q|q
  ·have:(looksAt all o).any (Nat.beq t)=true:=Cp.2 ⟨t,ht,Nat.beq_refl t⟩;rw[this]at q; cases q
  ·exact⟨q.1,Bl q.2⟩
section
variable{P:Program}{ty:TypeId}{E7:DD}{Post:Value→World→Prop}{main:Bool}{n:Nat}{E:Env}{ρ:Ah}{s:DS}{c:Ctx}{g:Goroutine}{w:World}
theorem Ka{all:Array Oper}(AO:Cr all=true){i:Nat}{l:List Nat}{o:Oper}(ho:all[i]? =some o)(hf:Mq (Region.before all) (i::l)){t:Tmp}(ht:t∈looksAt all o): ∀j∈i::l,IQ all j=false→CY all j≠some t:=fun j hj Ac hd=>by
 obtain⟨h1,h2⟩:=Uf AO ho ht hd Ac;cases hf with
 |cons h hn tl =>
  rcases AZ.1 hj with rfl|hj
  ·exact h2 rfl
  ·rw[h j hj]at h1; cases h1
theorem CJ.look{pf:PF}{fr:Frame}{X:Tmp→Prop}(A9: ∀k v,pf.tmps.get k=some v→¬X k→∃v',fr.tmps[k]? =some v'∧VR ρ v v'){H:PH}(hH:HR ρ H c w){all:Array Oper}{o:Oper}(hx: ∀t∈looksAt all o,¬X t):CJ H.ng ρ pf fr o:=by
 intro x hm v he;cases x with
 |tmp t =>
  have dv:t∈looksAt all o:=by
   unfold looksAt;refine List.mem_append_left _ (List.mem_filterMap.2 ⟨.tmp t,by simpa using hm,rfl⟩)
  obtain⟨v',h1,h2⟩:=A9 t _ he (hx t dv);have:fr.eval (.tmp t)=v':=by
   show fr.tmps.getD t undef=_;rw[Bt,h1]; rfl
  rw[this]; exact h2
 |const u=>exact CJ.of (pf:={pf with tmps:= .nil}) (fr:=fr) (fun k v h=>by cases h) hH o _ hm v he
 |global g=>exact CJ.of (pf:={pf with tmps:= .nil}) (fr:=fr) (fun k v h=>by cases h) hH o _ hm v he
 |func f=>exact CJ.of (pf:={pf with tmps:= .nil}) (fr:=fr) (fun k v h=>by cases h) hH o _ hm v he
theorem FP{pf:PF}{fr:Frame}{X:Tmp→Prop}(A9: ∀k v,pf.tmps.get k=some v→¬X k→∃v',fr.tmps[k]? =some v'∧VR ρ v v'){all:Array Oper}{o:Oper}(hx: ∀t∈looksAt all o,¬X t){b:Bool}(hp:Aj pf all o=some b):Region.wanted o (yielded all fr.tmps)=b:=by
 refine BE (fun j want t v hg hd hv=>A9 t v hv (hx t ?_)) hp;unfold looksAt;refine List.mem_append_right _ ?_;rw[hg];simp[hd]
theorem FE{fr:Frame}{cs:List Frame}{w:World}{all:Array Oper}{i:Nat}{rest:List Nat}{m:List Item}{o:Oper}(hr:fr.mode= .run)(ht:fr.todo= .inRegion all (i::rest)::m)(ho:all[i]? =some o)(hw:Region.wanted o (yielded all fr.tmps)=false) :
  stepG P main (G fr cs) w= .go (G (fr.finish undef) cs) w #[]:=by
 have e1:stepG P main (G fr cs) w=stepG.exec P main true fr cs none w:=by simp[stepG,G,hr]
 rw[e1];unfold stepG.exec;simp only[ht,ho,Bc,Option.getD_some,hw];rfl
theorem Reach.pass(hb:main=true∨E.send≠none)(hm:s.fr.mode= .run){all:Array Oper}{i:Nat}{o:Oper}{l:List Oper}{k:List Ab}(ht:s.fr.todo= .ops all i (o::l)::k)(hw:Aj s.fr all o=some false){tm:T Value}(hp:By s.fr o.dst undef=some tm) :
  Reach P ty Post main E s {s with fr:={s.fr with tmps:=tm,todo:= .ops all (i+1) l::k}}:=by
 refine Reach.ctl hb fun ρ fr pd hf=> ?_;obtain⟨Dj,ho,A9,rest,m,e,E0,Ky⟩:=hf.ops ht;subst Dj;exact⟨fr.finish undef,hf.put ht hp (.tuple .nil),fun cs w=>FE (Br.run hf hm) e ho (BE (fun _ _ t v _ _ hv=>A9 t v hv) hw)⟩
theorem Reach.draw(XB:P.follows .mixedOrders=true)(_hb:main=true∨E.send≠none)(hm:s.fr.mode= .run){xK:Nat}{ops:Array Oper}{k:List Ab}(ht:s.fr.todo= .code (.region xK ops true)::k)(AO:Mg ops=true){es:List Nat}(h1: ∀i∈es,i<ops.size)(h2: ∀i,i<ops.size→i∈es) :
  Reach P ty Post main E s {s with fr:={s.fr with todo:= .CH ops [] es::k}}:=by
 refine⟨1,fun E hb n hn ρ c g w h=> ?_⟩;cases h with
 |mk hf hc D7 ET hH EP Dx g1 g2 g3 Bv =>
  rename_i fr cs pd pds;refine W.GA rfl (hb.imp id fun e=>by rw[g1]; exact e) fun w₁ r=> ?_;obtain⟨Dj,EI,A9⟩:=hf.Dl (by rw[ht]; rfl);rw[ht]at EI;obtain⟨b,m,e,hi,hk⟩:=EI.cons_inv;cases hi;have hr:=Br.run hf hm
  let t:=(Question.order fr.fn xK).cut (w₁.tape w₁.drawn (Question.order fr.fn xK))
  obtain⟨f1,f2,f3⟩:=RD ops AO t;have Aq:stepG P main (G fr (cs++E.base)) w₁= .go (G {fr with todo:= .inRegion ops (Region.schedule true ops t)::m} (cs++E.base)) (World.draw w₁) #[]:=by
   have e1:stepG P main (G fr (cs++E.base)) w₁=stepG.exec P main true fr (cs++E.base) none w₁:=by simp[stepG,G,hr]
   rw[e1];unfold stepG.exec;simp only[e,Bool.not_true,Bq,BS];have:(choose (.order fr.fn xK)).run P w₁= .ok t (World.draw w₁):=rfl;rw[this,XB];rfl
  subst Dj;have hp0:Ao s.fr.tmps ops [] (Region.schedule true ops t)= []:=by
   unfold Ao;simp
  have nL:gZ ρ s.fr.tmps (.CH ops [] es::k) (.inRegion ops (Region.schedule true ops t)::m) (fun t'=> ∃i∈Region.schedule true ops t,i∈([]:List Nat)∧CY ops i=some t') []:=by
   have:=gZ.CH (ρ:=ρ) (tm:=s.fr.tmps) (fs:= []) hk f1 (fun i hi=>f2 i (h1 i hi)) (fun i hi=> .inr (h2 i (f3 i hi))) f3;rw[hp0]at this;exact this
  refine⟨_,World.draw w₁,_,c.M,c.R,Aq,rfl, ?_,BQ.nil _ _ _, ?_⟩
  ·have g:=Ca.refl (EP.rely r);exact⟨g.tape,g.os,g.output,g.size,g.shape,g.keep,g.mine,g.more,g.ro⟩
  ·have NL:=Bv.rely r;exact hn ρ c _ (World.draw w₁) (.mk ⟨hf.fn,hf.size,⟨_,nL,fun k v hk _=>A9 k v hk⟩,hf.defers,hf.mode,hf.kind,hf.round⟩ hc D7 ET (hH.rely r).draw (EP.rely r).draw Dx g1 g2 g3 ⟨NL.m,fun a ha=>⟨(NL.r a ha).1,(NL.r a ha).2.trans (.of rfl)⟩,NL.size,NL.shape,NL.tape,NL.os,NL.output,NL.Fq,NL.fresh,NL.AL,NL.al.up (AN _) fun _ h=>h⟩)
theorem Dc{tm gl:T Value}{all:Array Oper}{fs fs':List Nat}{L:List Nat}(h: ∀i∈L,(i∈fs↔i∈fs')∧(i∈fs→(CY all i).bind tm.get=(CY all i).bind gl.get)):Ao tm all fs L=Ao gl all fs' L:=by
 unfold Ao;induction L with
 |nil=>rfl
 |cons i L ih =>
  rw[List.flatMap_cons,List.flatMap_cons,ih fun j hj=>h j (by simp[hj])];obtain⟨h1,h2⟩:=h i (by simp)
  congr 1
  by_cases hc:i∈fs∧(all[i]?).any (fun o=>Ei o.op)=true
  ·rw[AD hc,AD ⟨h1.1 hc.1,hc.2⟩,h2 hc.1]
  ·rw[AA hc,AA fun Ig=>hc ⟨h1.2 Ig.1,Ig.2⟩]
theorem HL(tm:T Value)(all:Array Oper)(fs L L':List Nat):Ao tm all fs (L++L')=Ao tm all fs L++Ao tm all fs L':=by
 unfold Ao;rw[List.flatMap_append]
theorem Mq.nodup{b:Array Nat}{l:List Nat}(h:Mq b l):l.Nodup:=by
 induction h with
 |nil=>exact .nil
 |cons _ hn _ ih=>exact List.nodup_cons.2 ⟨hn,ih⟩
theorem Ok{pf:PF}{dst:Option Tmp}{v:Value}{tm:T Value}(hp:By pf dst v=some tm)(k:Tmp):tm.get k=if dst=some k then some v else pf.tmps.get k:=by
 unfold By at hp;cases dst with
 |none=>cases hp; simp
 |some t =>
  simp only at hp;cases e1:Nat.blt t pf.nt with
  |false=>rw[e1]at hp; cases hp
  |true =>
   rw[e1]at hp;simp only[AG]at hp;cases e2:Nat.blt t (2^T.deep)with
   |false=>rw[e2]at hp; cases hp
   |true =>
    rw[e2]at hp;simp only[AG,AE]at hp;subst hp;rw[T.AW _ _ _ _ (AH e2)];by_cases e:k=t
    ·subst e; simp
    ·rw[AA e,AA (by simp; exact fun q=>e q.symm)]
theorem Reach.ahead{all:Array Oper}{fs es:List Nat}{e:Nat}{k:List Ab}(ht:s.fr.todo= .CH all fs (e::es)::k)(KY:Cr all=true){o:Oper}(ho:all[e]? =some o){v:Value}{tm:T Value}(hp:By s.fr o.dst v=some tm){H':PH}
  (wK:(H'=s.H∧(Ei o.op=true→Jv (o.dst.bind tm.get)= []))∨(∃x,H'={s.H with next:=s.H.next+1,t:=s.H.t.set s.H.next x}∧s.H.next+1≤2^T.deep∧Jv (o.dst.bind tm.get)= [s.H.next])) :
  Reach P ty Post main E s {s with fr:={s.fr with tmps:=tm,todo:= .CH all (e::fs) es::k},H:=H'}:=by
 refine⟨0,fun E hb n hn ρ c g w h=> ?_⟩;cases h with
 |mk hf hc D7 ET hH AO Dx g1 g2 g3 Bv =>
  rename_i fr cs pd pds;obtain⟨X,EI,A9⟩:=hf.todo;rw[ht]at EI;generalize Fx:fr.todo=ft at EI;cases EI with
  |CH hk Gz h1 h2 h3 =>
   rename_i m L;have vw:e∈L:=h1 e (by simp);have N5:CY all e=o.dst:=by unfold CY; rw[ho]; rfl
   have BK: ∀i,i≠e→(CY all i).bind s.fr.tmps.get=(CY all i).bind tm.get:=fun i n6=>by
    cases hd:CY all i with
    |none=>rfl
    |some t =>
     simp only[EC];rw[Ok hp t];by_cases q:o.dst=some t
     ·exact absurd (PA KY hd (N5.trans q)) n6
     ·rw[AA q]
   obtain⟨L1,L2,rfl⟩:=List.append_of_mem vw;have iX:=Gz.nodup;have rP: ∀i∈L1,i≠e:=fun i hi q=>by
    subst q;rw[List.nodup_append]at iX;exact iX.2.2 i hi i (by simp) rfl
   have hn2: ∀i∈L2,i≠e:=fun i hi q=>by
    subst q;rw[List.nodup_append]at iX;exact(List.nodup_cons.1 iX.2.1).1 hi
   have c1:Ao s.fr.tmps all fs L1=Ao tm all (e::fs) L1:=Dc fun i hi=>⟨by simp[rP i hi],fun _=>BK i (rP i hi)⟩;have c2:Ao s.fr.tmps all fs L2=Ao tm all (e::fs) L2:=Dc fun i hi=>⟨by simp[hn2 i hi],fun _=>BK i (hn2 i hi)⟩;have old:Ao s.fr.tmps all fs (L1++e::L2)=Ao tm all (e::fs) L1++(Ao s.fr.tmps all fs [e]++Ao tm all (e::fs) L2):=by
    rw[show L1++e::L2=L1++([e]++L2) by simp,HL,HL,c1,c2]
   have new:Ao tm all (e::fs) (L1++e::L2)=Ao tm all (e::fs) L1++(Ao tm all (e::fs) [e]++Ao tm all (e::fs) L2):=by
    rw[show L1++e::L2=L1++([e]++L2) by simp,HL,HL]
   have mZ:Ao tm all (e::fs) [e]=if Ei o.op=true then Jv (o.dst.bind tm.get)else[]:=by
    unfold Ao;simp[ho,N5]
   have nL:gZ ρ tm (.CH all (e::fs) es::k) (.inRegion all (L1++e::L2)::m) (fun t=> ∃i∈L1++e::L2,i∈e::fs∧CY all i=some t) (Ao tm all (e::fs) (L1++e::L2)) :=
    .CH hk Gz (fun i hi=>h1 i (by simp[hi])) (fun i hi=>by
     rcases h2 i hi with q|q
     ·exact .inl (by simp[q])
     ·rcases AZ.1 q with rfl|q
      ·exact .inl (by simp)
      ·exact .inr q) h3
   have Yq:Br ρ {s.fr with tmps:=tm,todo:= .CH all (e::fs) es::k} fr (Ao tm all (e::fs) (L1++e::L2)):=by
    refine⟨hf.fn,hf.size,⟨_,by rw[Fx]; exact nL,fun k' v' CP hx=> ?_⟩,hf.defers,hf.mode,hf.kind,hf.round⟩;have CP:tm.get k'=some v':=CP;rw[Ok hp k']at CP;by_cases q:o.dst=some k'
    ·exact absurd ⟨e,vw,by simp,N5.trans q⟩ hx
    ·rw[AA q]at CP;exact A9 k' v' CP fun⟨i,i1,i2,i3⟩=>hx ⟨i,i1,by simp[i2],i3⟩
   have Ch:(Ao tm all (e::fs) L1++Ao tm all (e::fs) L2++pds).Sublist (Ao s.fr.tmps all fs (L1++e::L2)++pds):=by
    rw[old];refine List.Sublist.append ?_ (.refl _);exact List.Sublist.append (.refl _) (List.sublist_append_right _ _)
   have main': ∀(pd':List Nat),(Ao tm all (e::fs) (L1++e::L2)++pds).Nodup→(∀b∈Ao tm all (e::fs) (L1++e::L2)++pds,ρ b=none∧b<H'.next)→HR ρ H' c w→W P ty Post main n c (G fr (cs++E.base)) w:=fun _ a b d =>
    hn ρ c _ w (.mk Yq hc a b d AO Dx g1 g2 g3 Bv)
   rcases wK with⟨rfl,hx⟩|⟨x,rfl,A2,hx⟩
   ·have Yn:Ao tm all (e::fs) [e]= []:=by
     rw[mZ];split
     ·rename_i q; exact hx q
     ·rfl
    have IV:Ao tm all (e::fs) (L1++e::L2)++pds=Ao tm all (e::fs) L1++Ao tm all (e::fs) L2++pds:=by rw[new,Yn]; simp
    refine main' [] ?_ ?_ hH
    ·rw[IV]; exact D7.sublist Ch
    ·rw[IV]; exact fun b hb=>ET b (Ch.subset hb)
   ·have n9: ∀b∈Ao s.fr.tmps all fs (L1++e::L2)++pds,b≠s.H.next:=fun b hb q=>by
     have:=(ET b hb).2;omega
    have hHx:HR ρ {s.H with next:=s.H.next+1,t:=s.H.t.set s.H.next x} c w:=by
     have hb:s.H.next<2^T.deep:=by omega
     have g: ∀y,y≠s.H.next→(s.H.t.set s.H.next x).get y=s.H.t.get y:=fun y hy=>by rw[T.AW _ _ _ _ hb,AA hy]
     have nn: ∀y B,ρ y=some B→y≠s.H.next:=fun y B hy q=>by
      have:=(hH.Dk y B hy).1;omega
     refine⟨A2,fun y B hy=>⟨Ce (hH.Dk y B hy).1,(hH.Dk y B hy).2⟩,fun y B o' hy Ck=> ?_,fun y y' B B' e1 e2 BK Bn=> ?_,hH.EK,fun y B o' hy Ck=> ?_⟩
     ·have Ck:(s.H.t.set s.H.next x).get y=some o':=Ck;rw[g y (nn y B hy)]at Ck;exact hH.rel y B o' hy Ck
     ·rcases hH.inj y y' B B' e1 e2 BK Bn with⟨o1,o2,p1,p2,p3⟩|⟨q1,q2⟩
      ·exact .inl ⟨o1,o2,(g y (nn y B e1)).trans p1,(g y' (nn y' B' e2)).trans p2,p3⟩
      ·exact .inr ⟨fun o ho=>q1 o ((g y (nn y B e1)).symm.trans ho),fun o ho=>q2 o ((g y' (nn y' B' e2)).symm.trans ho)⟩
     ·have Ck:(s.H.t.set s.H.next x).get y=some o':=Ck;rw[g y (nn y B hy)]at Ck;exact hH.mem y B o' hy Ck
    by_cases R7:Ei o.op=true
    ·have iU:Ao tm all (e::fs) [e]= [s.H.next]:=by rw[mZ,AD R7,hx]
     have J3:(Ao tm all (e::fs) (L1++e::L2)++pds).Perm (s.H.next::(Ao tm all (e::fs) L1++Ao tm all (e::fs) L2++pds)):=by
      rw[new,iU];simp only[List.append_assoc,List.cons_append,List.nil_append];exact List.perm_middle
     refine main' [] (J3.nodup_iff.2 (List.nodup_cons.2 ⟨fun hm=>n9 _ (Ch.subset hm) rfl,D7.sublist Ch⟩)) (fun b hb=> ?_) hHx;rcases AZ.1 (J3.mem_iff.1 hb)with rfl|hb
     ·exact⟨hH.free,by show s.H.next<s.H.next+1; omega⟩
     ·have:=ET b (Ch.subset hb);exact⟨this.1,Ce this.2⟩
    ·have Yn:Ao tm all (e::fs) [e]= []:=by rw[mZ,AA R7]
     have IV:Ao tm all (e::fs) (L1++e::L2)++pds=Ao tm all (e::fs) L1++Ao tm all (e::fs) L2++pds:=by rw[new,Yn]; simp
     refine main' [] ?_ (fun b hb=> ?_) hHx
     ·rw[IV]; exact D7.sublist Ch
     ·rw[IV]at hb;have:=ET b (Ch.subset hb);exact⟨this.1,Ce this.2⟩
  |plain hk =>
   obtain⟨b,m',_,hi,_⟩:=hk.cons_inv;cases hi
end
def Qy(P:Program)(ρ:Ah)(b:Nat)(o:AI)(v:Value)(c:Ctx)(w:World)(s:Sem Next):Prop :=
 ∃(B:RB) (v':Value) (x:Obj),B.blk=w.heap.size∧VR (ρ.put b B) v v'∧s.runT P w #[]=(.ok (.value v') (World.grow w x),#[])∧BR (ρ.put b B) (Ctx.own c w.heap.size) (World.grow w x) B o
inductive lJ(P:Program)(s:DS)(all:Array Oper)(i:Nat):Prop where
 |pass {o:Oper} (ho:all[i]? =some o) (hw:Aj s.fr all o=some false) (hd: ∀t,o.dst=some t→s.fr.tmps.get t=some undef∧t<s.fr.nt)
 |val {o:Oper} (ho:all[i]? =some o) (hw:Aj s.fr all o=some true) (hn: ∀c,o.op≠ .defer c) {v:Value} (hd: ∀t,o.dst=some t→s.fr.tmps.get t=some v∧t<s.fr.nt)
   (hs: ∀ρ c fr w,CJ s.H.ng ρ s.fr fr o→HR ρ s.H c w→CK c w→KC P s.fr.fn ρ s.H.next v s.H c.d c w (execOp fr.eval o))
 |alloc {o:Oper} (ho:all[i]? =some o) (hw:Aj s.fr all o=some true) (hn: ∀c,o.op≠ .defer c) (ha:Ei o.op=true) {v:Value} {b:Nat} {x:AI} (hd: ∀t,o.dst=some t→s.fr.tmps.get t=some v∧t<s.fr.nt) (Dx: ∃t,o.dst=some t) (hb:Jv (some v)= [b]) (hx:s.H.t.get b=some x) (hf:x.fam=0)
   (hs: ∀ρ c fr w,CJ s.H.ng ρ s.fr fr o→HR ρ s.H c w→CK c w→ρ b=none→Qy P ρ b x v c w (execOp fr.eval o))
section
variable{P:Program}{ty:TypeId}{E7:DD}{Post:Value→World→Prop}{main:Bool}{n:Nat}{E:Env}{ρ:Ah}{s:DS}{c:Ctx}{g:Goroutine}{w:World}
theorem Qy.d{b:Nat}{H:PH}{fn:FuncId}{o:AI}{v:Value}{s:Sem Next}(h:Qy P ρ b o v c w s)(hH:HR ρ H c w)(AO:CK c w)(hb:ρ b=none)(Ac:b<H.next)(hx:H.t.get b=some o)(hf:o.fam=0) :
  ∃(ρ':Ah) (M':Nat→Prop) (R':Addr→Prop) (v':Value) (w':World) (es:Array Event),ρ.le ρ'∧VR ρ' v v'∧(s.runT P w #[]=(.ok (.value v') w',es)∨(s.runT P w #[]=(.ok .skip w',es)∧v'=undef))∧HR ρ' H {c with M:=M',R:=R'} w'∧CK {c with M:=M',R:=R'} w'∧
  Ca c M' R' w w'∧BQ c w w' es∧deafBehind c.d (seen P fn es)=c.d∧(∀x B,ρ' x=some B→ρ x=some B∨x=b)∧(∀b,c.M b→(∀x B,ρ x=some B→B.blk≠b)→M' b∧w'.heap[b]? =w.heap[b]?)∧(∀x B,ρ' x=some B→(∃y B',ρ y=some B'∧B'.blk=B.blk∧(y=x∨c.M B.blk))∨w.heap.size≤B.blk):=by
 obtain⟨B,v',x,h1,h2,h3,h4⟩:=h;have BO: ∀y Y,ρ.put b B y=some Y→ρ y=some Y∨y=b:=fun y Y hy=>by
  unfold Ah.put at hy;by_cases e:y=b
  ·exact .inr e
  ·rw[AA e]at hy; exact .inl hy
 have IU:seen P fn #[]= #[]:=by rw[seen_def]; rfl
 refine⟨ρ.put b B,(Ctx.own c w.heap.size).M,c.R,v',_,#[],Ah.Ed hb,h2,.inl h3,hH.newAt hb hH.cap (AN _) Ac rfl (fun _=> .inl rfl) (fun e=>absurd hf e) h1 hx (fun _ _=>rfl) h4,AO.grow _,Ca.grow AO _,BQ.nil _ _ _,by rw[IU]; rfl,BO,fun y hy _=>⟨.inl hy,FZ w x (AO.ml y hy)⟩,fun y Y hy=> ?_⟩;rcases BO y Y hy with q|rfl
 ·exact .inl ⟨y,Y,q,rfl,.inl rfl⟩
 ·unfold Ah.put at hy;rw[AD rfl]at hy; cases hy;exact .inr (by omega)
theorem Br.lj{pf:PF}{fr:Frame}{pd:List Nat}(h:Br ρ pf fr pd){all:Array Oper}{fs es:List Nat}{k:List Ab}(ht:pf.todo= .CH all fs es::k){L:List Nat}{m:List Item}(Fx:fr.todo= .inRegion all L::m):pd=Ao pf.tmps all fs L:=by
 obtain⟨X,EI,A9⟩:=h.todo;rw[ht,Fx]at EI;cases EI with
 |plain hk =>
  obtain⟨b,m',_,hi,_⟩:=hk.cons_inv;cases hi
 |CH hk Gz h1 h2 h3=>rfl
theorem Br.Xe{pf:PF}{fr:Frame}{pd:List Nat}(h:Br ρ pf fr pd){all:Array Oper}{fs es:List Nat}{k:List Ab}(ht:pf.todo= .CH all fs es::k){i:Nat}{L:List Nat}{m:List Item}(Fx:fr.todo= .inRegion all (i::L)::m)(hi:i∉es){o:Oper}(ho:all[i]? =some o){v v':Value}
  (hd: ∀t,o.dst=some t→pf.tmps.get t=some v∧t<pf.nt) (hv:VR ρ v v'):Br ρ pf (fr.finish v') (Ao pf.tmps all fs L)∧(Ao pf.tmps all fs L).Sublist pd∧pd=Ao pf.tmps all fs (i::L):=by
 obtain⟨X,EI,A9⟩:=h.todo;rw[ht,Fx]at EI;cases EI with
 |plain hk =>
  obtain⟨b,m',_,hi,_⟩:=hk.cons_inv;cases hi
 |CH hk Gz h1 h2 h3 =>
  have Ch:Ao pf.tmps all fs (i::L)=Ao pf.tmps all fs [i]++Ao pf.tmps all fs L:=by
   rw[← HL]; rfl
  refine⟨?_,by rw[Ch]; exact List.sublist_append_right _ _,rfl⟩;cases Gz with
  |cons ha hn tl =>
   rw[BV Fx ho];refine⟨h.fn, ?_,⟨fun t=> ∃j∈L,j∈fs∧CY all j=some t, ?_,fun k' u CP hx=> ?_⟩,h.defers,h.mode,h.kind,h.round⟩
   ·cases o.dst with
    |none=>exact h.size
    |some t=>simp only[Array.size_setIfInBounds]; exact h.size
   ·rw[ht];exact .CH hk tl (fun j hj=>by
     rcases AZ.1 (h1 j hj)with rfl|q
     ·exact absurd hj hi
     ·exact q) (fun j hj=>h2 j (by simp[hj])) (fun j hj=>h3 j (by simp[hj]))
   ·cases xZ:o.dst with
    |none =>
     refine A9 k' u CP fun⟨j,j1,j2,j3⟩=> ?_;rcases AZ.1 j1 with rfl|j1
     ·unfold CY at j3;rw[ho]at j3;simp[xZ]at j3
     ·exact hx ⟨j,j1,j2,j3⟩
    |some t =>
     by_cases e:k'=t
     ·subst e;rw[(hd k' xZ).1]at CP;cases CP;exact⟨v',by simp only; rw[Bs (by rw[h.size]; exact(hd k' xZ).2)],hv⟩
     ·obtain⟨u',q1,q2⟩:=A9 k' u CP fun⟨j,j1,j2,j3⟩=>by
       rcases AZ.1 j1 with rfl|j1
       ·unfold CY at j3;rw[ho]at j3;simp[xZ]at j3;exact e j3.symm
       ·exact hx ⟨j,j1,j2,j3⟩
      exact⟨u',by simp only; rw[Bb (fun q=>e q.symm)]; exact q1,q2⟩
theorem Kept.sM{ρ':Ah}{M':Nat→Prop}{R':Addr→Prop}{w':World}(h:Kept E ρ c w)(AO:CK c w)(g:Ca c M' R' w w')(f1: ∀b,c.M b→(∀x B,ρ x=some B→B.blk≠b)→M' b∧w'.heap[b]? =w.heap[b]?)(f2: ∀x B,ρ' x=some B→(∃y B',ρ y=some B'∧B'.blk=B.blk∧(y=x∨c.M B.blk))∨w.heap.size≤B.blk)(hle:ρ.le ρ'){d:Nat}:Kept E ρ' {c with M:=M',R:=R',d:=d} w':=by
 have:=h.step (ρ':=ρ') (hn:=0) AO g ⟨f1,f2,fun x B hx=> .inr (Nat.zero_le _)⟩ hle (d:=d);exact this
theorem progress(hb:main=true∨E.send≠none)(hm:s.fr.mode= .run)(Hs:s.fr.kind≠ .early){all:Array Oper}{fs es:List Nat}{k:List Ab}(ht:s.fr.todo= .CH all fs es::k)(KY:Cr all=true)(Tl: ∀i∈fs,IQ all i=false)(RU: ∀i∈fs,i∉es→lJ P s all i)
  (RV: ∀ρ c fr cs w L m,DR E ρ s c (G fr cs) w→fr.todo= .inRegion all L::m→(L= []∨∃i l,L=i::l∧i∈es)→W P ty Post main n c (G fr cs) w) :
  ∀j ρ c fr cs w L m,DR E ρ s c (G fr cs) w→fr.todo= .inRegion all L::m→L.length≤j→W P ty Post main (n+j) c (G fr cs) w:=by
 intro j;induction j with
 |zero =>
  intro ρ c fr cs w L m h hL hlen;exact RV ρ c fr cs w L m h hL (.inl (Ge.1 (by omega)))
 |succ j ih =>
  intro ρ c fr cs w L m h hL hlen;by_cases eT:L= []∨∃i l,L=i::l∧i∈es
  ·have key:W P ty Post main n c (G fr cs) w:=RV ρ c fr cs w L m h hL eT;have: ∀q,W P ty Post main (n+q) c (G fr cs) w:=fun q=>by
    induction q with
    |zero=>exact key
    |succ q ihq=>exact .more ihq
   exact this (j+1)
  ·cases L with
   |nil=>exact absurd (.inl rfl) eT
   |cons i L =>
    have hi:i∉es:=fun q=>eT (.inr ⟨i,L,rfl,q⟩);simp only[Dv]at hlen;cases h with
    |mk hf hc D7 ET hH AO Dx g1 g2 g3 Bv =>
     rename_i cs pd pds;obtain⟨X,EI,A9⟩:=hf.todo;rw[ht,hL]at EI;have rR:i∈fs∧Mq (Region.before all) (i::L)∧∀t,X t→∃q∈i::L,q∈fs∧CY all q=some t:=by
      cases EI with
      |plain hk =>
       obtain⟨b,m',_,hi,_⟩:=hk.cons_inv;cases hi
      |CH hk Gz h1 h2 h3 =>
       refine⟨?_,Gz,fun t ht=>ht⟩;rcases h2 i (by simp)with q|q
       ·exact q
       ·exact absurd q hi
     obtain⟨n5,Gz,hX⟩:=rR;have hr:=Br.run hf hm;have hkf:fr.kind≠ .early:=by rw[hf.kind]; exact Hs
     have look: ∀{o:Oper},all[i]? =some o→∀t∈looksAt all o,¬X t:=fun {o} ho t dv hx=>by
      obtain⟨q,q1,q2,q3⟩:=hX t hx;exact Ka KY ho Gz dv q q1 (Tl q q2) q3
     refine W.GA rfl (hb.imp id fun e=>by rw[g1]; exact e) fun w₁ r=> ?_;have DN:=hH.rely r;have BY:=AO.rely r;have Bi:=Bv.rely r;cases RU i n5 hi with
     |pass ho hw hd =>
      have Aq:=FE (P:=P) (main:=main) (cs:=cs++E.base) (w:=w₁) hr hL ho (FP A9 (look ho) hw);obtain⟨Kx,Yl,hp3⟩:=hf.Xe ht hL hi ho hd (v':=undef) (.tuple .nil);refine⟨_,w₁,#[],c.M,c.R,Aq,rfl,Ca.refl BY,BQ.nil _ _ _, ?_⟩;have Ch:(Ao s.fr.tmps all fs L++pds).Sublist (pd++pds):=Yl.append (.refl _);exact ih ρ c _ _ w₁ L m (.mk Kx hc (D7.sublist Ch) (fun b hb=>ET b (Ch.subset hb)) DN BY Dx g1 g2 g3 Bi) (by rw[BV hL ho]) (by omega)
     |val ho hw hn hd hs =>
      obtain⟨ρ',M',R',v',w',ev,a1,a2,a3,a4,a5,a6,a7,a8,a9⟩:=hs ρ c fr w₁ (CJ.look A9 DN (look ho)) DN BY;have Aq:=Cv (P:=P) (main:=main) (cs:=cs++E.base) hr hL ho (FP A9 (look ho) hw) hkf (fun c hc=>absurd hc (hn c)) a3;obtain⟨Kx,Yl,hp3⟩:=(hf.mono a1).Xe ht hL hi ho hd a2;have Ch:(Ao s.fr.tmps all fs L++pds).Sublist (pd++pds):=Yl.append (.refl _);have WC:=EH P fr.fn ev;refine⟨_,w',_,M',R',Aq,rfl,a6,a7.sub WC, ?_⟩;rw[hf.fn,a8];refine ih ρ' {c with M:=M',R:=R',d:=c.d} _ _ w' L m (.mk Kx (hc.mono a1) (D7.sublist Ch) (fun b hb=> ?_) a4 a5 Dx g1 g2 g3 (Bi.step BY a6 a9 a1)) (by rw[BV hL ho]) (by omega);obtain⟨q1,q2⟩:=ET b (Ch.subset hb);refine⟨?_,q2⟩;cases hx:ρ' b with
      |none=>rfl
      |some B =>
       rcases a9.new b B hx with h|h
       ·rw[q1]at h; cases h
       ·omega
     |alloc ho hw hn ha hd eY B7 hx rT hs =>
      rename_i o v b x;obtain⟨t,dw⟩:=eY;have iu:b∈pd:=by
       rw[hf.lj ht hL];unfold Ao;rw[List.flatMap_cons];refine List.mem_append_left _ ?_;have:CY all i=some t:=by unfold CY; rw[ho]; exact dw
       rw[AD ⟨n5,by rw[ho]; simpa using ha⟩,this];simp only[EC,(hd t dw).1,B7];simp
      obtain⟨n1,n2⟩:=ET b (List.mem_append_left _ iu);obtain⟨ρ',M',R',v',w',ev,a1,a2,a3,a4,a5,a6,a7,a8,a9,a10,a11⟩:=(hs ρ c fr w₁ (CJ.look A9 DN (look ho)) DN BY n1).d (fn:=fr.fn) DN BY n1 n2 hx rT;have Aq:=Cv (P:=P) (main:=main) (cs:=cs++E.base) hr hL ho (FP A9 (look ho) hw) hkf (fun c hc=>absurd hc (hn c)) a3;obtain⟨Kx,Yl,hp3⟩:=(hf.mono a1).Xe ht hL hi ho hd a2;have Ch:(Ao s.fr.tmps all fs L++pds).Sublist (pd++pds):=Yl.append (.refl _);have WC:=EH P fr.fn ev;refine⟨_,w',_,M',R',Aq,rfl,a6,a7.sub WC, ?_⟩;rw[a8];refine ih ρ' {c with M:=M',R:=R',d:=c.d} _ _ w' L m (.mk Kx (hc.mono a1) (D7.sublist Ch) (fun y hy=> ?_) a4 a5 Dx g1 g2 g3 (Bi.sM BY a6 a10 a11 a1)) (by rw[BV hL ho]) (by omega);obtain⟨q1,q2⟩:=ET y (Ch.subset hy);refine⟨?_,q2⟩;cases rI:ρ' y with
      |none=>rfl
      |some B =>
       rcases a9 y B rI with h|rfl
       ·rw[q1]at h; cases h
       ·
        exfalso;rw[hp3]at D7;have e1:Ao s.fr.tmps all fs (i::L)=y::Ao s.fr.tmps all fs L:=by
         unfold Ao;rw[List.flatMap_cons];have:CY all i=some t:=by unfold CY; rw[ho]; exact dw
         rw[AD ⟨n5,by rw[ho]; simpa using ha⟩,this];simp only[EC,(hd t dw).1,B7];rfl
        rw[e1]at D7;exact(List.nodup_cons.1 D7).1 hy
end
def behind(b:Array Nat)(e:Nat)(fs:List Nat):List Nat:=fs.filter fun i=> !Qs b e i
def chained(b:Array Nat)(e:Nat)(es:List Nat):Bool:=es.all fun j=>Qs b j e&& !Nat.beq j e
section
variable{P:Program}{ty:TypeId}{E7:DD}{Post:Value→World→Prop}{main:Bool}{n:Nat}{E:Env}{ρ:Ah}{s:DS}{c:Ctx}{g:Goroutine}{w:World}
theorem fV{pf:PF}{fr:Frame}{pd:List Nat}(h:Br ρ pf fr pd){all:Array Oper}{fs es:List Nat}{k:List Ab}(ht:pf.todo= .CH all fs es::k): ∃L m,fr.todo= .inRegion all L::m∧L.length≤all.size:=by
 obtain⟨X,EI,A9⟩:=h.todo;rw[ht]at EI;generalize fr.todo=ft at EI;cases EI with
 |plain hk =>
  obtain⟨b,m',_,hi,_⟩:=hk.cons_inv;cases hi
 |CH hk Gz h1 h2 h3=>exact⟨_,_,rfl,Hz Gz.nodup h3⟩
theorem Reach.It(_hb:main=true∨E.send≠none)(hm:s.fr.mode= .run)(Hs:s.fr.kind≠ .early){all:Array Oper}{fs es:List Nat}{k:List Ab}(ht:s.fr.todo= .CH all fs es::k)(KY:Cr all=true)(Tl: ∀i∈fs,IQ all i=false)(RU: ∀i∈fs,i∉es→lJ P s all i){s':DS}
  (RV: ∀(E:Env),(main=true∨E.send≠none)→∀n,DW P ty Post main E n s'→∀ρ c fr cs w L m,DR E ρ s c (G fr cs) w→fr.todo= .inRegion all L::m→(L= []∨∃i l,L=i::l∧i∈es)→W P ty Post main (n+1) c (G fr cs) w):Reach P ty Post main E s s':=by
 refine⟨1+all.size,fun E hb n hn ρ c g w h=> ?_⟩;have h0:=h;cases h with
 |mk hf hc D7 ET hH AO Dx g1 g2 g3 Bv =>
  obtain⟨L,m,hL,hlen⟩:=fV hf ht;rw[← Bf];exact progress hb hm Hs ht KY Tl RU (fun ρ c fr cs w L m h hL hh=>RV E hb n hn ρ c fr cs w L m h hL hh) all.size ρ c _ _ w L m h0 hL hlen
theorem Reach.jH(hb:main=true∨E.send≠none)(hm:s.fr.mode= .run)(Hs:s.fr.kind≠ .early){all:Array Oper}{fs:List Nat}{k:List Ab}(ht:s.fr.todo= .CH all fs []::k)(KY:Cr all=true)(Tl: ∀i∈fs,IQ all i=false)(RU: ∀i∈fs,lJ P s all i) :
  Reach P ty Post main E s {s with fr:={s.fr with todo:=k}}:=by
 refine Reach.It hb hm Hs ht KY Tl (fun i hi _=>RU i hi) fun E hb n hn ρ c fr cs w L m h hL hh=> ?_;have Yn:L= []:=by
  rcases hh with hh|⟨i,l,_,hi⟩
  ·exact hh
  ·cases hi
 subst Yn;cases h with
 |mk hf hc D7 ET hH AO Dx g1 g2 g3 Bv =>
  rename_i cs pd pds;have Dj:pd= []:=by rw[hf.lj ht hL]; rfl
  obtain⟨X,EI,A9⟩:=hf.todo;rw[ht,hL]at EI;have E0:LR (Ic ρ) k m∧∀t,¬X t:=by
   cases EI with
   |plain hk =>
    obtain⟨b,m',_,hi,_⟩:=hk.cons_inv;cases hi
   |CH hk Gz h1 h2 h3=>exact⟨hk,fun t ⟨i,hi,_⟩=>by cases hi⟩
  have hr:=Br.run hf hm;subst Dj;refine W.wh (c:=c) rfl rfl (hb.imp id fun e=>by rw[g1]; exact e) AO (g':=G {fr with todo:=m} (cs++E.base)) (fun w₁=> ?_) (hn ρ c _ w (.mk ⟨hf.fn,hf.size,⟨_,.plain E0.1,fun k' v' CP _=>A9 k' v' CP (E0.2 k')⟩,hf.defers,hf.mode,hf.kind,hf.round⟩ hc D7 ET hH AO Dx g1 g2 g3 Bv));simp[G,stepG,stepG.exec,hr,hL]
theorem QX{tm:T Value}{pf:PF}{fr:Frame}{X:Tmp→Prop}{all:Array Oper}{fs es:List Nat}{e:Nat}{l:List Nat}{o:Oper}(KY:Cr all=true)(ho:all[e]? =some o)(Gz:Mq (Region.before all) (e::l))(_h1: ∀i∈es,i∈l)(h2: ∀i∈l,i∈fs∨i∈es)(hX: ∀t,X t↔∃q∈e::l,q∈fs∧CY all q=some t)
  (hs:fr.tmps.size=pf.nt) (A9: ∀k v,pf.tmps.get k=some v→¬X k→∃v',fr.tmps[k]? =some v'∧VR ρ v v') {v v':Value} (hp:By pf o.dst v=some tm) (hv:VR ρ v v') :
  (match o.dst with|some d=>fr.tmps.setIfInBounds d v'|none=>fr.tmps).size=pf.nt∧(∀i∈l,i∈behind (Region.before all) e fs∨i∈es)∧Ao tm all (behind (Region.before all) e fs) l=Ao pf.tmps all fs l∧
  ∀k u,tm.get k=some u→¬(∃q∈l,q∈behind (Region.before all) e fs∧CY all q=some k)→∃u',(match o.dst with|some d=>fr.tmps.setIfInBounds d v'|none=>fr.tmps)[k]? =some u'∧VR ρ u u':=by
 obtain⟨p1,p2⟩:=U0 (X:=X) hs A9 hp hv;cases Gz with
 |cons ha hn tl =>
  have DJ: ∀q∈l,(q∈fs↔q∈behind (Region.before all) e fs):=fun q hq=>by
   unfold behind;rw[B8];simp[ha q hq]
  have BK: ∀q∈l,q≠e:=fun q hq h=>hn (h ▸hq);refine⟨p1,fun i hi=>(h2 i hi).imp (DJ i hi).1 id,(Dc fun i hi=>⟨DJ i hi,fun _=> ?_⟩).symm,fun k u hk hx=>p2 k u hk fun hd hxk=> ?_⟩
  ·cases hd:CY all i with
   |none=>rfl
   |some t =>
    simp only[EC];rw[Ok hp t];by_cases q:o.dst=some t
    ·have:CY all e=some t:=by unfold CY; rw[ho]; exact q
     exact absurd (PA KY hd this) (BK i hi)
    ·rw[AA q]
  ·obtain⟨q,q1,q2,q3⟩:=(hX k).1 hxk;rcases AZ.1 q1 with rfl|q1
   ·unfold CY at q3;rw[ho]at q3;exact hd q3
   ·exact hx ⟨q,q1,(DJ q q1).1 q2,q3⟩
theorem UG{pf:PF}{fr:Frame}{pd:List Nat}(h:Br ρ pf fr pd){all:Array Oper}{fs es:List Nat}{e:Nat}{k:List Ab}(ht:pf.todo= .CH all fs (e::es)::k)(Hh:chained (Region.before all) e es=true){L:List Nat}{m:List Item}(hL:fr.todo= .inRegion all L::m)(hh:L= []∨∃i l,L=i::l∧i∈e::es) :
  ∃(l:List Nat) (X:Tmp→Prop),L=e::l∧LR (Ic ρ) k m∧Mq (Region.before all) (e::l)∧(∀i∈es,i∈l)∧(∀i∈l,i∈fs∨i∈es)∧(∀i∈e::l,i<all.size)∧(∀t,X t↔∃q∈e::l,q∈fs∧CY all q=some t)∧pd=Ao pf.tmps all fs (e::l)∧∀k v,pf.tmps.get k=some v→¬X k→∃v',fr.tmps[k]? =some v'∧VR ρ v v':=by
 have Dj:=h.lj ht hL;obtain⟨X,EI,A9⟩:=h.todo;rw[ht,hL]at EI;cases EI with
 |plain hk =>
  obtain⟨b,m',_,hi,_⟩:=hk.cons_inv;cases hi
 |CH hk Gz h1 h2 h3 =>
  have vw:e∈L:=h1 e (by simp);have eZ: ∀j∈es,Qs (Region.before all) j e=true∧j≠e:=fun j hj=>by
   have:=AX.1 Hh j hj;simp only[AF,BI]at this;exact⟨this.1,Bl this.2⟩
  rcases hh with rfl|⟨i,l,rfl,hi⟩
  ·cases vw
  ·have n6:i=e:=by
    rcases AZ.1 hi with h|hi
    ·exact h
    ·obtain⟨q1,q2⟩:=eZ i hi;rcases AZ.1 vw with h|hel
     ·exact absurd h.symm q2
     ·cases Gz with
      |cons ha hn tl=>rw[ha e hel]at q1; cases q1
   subst n6;have NM:=Gz;cases Gz with
   |cons ha hn tl =>
    refine⟨l,_,rfl,hk,NM,fun j hj=> ?_,fun j hj=> ?_,h3,fun t=>Iff.rfl,Dj,A9⟩
    ·rcases AZ.1 (h1 j (by simp[hj]))with q|q
     ·exact absurd q (eZ j hj).2
     ·exact q
    ·rcases h2 j (by simp[hj])with q|q
     ·exact .inl q
     ·rcases AZ.1 q with rfl|q
      ·exact absurd hj hn
      ·exact .inr q
theorem LV{tm:T Value}{all:Array Oper}{fs:List Nat}{e:Nat}{l:List Nat}:(Ao tm all fs l).Sublist (Ao tm all fs (e::l)):=by
 rw[show e::l= [e]++l from rfl,HL];exact List.sublist_append_right _ _
theorem Reach.Zv(hb:main=true∨E.send≠none)(hm:s.fr.mode= .run)(Hs:s.fr.kind≠ .early){all:Array Oper}{fs es:List Nat}{e:Nat}{k:List Ab}(ht:s.fr.todo= .CH all fs (e::es)::k)(KY:Cr all=true)(Hh:chained (Region.before all) e es=true)(Tl: ∀i∈fs,IQ all i=false)(RU: ∀i∈fs,i∉e::es→lJ P s all i)
  {o:Oper} (ho:all[e]? =some o) (hd: ∀c,o.op≠ .defer c) (hw:Aj s.fr all o=some true) {v:Value} {tm:T Value} {H':PH} {d':Nat} (Mv:s.H.next≤H'.next) (hp:By s.fr o.dst v=some tm)
  (hs: ∀ρ c fr w₁,CJ s.H.ng ρ s.fr fr o→HR ρ s.H c w₁→CK c w₁→c.d=s.d→KC P s.fr.fn ρ s.H.next v H' d' c w₁ (execOp fr.eval o)) :
  Reach P ty Post main E s {fr:={s.fr with tmps:=tm,todo:= .CH all (behind (Region.before all) e fs) es::k},cs:=s.cs,H:=H',d:=d'}:=by
 refine Reach.It hb hm Hs ht KY Tl RU fun E hb n hn ρ c fr cs w L m h hL hh=> ?_;cases h with
 |mk hf hc D7 ET hH AO Dx g1 g2 g3 Bv =>
  rename_i cs pd pds;obtain⟨l,X,rfl,E0,Gz,h1,h2,h3,hX,Dj,A9⟩:=UG hf ht Hh hL hh;have look: ∀t∈looksAt all o,¬X t:=fun t dv hx=>by
   obtain⟨q,q1,q2,q3⟩:=(hX t).1 hx;exact Ka KY ho Gz dv q q1 (Tl q q2) q3
  have hr:=Br.run hf hm;refine W.GA rfl (hb.imp id fun e=>by rw[g1]; exact e) fun w₁ r=> ?_;have DN:=hH.rely r;have BY:=AO.rely r;obtain⟨ρ',M',R',v',w',ev,a1,a2,a3,a4,a5,a6,a7,a8,a9⟩:=hs ρ c fr w₁ (CJ.look A9 DN look) DN BY Dx;have Aq:=Cv (P:=P) (main:=main) (cs:=cs++E.base) hr hL ho (FP A9 look hw) (by rw[hf.kind]; exact Hs) (fun c hc=>absurd hc (hd c)) a3;have WC:=EH P fr.fn ev;obtain⟨p1,p2,p3,p4⟩:=QX KY ho Gz h1 h2 hX hf.size (fun k v hk hx=>let⟨v',a,b⟩:=A9 k v hk hx; ⟨v',a,b.mono a1⟩) hp a2;refine⟨_,w',_,M',R',Aq,rfl,a6,a7.sub WC, ?_⟩;rw[hf.fn,a8,BV hL ho];have Fx:=hf.mono a1;have dv:Mq (Region.before all) l:=by cases Gz with|cons _ _ tl=>exact tl
  have Yq:Br ρ' {s.fr with tmps:=tm,todo:= .CH all (behind (Region.before all) e fs) es::k} ({fr with tmps:=match o.dst with|some d=>fr.tmps.setIfInBounds d v'|none=>fr.tmps,todo:= .inRegion all l::m}:Frame) (Ao tm all (behind (Region.before all) e fs) l) :=
   ⟨hf.fn,p1,⟨_,.CH (E0.mono fun _ _=>Ic.mono a1) dv h1 p2 (fun i hi=>h3 i (by simp[hi])),fun k' u CP hx=>p4 k' u CP hx⟩,Fx.defers,Fx.mode,hf.kind,Fx.round⟩
  have Ch:(Ao tm all (behind (Region.before all) e fs) l++pds).Sublist (pd++pds):=by
   rw[p3,Dj];exact List.Sublist.append LV (.refl _)
  refine hn ρ' {c with M:=M',R:=R',d:=d'} _ w' (.mk Yq (hc.mono a1) (D7.sublist Ch) (fun b hb=> ?_) ?_ ?_ rfl g1 g2 g3 ((Bv.rely r).step BY a6 a9 a1))
  ·obtain⟨q1,q2⟩:=ET b (Ch.subset hb);refine⟨?_,AV q2 Mv⟩;cases hx:ρ' b with
   |none=>rfl
   |some B =>
    rcases a9.new b B hx with h|h
    ·rw[q1]at h; cases h
    ·omega
  ·exact⟨a4.cap,a4.Dk,fun b B o hb vS=>(by
    have:=a4.rel b B o hb vS;cases this with
    |cells hs he hf hle Ax hR AO=>exact .cells hs he hf hle Ax hR AO
    |obj hw ho hM=>exact .obj hw ho hM),a4.inj,a4.EK,a4.mem⟩
  ·exact⟨a5.ml,a5.rl,a5.rm⟩
theorem Reach.Wn(hb:main=true∨E.send≠none)(hm:s.fr.mode= .run)(Hs:s.fr.kind≠ .early){all:Array Oper}{fs es:List Nat}{e:Nat}{k:List Ab}(ht:s.fr.todo= .CH all fs (e::es)::k)(KY:Cr all=true)(Hh:chained (Region.before all) e es=true)(Tl: ∀i∈fs,IQ all i=false)(RU: ∀i∈fs,i∉e::es→lJ P s all i)
  {o:Oper} (oB:e∉fs) (ho:all[e]? =some o) (hd: ∀c,o.op≠ .defer c) (hw:Aj s.fr all o=some true) {f:FuncId} {fn:Func} {body:Code} (hf:P.funcs[f]? =some fn) (RX:fn.body=some body) {args:List Value} (hlen:args.length≤2^T.deep)
  (hs: ∀ρ c fr w₁,CJ s.H.ng ρ s.fr fr o→HR ρ s.H c w₁→CK c w₁→W8 P ρ f args w₁ (execOp fr.eval o)) :
  Reach P ty Post main E s {s with fr:=CN f fn body args .normal,cs:={s.fr with todo:= .dcall all (behind (Region.before all) e fs) e es::k}::s.cs}:=by
 refine Reach.It hb hm Hs ht KY Tl RU fun E hb n hn ρ c fr cs w L m h hL hh=> ?_;cases h with
 |mk D8 hc D7 ET hH AO Dx g1 g2 g3 Bv =>
  rename_i cs pd pds;obtain⟨l,X,rfl,E0,Gz,h1,h2,h3,hX,Dj,A9⟩:=UG D8 ht Hh hL hh;have look: ∀t∈looksAt all o,¬X t:=fun t dv hx=>by
   obtain⟨q,q1,q2,q3⟩:=(hX t).1 hx;exact Ka KY ho Gz dv q q1 (Tl q q2) q3
  have hr:=Br.run D8 hm;refine W.GA rfl (hb.imp id fun e=>by rw[g1]; exact e) fun w₁ r=> ?_;have DN:=hH.rely r;have BY:=AO.rely r;obtain⟨Ap,a1,a2⟩:=hs ρ c fr w₁ (CJ.look A9 DN look) DN BY;have Aq:=Fi (P:=P) (main:=main) (cs:=cs++E.base) hr hL ho (FP A9 look hw) (by rw[D8.kind]; exact Hs) hd a2;have IU:seen P fr.fn #[]= #[]:=by rw[seen_def]; rfl
  refine⟨_,w₁,_,c.M,c.R,Aq,rfl,Ca.refl BY,by rw[IU]; exact BQ.nil _ _ _, ?_⟩;rw[IU];have NM:=Gz;cases Gz with
  |cons ha iW tl =>
   have DJ: ∀q∈l,(q∈fs↔q∈behind (Region.before all) e fs):=fun q hq=>by
    unfold behind;rw[B8];simp[ha q hq]
   have He:Ao s.fr.tmps all fs l=Ao s.fr.tmps all (behind (Region.before all) e fs) l:=Dc fun i hi=>⟨DJ i hi,fun _=>rfl⟩;have Yq:Br ρ {s.fr with todo:= .dcall all (behind (Region.before all) e fs) e es::k} fr (Ao s.fr.tmps all (behind (Region.before all) e fs) l):=by
    refine⟨D8.fn,D8.size,⟨fun t=> ∃q∈l,q∈behind (Region.before all) e fs∧CY all q=some t,by rw[hL]; exact .dcall E0 NM h1 (fun i hi=>(h2 i hi).imp (DJ i hi).1 id) h3,fun k' u CP hx=> ?_⟩,D8.defers,D8.mode,D8.kind,D8.round⟩;refine A9 k' u CP fun Hp=> ?_;obtain⟨q,q1,q2,q3⟩:=(hX k').1 Hp;rcases AZ.1 q1 with rfl|q1
    ·exact oB q2
    ·exact hx ⟨q,q1,(DJ q q1).1 q2,q3⟩
   have Oz:DR E ρ {s with fr:=CN f fn body args .normal,cs:={s.fr with todo:= .dcall all (behind (Region.before all) e fs) e es::k}::s.cs} c (G (Frame.enter P f Ap .normal) (fr::cs++E.base)) w₁:=by
    have Ch:(Ao s.fr.tmps all (behind (Region.before all) e fs) l++pds).Sublist (pd++pds):=by
     rw[← He,Dj];exact List.Sublist.append LV (.refl _)
    exact .mk (Br.enter hf RX a1 hlen .normal) (.cons Yq hc) (by simpa using D7.sublist Ch) (fun b hb=>ET b (Ch.subset (by simpa using hb))) DN BY Dx g1 g2 g3 (Bv.rely r)
   exact hn ρ c _ w₁ Oz
theorem Reach.gy(A7:A8 P E7)(hb:main=true∨E.send≠none)(hm:s.fr.mode= .returning)(G2:s.fr.defers= [])(JG:At s.fr.todo=true)(hk:s.fr.kind= .normal){fn:Func}(hf:P.funcs[s.fr.fn]? =some fn){vs:List Value}(hv:Db E7 s.H s.fr.tmps fn.results.toList=some vs)
  {pf:PF} {cs':List PF} (NN:s.cs=pf::cs') {all:Array Oper} {fs es:List Nat} {e:Nat} {k:List Ab} (ht:pf.todo= .dcall all fs e es::k) (KY:Cr all=true) {o:Oper} (ho:all[e]? =some o) {tm:T Value} (hp:By pf o.dst (HV vs)=some tm) (_Hh:chained (Region.before all) e es=true) :
  Reach P ty Post main E s {s with fr:={pf with tmps:=tm,todo:= .CH all (behind (Region.before all) e fs) es::k},cs:=cs'}:=by
 refine Reach.J6 hb fun E ρ c fr cs pd pds w Ff hc hH AO=> ?_;rw[NN]at hc;cases hc with
 |cons E1 Oc =>
  rename_i B4 BD Xm LW;obtain⟨Dj,_,A9⟩:=Ff.Dl JG;obtain⟨v',ev,q1,q2,q3⟩:=Es (P:=P) A7 hH A9 hv;have Dp:fr.mode= .returning:=Ff.mode.MG.2 hm;have I1:fr.defers= []:=by
   have:=Ff.defers;rw[G2]at this;exact this.Co
  have Aq:=Er (P:=P) (main:=main) (cs:=(B4::BD)++E.base) Dp I1 (by rw[Ff.fn]; exact hf) q3;have WR:doReturn P main fr ((B4::BD)++E.base) none v' w= .go (G (B4.finish v') (BD++E.base)) w:=by
   have KZ:fr.kind= .normal:=by rw[Ff.kind]; exact hk
   simp[doReturn,KZ,G]
  rw[WR,FB]at Aq;obtain⟨X,EI,rK⟩:=E1.todo;rw[ht]at EI;generalize bH:B4.todo=ct at EI;cases EI with
  |plain hk =>
   obtain⟨b,m',_,hi,_⟩:=hk.cons_inv;cases hi
  |dcall E0 Gz h1 h2 h3 =>
   rename_i m l;have NM:=Gz;obtain⟨p1,p2,p3,p4⟩:=QX (X:=fun t=> ∃q∈e::l,q∈fs.filter (fun q=> !Nat.beq q e)∧CY all q=some t) (fs:=fs.filter (fun q=> !Nat.beq q e)) KY ho Gz h1 (fun i hi=>by
    rcases h2 i hi with q|q
    ·refine .inl (B8.2 ⟨q, ?_⟩);cases NM with
     |cons ha hn tl =>
      have:i≠e:=fun h=>hn (h ▸hi);rw[beq_eq]; simpa using this
    ·exact .inr q) (fun t=>Iff.rfl) E1.size (fun k' u CP hx=>rK k' u CP fun⟨i,i1,i2,i3⟩=>hx ⟨i,by simp[i1],B8.2 ⟨i2,by
     cases NM with
     |cons ha hn tl =>
      have:i≠e:=fun h=>hn (h ▸i1);rw[beq_eq]; simpa using this⟩,i3⟩) hp q1
   cases Gz with
   |cons ha hn tl =>
    have BK: ∀i∈l,i≠e:=fun i hi h=>hn (h ▸hi);have nq: ∀i∈l,(i∈behind (Region.before all) e (fs.filter (fun q=> !Nat.beq q e))↔i∈behind (Region.before all) e fs):=fun i hi=>by
     unfold behind;rw[B8,B8,B8];have:(!Nat.beq i e)=true:=by rw[beq_eq]; simpa using BK i hi
     simp[this]
    have kB:Ao tm all (behind (Region.before all) e fs) l=Ao pf.tmps all fs l:=by
     refine Eq.trans (Dc fun i hi=>⟨(nq i hi).symm,fun _=>rfl⟩) (p3.trans (Dc fun i hi=>⟨?_,fun _=>rfl⟩));rw[B8];have:(!Nat.beq i e)=true:=by rw[beq_eq]; simpa using BK i hi
     simp[this]
    refine⟨B4.finish v',BD,Ao tm all (behind (Region.before all) e fs) l,LW,ev, ?_,Oc,by subst Dj; rw[kB]; simp,q2,by simpa using Aq⟩;rw[BV bH ho];exact⟨E1.fn,p1,⟨_,.CH E0 tl h1 (fun i hi=>(p2 i hi).imp (nq i hi).1 id) (fun i hi=>h3 i (by simp[hi])),fun k' u CP hx=>p4 k' u CP fun⟨i,i1,i2,i3⟩=>hx ⟨i,i1,(nq i i1).1 i2,i3⟩⟩,E1.defers,E1.mode,E1.kind,E1.round⟩
end
def addrEq(a b:Addr):Bool:=match a.spot with
 |none=>match b.spot with
  |none=>Nat.beq a.block b.block&&Nat.beq a.off b.off
  |_=>false
 |_=>false
theorem SG{a b:Addr}(h:addrEq a b=true):a=b:=by
 obtain⟨b1,o1,s1⟩:=a;obtain⟨b2,o2,s2⟩:=b;cases s1<;>cases s2<;>simp only[addrEq,AF]at h
 ·rw[AJ h.1,AJ h.2]
 ·cases h
 ·cases h
 ·cases h
def J0{α:Type}(eq:α→α→Bool)(l:List α):List α→Bool :=
 List.rec (motive:=fun _=>List α→Bool) (fun m=>match m with| []=>true|_=>false) (fun a _ ih m=>match m with| []=>false|b::m=>eq a b&&ih m) l
theorem NI{α:Type}{eq:α→α→Bool}(h: ∀a b,eq a b=true→a=b): ∀{l m:List α},J0 eq l m=true→l=m
 | [],[],_=>rfl
 | [],b::m,e=>by cases e
 |a::l,[],e=>by cases e
 |a::l,b::m,e=>by
  have e:(eq a b&&J0 eq l m)=true:=e;rw[AF]at e;rw[h a b e.1,NI h e.2]
def oW(a b:Fn):Bool:=match a with
 | .func f=>match b with| .func g=>Nat.beq f g|_=>false
 | .yield l=>match b with| .yield m=>Nat.beq l m|_=>false
 |_=>false
theorem jA{a b:Fn}(h:oW a b=true):a=b:=by
 cases a<;>simp only[oW]at h<;>first|(cases h; done)|skip
 ·cases b<;>simp only at h<;>first|(cases h; done)|rw[AJ h]
 ·cases b<;>simp only at h<;>first|(cases h; done)|rw[AJ h]
def lL(ih:Value→Value→Bool)(a b:Value):Bool :=
 match a with
  | .bool x=>match b with| .bool y=>x==y|_=>false
  | .int k x=>match b with| .int k' y=>Ft k k'&&rG x y|_=>false
  | .string x=>match b with| .string y=>J0 (fun a b=>Nat.beq a.toNat b.toNat) x.data.toList y.data.toList|_=>false
  | .pointer none=>match b with| .pointer none=>true|_=>false
  | .pointer (some x)=>match b with| .pointer (some y)=>addrEq x y|_=>false
  | .slice none x x'=>match b with| .slice none y y'=>Nat.beq x y&&Nat.beq x' y'|_=>false
  | .slice (some p) x x'=>match b with| .slice (some q) y y'=>addrEq p q&&(Nat.beq x y&&Nat.beq x' y')|_=>false
  | .map none=>match b with| .map none=>true|_=>false
  | .map (some x)=>match b with| .map (some y)=>Nat.beq x y|_=>false
  | .func f xs ys=>match b with| .func g us vs=>oW f g&&(J0 ih xs.toList us.toList&&J0 ih ys.toList vs.toList)|_=>false
  | .nilFunc=>match b with| .nilFunc=>true|_=>false
  | .iface t x=>match b with| .iface u y=>Nat.beq t u&&ih x y|_=>false
  | .nilIface=>match b with| .nilIface=>true|_=>false
  | .agg xs=>match b with| .agg ys=>J0 ih xs.toList ys.toList|_=>false
  | .tuple xs=>match b with| .tuple ys=>J0 ih xs.toList ys.toList|_=>false
  |_=>false
def Rk(n:Nat):Value→Value→Bool :=
 Nat.rec (motive:=fun _=>Value→Value→Bool) (fun _ _=>false) (fun _ ih a b=>lL ih a b) n
theorem HP: ∀(n:Nat) (a b:Value),Rk n a b=true→a=b
 |0,_,_,h=>by cases h
 |n+1,a,b,h=>by
  have ih:=HP n;have arr: ∀{xs ys:Array Value},J0 (Rk n) xs.toList ys.toList=true→xs=ys:=fun h=>by
   have:=NI ih h;exact ED.1 this
  have h:lL (Rk n) a b=true:=h;unfold lL at h;cases a with
  |bool x=>cases b with
   |bool y=>rw[eq_of_beq h]
   |_=>cases h
  |int k x=>cases b with
   |int k' y =>
    simp only[AF,Yf]at h;rw[Rz h.1,E6 h.2]
   |_=>cases h
  |string x=>cases b with
   |string y =>
    have:=NI (fun(a b:UInt8) fB=>UInt8.toNat_inj.1 (AJ fB)) h;obtain⟨x⟩:=x;obtain⟨y⟩:=y;simp only at this;rw[ED.1 this]
   |_=>cases h
  |pointer p=>cases p with
   |none=>cases b with
    |pointer q=>cases q with
     |none=>rfl
     |some q=>cases h
    |_=>cases h
   |some p=>cases b with
    |pointer q=>cases q with
     |none=>cases h
     |some q=>rw[SG h]
    |_=>cases h
  |slice p x x'=>cases p with
   |none=>cases b with
    |slice q y y'=>cases q with
     |none =>
      simp only[AF]at h;rw[AJ h.1,AJ h.2]
     |some q=>cases h
    |_=>cases h
   |some p=>cases b with
    |slice q y y'=>cases q with
     |none=>cases h
     |some q =>
      simp only[AF]at h;rw[SG h.1,AJ h.2.1,AJ h.2.2]
    |_=>cases h
  |map p=>cases p with
   |none=>cases b with
    |map q=>cases q with
     |none=>rfl
     |some q=>cases h
    |_=>cases h
   |some p=>cases b with
    |map q=>cases q with
     |none=>cases h
     |some q=>rw[AJ h]
    |_=>cases h
  |func f xs ys=>cases b with
   |func g us vs =>
    simp only[AF]at h;rw[jA h.1,arr h.2.1,arr h.2.2]
   |_=>cases h
  |nilFunc=>cases b with
   |nilFunc=>rfl
   |_=>cases h
  |iface t x=>cases b with
   |iface u y =>
    simp only[AF]at h;rw[AJ h.1,ih _ _ h.2]
   |_=>cases h
  |nilIface=>cases b with
   |nilIface=>rfl
   |_=>cases h
  |agg xs=>cases b with
   |agg ys=>rw[arr h]
   |_=>cases h
  |tuple xs=>cases b with
   |tuple ys=>rw[arr h]
   |_=>cases h
  |_=>cases h
def Sx(d:TypeDesc)(a b:Value):Option Bool :=
 match d with
 | .pointer _=>match a with
  | .pointer none=>match b with| .pointer (some _)=>some false|_=>none
  | .pointer (some _)=>match b with| .pointer none=>some false|_=>none
  |_=>none
 | .slice _=>match a with
  | .slice none _ _=>match b with| .slice (some _) _ _=>some false| .slice none _ _=>some true|_=>none
  | .slice (some _) _ _=>match b with| .slice none _ _=>some false|_=>none
  |_=>none
 | .map _ _=>match a with
  | .map none=>match b with| .map (some _)=>some false|_=>none
  | .map (some _)=>match b with| .map none=>some false|_=>none
  |_=>none
 | .func _ _ _=>match a with
  | .nilFunc=>match b with| .func _ _ _=>some false|_=>none
  | .func _ _ _=>match b with| .nilFunc=>some false|_=>none
  |_=>none
 | .interface _=>match a with
  | .nilIface=>match b with| .iface _ _=>some false|_=>none
  | .iface t _=>match b with| .nilIface=>some false| .iface u _=>cond (Nat.beq t u) none (some false)|_=>none
  |_=>none
 |_=>none
def ZT(op:BinOp)(r:Bool):Option Value:=match op with
 | .eql=>some (.bool r)
 | .neq=>some (.bool !r)
 |_=>none
section
variable{P:Program}{ty:DD}{ρ:Ah}{pf:PF}{fr:Frame}{H:PH}{c:Ctx}{w:World}
theorem Xl(A7:A8 P ty){t:TypeId}{i:TypeInfo}{d:TypeDesc}(h:ty.get t=some (i,d)){a b a' b':Value}(ha:VR ρ a a')(hb:VR ρ b b'){r:Bool}(hp:Sx d a b=some r) :
  (Op.equal t a' b').runT P w #[]=(.ok r w,#[])∧∀op x y,eqGuard op t x y a' b'= .pure ():=by
 have Lj:=Aa (w:=w) (es:= #[]) (A7 _ _ h).2;have e0:Op.equal t a' b'=Op.equalIn (9999+1) t a' b':=rfl;have guard:(∀op x y,eqGuard op t x y a' b'= .pure ())↔True:=⟨fun _=>trivial,fun _=>by
  intro op x y;unfold eqGuard;cases ha<;>cases hb<;>first
   |(cases op<;>rfl)
   |(cases d<;>cases hp)⟩
 refine⟨?_,guard.2 trivial⟩;rw[e0];unfold Op.equalIn;refine(AB Lj).trans ?_;cases d with
 |pointer e =>
  cases ha with
  |JS=>cases hb with
   |ptr hB=>cases hp; rfl
   |_=>cases hp
  |ptr hA=>cases hb with
   |JS=>cases hp; rfl
   |_=>cases hp
  |_=>cases hp
 |slice e =>
  cases ha with
  |MC=>cases hb with
   |sl hB hc=>cases hp; rfl
   |MC=>cases hp; rfl
   |_=>cases hp
  |sl hA hc=>cases hb with
   |MC=>cases hp; rfl
   |_=>cases hp
  |_=>cases hp
 |map k e =>
  cases ha with
  |IP=>cases hb with
   |map hB=>cases hp; rfl
   |_=>cases hp
  |map hA=>cases hb with
   |IP=>cases hp; rfl
   |_=>cases hp
  |_=>cases hp
 |func ps rs v =>
  cases ha with
  |nilFunc=>cases hb with
   |func h1 h2 h3=>cases hp; rfl
   |_=>cases hp
  |func h1 h2 h3=>cases hb with
   |nilFunc=>cases hp; rfl
   |_=>cases hp
  |_=>cases hp
 |interface ms =>
  cases ha with
  |nilIface=>cases hb with
   |iface hv=>cases hp; rfl
   |_=>cases hp
  |iface hv=>cases hb with
   |nilIface=>cases hp; rfl
   |iface UX =>
    rename_i t1 _ _ t2 _ _;simp only[Sx]at hp;cases e:Nat.beq t1 t2 with
    |true=>rw[e]at hp; cases hp
    |false =>
     rw[e]at hp;simp only[Av,AE]at hp;subst hp;simp only
     rw[AD (Bl e)];rfl
   |_=>cases hp
  |_=>cases hp
 |_=>cases hp
theorem Wm{hn:Nat}{o:Oper}(A7:A8 P ty)(h:CJ H.ng ρ pf fr o)(hH:HR ρ H c w)(AO:CK c w){op:BinOp}{t t':TypeId}{x y:Operand}(ho:o.op= .binOp op t x y t'){i:TypeInfo}{d:TypeDesc}(e1:ty.get t=some (i,d)){a b:Value}(hx:AQ H.ng pf x=some a)(hy:AQ H.ng pf y=some b)
  {r:Bool} (hp:Sx d a b=some r) {v:Value} (hv:ZT op r=some v):Sound P ρ hn v H c w (execOp fr.eval o):=by
 have h1:=h x (by simp[ho,Op.operands]) _ hx;have h2:=h y (by simp[ho,Op.operands]) _ hy;obtain⟨q1,q2⟩:=Xl (P:=P) (w:=w) A7 e1 h1 h2 hp;have BB:execOp fr.eval o=((do eqGuard op t x y (fr.eval x) (fr.eval y); binOp op t (fr.eval x) (fr.eval y):Sem Value)).bind fun r=>Sem.pure (Next.value r):=by
  unfold execOp;rw[ho];rfl
 have iu: ∀(f:Bool→Bool),(binOp op t (fr.eval x) (fr.eval y)=(Op.equal t (fr.eval x) (fr.eval y)).bind fun r=>Sem.pure (.bool (f r)))→VR ρ v (.bool (f r))→Sound P ρ hn v H c w (execOp fr.eval o):=fun f hf nJ=>by
  refine Sound.pure hH AO nJ ?_;rw[BB];have:((do eqGuard op t x y (fr.eval x) (fr.eval y); binOp op t (fr.eval x) (fr.eval y):Sem Value)).runT P w #[]=(.ok (.bool (f r)) w,#[]):=by
   rw[q2];show(binOp op t (fr.eval x) (fr.eval y)).runT P w #[]=_;rw[hf,AB q1];rfl
  rw[AB this];rfl
 have shape: ∀hY,(hY= .eql∨hY= .neq)→binOp hY t (fr.eval x) (fr.eval y)=(Op.equal t (fr.eval x) (fr.eval y)).bind fun r=>Sem.pure (.bool (if hY= .eql then r else !r)):=fun hY A5=>by
  generalize fr.eval x=u1 at h1;generalize fr.eval y=u2 at h2;rcases A5 with rfl|rfl
  ·cases h1<;>cases h2<;>first
    |rfl
    |(cases d<;>cases hp)
  ·cases h1<;>cases h2<;>first
    |rfl
    |(cases d<;>cases hp)
 cases op with
 |eql =>
  simp only[ZT,AE]at hv;subst hv;exact iu (fun r=>r) (by rw[shape .eql (.inl rfl)]; rfl) (.bool _)
 |neq =>
  simp only[ZT,AE]at hv;subst hv;exact iu (fun r=> !r) (by rw[shape .neq (.inr rfl)]; rfl) (.bool _)
 |_=>cases hv
def Ho(d:TypeDesc):Bool:=TypeDesc.casesOn (motive:=fun _=>Bool) d false false (fun _=>false) (fun _=>false) (fun _=>false) false true (fun _=>false) (fun _=>false) (fun _ _=>false) (fun _ _=>false) (fun _ _=>false) (fun _=>false) (fun _ _ _=>false) (fun _=>false) (fun _=>false) (fun _ _=>false)
theorem upT_cond{α:Type}{b:Bool}{x:Option α}{y:α}(h:cond b x none=some y):b=true∧x=some y:=by
 cases b with
 |true=>exact⟨rfl,h⟩
 |false=>cases h
def HX(ty:DD)(H:PH)(s t:TypeId)(a:Addr):Option Value :=
 match ty.get s with
 |some (_,.pointer e)=>match ty.get t with
  |some (_,td)=>cond (Ho td) (match Eg ty e with
   |some n=>match a.spot with
    |none=>match H.t.get a.block with
     |some (.cells _ size _ _ _ _ _ _)=>cond (!Nat.beq n 0&&Nat.blt a.off size) (some (.pointer (some a))) none
     |_=>none
    |_=>none
   |none=>none) none
  |none=>none
 |_=>none
theorem Re{hn:Nat}{o:Oper}(A7:A8 P ty)(h:CJ H.ng ρ pf fr o)(hH:HR ρ H c w)(AO:CK c w){s t:TypeId}{x:Operand}(ho:o.op= .convert s t x){a:Addr}(hx:AQ H.ng pf x=some (.pointer (some a))){v:Value}(hp:HX ty H s t a=some v):Sound P ρ hn v H c w (execOp fr.eval o):=by
 have h1:=h x (by simp[ho,Op.operands]) _ hx;unfold HX at hp;split at hp
 ·rename_i si e e1;split at hp
  ·rename_i ti td e2;obtain⟨eu,He⟩:=upT_cond hp;replace hp:=He;cases td<;>first|exact(Bool.false_ne_true eu).elim|skip
   split at hp
   ·rename_i n e3;split at hp
    ·rename_i e4;split at hp
     ·rename_i tr size el es own fam ok D4 e5;cases e6:(!Nat.beq n 0&&Nat.blt a.off size)with
      |false=>rw[e6]at hp; cases hp
      |true =>
       rw[e6]at hp;simp only[AG,AE]at hp;subst hp;simp only[AF,BI]at e6;have c1:=Bl e6.1;have c2:a.off<size:=AH e6.2;generalize C6:fr.eval x=u at h1;cases h1 with
       |ptr hB =>
        rename_i B;refine Sound.val hH AO (.ptr hB) (s:=Go.convert s t (.pointer (some {a with block:=B.blk}))) (by unfold execOp; rw[ho]; simp only[C6]; rfl) ?_;have hr:=hH.rel _ _ _ hB e5;cases hr with
        |cells hs he hf hle Ax hR EP =>
         have Yi: ∀es,(shape B.blk).runT P w es=(.ok (some (el,B.size)) w,es):=fun es=>by
          show(Sem.shape B.blk .pure).runT P w es=_;simp only[Sem.runT,hs]
         have WB: ∀es,(viewAt B.blk).runT P w es=(.ok none w,es):=fun es=>by
          unfold viewAt;refine(AB (Yi es)).trans ?_;rfl
         have WH: ∀es,(Conv.seenAt {a with block:=B.blk}).runT P w es=(.ok {a with block:=B.blk} w,es):=fun es=>by
          unfold Conv.seenAt;refine(AB (WB es)).trans ?_;rfl
         have QY: ∀es,(cellsIn B.blk).runT P w es=(.ok (some B.size) w,es):=fun es=>by
          unfold cellsIn;refine(AB (Yi es)).trans ?_;rfl
         unfold Go.convert;refine(AB (s:=underlying s) (Aa (A7 _ _ e1).2)).trans ?_;refine(AB (s:=underlying t) (Aa (A7 _ _ e2).2)).trans ?_;refine(AB (s:=underlying s) (Aa (A7 _ _ e1).2)).trans ?_;refine(AB (s:=underlying t) (Aa (A7 _ _ e2).2)).trans ?_;refine(AB (WH _)).trans ?_;refine(AB (QY _)).trans ?_;refine(AB (Ef A7 e3 _)).trans ?_;have bD:(decide (a.off≥B.size)&&a.spot.isNone)=false:=by
          have: ¬a.off≥B.size:=by omega
          simp[this]
         simp only[bD];rw[AA (by simp; exact c1)];rfl
     ·cases hp
    ·cases hp
   ·cases hp
  ·cases hp
 ·cases hp
end
def cP(ty:DD)(H:PH)(dT:TypeId)(d s:Value):Option (Value×PH) :=
 match ty.get dT with
 |some (_,.slice elem)=>match Eg ty elem with
  |some size=>match d with
   | .slice (some a) Y6 _=>match s with
    | .slice (some b) sLen _=>match pread H b (Nat.min sLen Y6*size)with
     |some l=>match a.spot with
      |none=>match H.t.get a.block with
       |some (.cells tr sz el es true 0 true false)=>cond (l.all Em&&(Nat.ble (a.off+l.length) sz&&Nat.ble sz (2^T.deep)))
        (some (goInt (Nat.min sLen Y6),(H.Ho (H.t.set a.block (.cells (setFrom l tr a.off) sz el es true 0 true false))))) none
       |_=>none
      |_=>none
     |none=>none
    | .slice none 0 _=>some (goInt 0,H)
    |_=>none
   | .slice none 0 _=>match s with
    | .slice _ _ _=>some (goInt 0,H)
    |_=>none
   |_=>none
  |none=>none
 |_=>none
section
variable{P:Program}{ty:DD}{ρ:Ah}{pf:PF}{fr:Frame}{H:PH}{c:Ctx}{w:World}
theorem MH{dT:TypeId}{EY:Array TypeId}(JX:EY[0]? =some dT){tt elem:TypeId}{size:Nat}(hs:P.underlying dT=some (.slice elem))(Bp: ∀es,(sizeOf elem).runT P w es=(.ok size w,es)){base:Option Addr}{Y6 wi n sl:Nat}{x:Value}(hn: ∀es,(Builtin.lenOf x).runT P w es=(.ok sl w,es))(hm:Nat.min sl Y6=n)
  {cells:Array Value} {es es1 es2:Array Event} {w':World} (h1:(Builtin.firstCells size n x).runT P w es=(.ok cells w,es1)) (h2: ∀a,base=some a→(storeCells a cells.toList).runT P w es1=(.ok () w',es2)) (h3:base=none→w'=w∧es2=es1) :
  (Builtin.copy_ EY tt #[.slice base Y6 wi,x]).runT P w es=(.ok (goInt n) w',es2):=by
 unfold Builtin.copy_;simp only[JX,G7,CM,Fg];refine(AB (Aa hs)).trans ?_;simp only
 refine(AB (hn es)).trans ?_;refine(AB (Bp es)).trans ?_;rw[hm];refine(AB h1).trans ?_;cases base with
 |none =>
  obtain⟨rfl,rfl⟩:=h3 rfl;rfl
 |some a =>
  simp only
  refine(AB (h2 a rfl)).trans ?_;rfl
theorem Y8{hn:Nat}{o:Oper}(A7:A8 P ty)(h:CJ H.ng ρ pf fr o)(hH:HR ρ H c w)(AO:CK c w){dT:TypeId}{x y:Operand}{EY:Array TypeId}(JX:EY[0]? =some dT){AAe:Array Operand}(has:AAe= #[x,y])(ho:o.op= .call {callee:= .builtin .copy,args:=AAe,argTypes:=EY})
  {d s v:Value} (hx:AQ H.ng pf x=some d) (hy:AQ H.ng pf y=some s) {H':PH} (hp:cP ty H dT d s=some (v,H')):Sound P ρ hn v H' c w (execOp fr.eval o):=by
 have hd:=h x (by simp[ho,Op.operands,Call.operands,has]) _ hx;have hs:=h y (by simp[ho,Op.operands,Call.operands,has]) _ hy;unfold cP at hp;split at hp
 ·rename_i ti elem e1;split at hp
  ·rename_i size e2;have Bp:=Ef (P:=P) (w:=w) A7 e2;have Lj:=(A7 _ _ e1).2;have BB: ∀{r:Value} {w':World} {es:Array Event},(Builtin.copy_ EY o.type #[fr.eval x,fr.eval y]).runT P w #[]=(.ok r w',es)→(execOp fr.eval o).runT P w #[]=(.ok (.value r) w',es):=fun {r w' es} hr=>by
    have oC:execOp fr.eval o=(Builtin.copy_ EY o.type #[fr.eval x,fr.eval y]).bind fun r=>Sem.pure (Next.value r):=by
     rw[De ho,has];simp only[List.map_toArray,Du,List.map_nil];rfl
    rw[oC,AB hr];rfl
   generalize hex:fr.eval x=ux at hd BB;generalize hey:fr.eval y=uy at hs BB;cases hd with
   |sl hB hc =>
    rename_i a B Y6 wi dCap';simp only at hp;cases hs with
    |MC m mc =>
     split at hp
     ·rename_i heq; cases heq
     ·rename_i heq;simp only[Value.slice.injEq]at heq;obtain⟨-,rfl,rfl⟩:=heq;simp only[AE,AR]at hp;obtain⟨rfl,rfl⟩:=hp;refine Sound.pure hH AO (.int _ _) (BB ?_);exact MH JX Lj Bp (sl:=0) (n:=0) (cells:= #[]) (fun _=>rfl) (by simp) (es1:= #[]) rfl (fun a' ha=>rfl) (fun e=>by cases e)
     ·cases hp
    |sl wN hc2 =>
     rename_i b B2 sLen sCap sCap';simp only at hp;split at hp
     ·rename_i l e3;split at hp
      ·rename_i e4;split at hp
       ·rename_i tr sz el es e5;cases e6:(l.all Em&&(Nat.ble (a.off+l.length) sz&&Nat.ble sz (2^T.deep)))with
        |false=>rw[e6]at hp; cases hp
        |true =>
         rw[e6]at hp;simp only[AG,AE,AR]at hp;obtain⟨rfl,rfl⟩:=hp;simp only[AF]at e6;obtain⟨c1,c2,c3⟩:=e6;obtain⟨l',ev,q1,q2,q3⟩:=run_read (P:=P) hH wN e3 #[];obtain⟨w',wv,r1,r2,r3,r4⟩:=Fl (P:=P) hB q1 tr a.off 0 H w (#[]++ev.toArray) hH e5 c1 (by have:=AH c2; omega) (AH c3);have hM:c.M B.blk:=by
          have:=hH.rel _ _ _ hB e5;cases this with
          |cells hs he hf hle Ax hR EP=>exact(Ax rfl).1
         have yM:HR ρ {H with t:=H.t.set a.block (.cells (setFrom l tr a.off) sz el es true 0 true false)} c w':=r3;refine⟨ρ,c.M,c.R,goInt (Nat.min sLen Y6),w',#[]++ev.toArray++wv.toArray,.refl ρ,.int _ _,.inl (BB ?_),yM,⟨fun x hx=>by rw[r4.size]; exact AO.ml x hx,fun x hx=>by rw[r4.size]; exact AO.rl x hx,AO.rm⟩,ES.RZ AO r4 hM,
          BQ.app (BQ.app (BQ.nil _ _ _) (q3.Hj _)) (r2.Hj hM _),GU.app (GU.app (fun e he=>by simp at he) q3.Kg) r2.Kg,ES.oT r4 hB⟩
         refine MH JX Lj Bp (sl:=sLen) (fun _=>rfl) rfl q2 (fun a' ha=> ?_) (fun e=>by cases e);cases ha;have ea:({a with block:=B.blk}:Addr)=⟨B.blk,a.off,none⟩:=by
          obtain⟨b,off,sp⟩:=a;simp only at e4;subst e4;rfl
         rw[ea];simpa using r1
       ·cases hp
      ·cases hp
     ·cases hp
    |_=>cases hp
   |MC dl dc =>
    simp only at hp;split at hp
    ·rename_i heq; cases heq
    ·rename_i heq;simp only[Value.slice.injEq]at heq;obtain⟨-,rfl,rfl⟩:=heq;split at hp
     ·rename_i z m mc;simp only[AE,AR]at hp;obtain⟨rfl,rfl⟩:=hp;refine Sound.pure hH AO (.int _ _) (BB ?_);cases hs with
      |MC =>
       exact MH JX Lj Bp (sl:=m) (n:=0) (cells:= #[]) (fun _=>rfl) (by simp) (es1:= #[]) rfl (fun a' ha=>by cases ha) (fun _=>⟨rfl,rfl⟩)
      |sl wN hc2 =>
       exact MH JX Lj Bp (sl:=m) (n:=0) (cells:= #[]) (fun _=>rfl) (by simp) (es1:= #[]) (by simp[Builtin.firstCells,loadCells,loadCellsFrom,pure]) (fun a' ha=>by cases ha) (fun _=>⟨rfl,rfl⟩)
     ·cases hp
    ·cases hp
   |_=>cases hp
  ·cases hp
 ·cases hp
end
def aA(P:Program)(ty:DD)(ng:Nat)(pf:PF)(o:Oper)(op:BinOp)(t:TypeId)(x y:Operand):Option Value :=
 match AQ ng pf x with
 |some a=>match AQ ng pf y with
  |some b=>match a with
   | .int k m=>match b with
    | .int k' n=>hO op t k m k' n
    |_=>none
   |a=>match(match ty.get t with|some (_,d)=>Sx d a b|none=>none)with
    |some r=>ZT op r
    |none=>HW P ng pf o
  |none=>none
 |none=>none
def LL(ty:DD)(t:TypeId)(k:Nat)(a:Addr):Option Value :=
 match ty.get t with
 |some (_,.struct fs)=>match fs.toList[k]? with
  |some f=>match Eg ty f.type with
   |some n=>cond (Nat.beq n 0) none (some (.pointer (some (a.add f.offset))))
   |none=>none
  |none=>none
 |_=>none
def LK(ty:DD)(t:TypeId)(u:Value)(n:Nat):Option Value :=
 match ty.get t with
 |some (_,.slice elem)=>match u with
  | .slice (some a) len _=>match Eg ty elem with
   |some sz=>cond (Nat.blt n len) (some (.pointer (some (a.add (n*sz))))) none
   |none=>none
  |_=>none
 |some (_,.array len elem)=>match u with
  | .pointer (some a)=>match Eg ty elem with
   |some sz=>cond (Nat.blt n len) (some (.pointer (some (a.add (n*sz))))) none
   |none=>none
  |_=>none
 |_=>none
def cD(ty:DD)(t:TypeId)(u:Value)(n:Nat):Option Value :=
 match ty.get t with
 |some (_,.array len elem)=>match u with
  | .agg cs=>match Eg ty elem with
   |some sz=>cond (Nat.blt n len) (Rt ty elem cs (n*sz)) none
   |none=>none
  |_=>none
 |some (_,.string)=>match u with
  | .string s=>match s.data.toList[n]? with
   |some b=>some (.int .u8 b.toNat)
   |none=>none
  |_=>none
 |_=>none
def cC(ty:DD)(H:PH)(t:TypeId)(u:Value)(lo hi mx:Option Nat):Option Value :=
 match ty.get t with
 |some (_,.slice elem)=>match u with
  | .slice a len cap=>match Eg ty elem with
   |some sz=>Sp H sz a len cap lo hi mx
   |none=>none
  |_=>none
 |some (_,.array n elem)=>match u with
  | .pointer (some a)=>match Eg ty elem with
   |some sz=>match FF n n lo hi mx with
    |some (l,h,m)=>cond (Nat.blt (m-l) HN) (some (.slice (some (cond (Nat.beq m l) a (a.add (l*sz)))) (h-l) (m-l))) none
    |none=>none
   |none=>none
  |_=>none
 |_=>none
def lW(ty:DD)(H:PH)(t:TypeId)(u:Value):Option Value :=
 match ty.get t with
 |some (_,.slice _)=>match u with
  | .slice _ n _=>some (goInt n)
  |_=>none
 |some (_,.string)=>match u with
  | .string s=>some (goInt s.size)
  |_=>none
 |some (_,.array n _)=>some (goInt n)
 |some (_,.map _ _)=>match Jo H u with
  |some (es,_)=>some (goInt es.size)
  |none=>none
 |_=>none
def Ke(P:Program)(ty:DD)(pf:PF)(H:PH)(o:Oper):Option Value :=
 match o.op with
 | .move x=>AQ H.ng pf x
 | .assign x=>AQ H.ng pf x
 | .load t x=>match AQ H.ng pf x with
  |some u=>match Pv u with
   |some a=>Ru ty H t a
   |none=>none
  |none=>none
 | .binOp op t x y _=>aA P ty H.ng pf o op t x y
 | .fieldAddr t x k=>match AQ H.ng pf x with
  |some u=>match Pv u with
   |some a=>LL ty t k a
   |none=>none
  |none=>none
 | .indexAddr t x y=>match AQ H.ng pf x with
  |some u=>match AQ H.ng pf y with
   |some (.int _ (.ofNat n))=>LK ty t u n
   |_=>none
  |none=>none
 | .extract x k=>match AQ H.ng pf x with
  |some (.tuple vs)=>vs.toList[k]?
  |_=>none
 | .pick x y z=>match AQ H.ng pf x with
  |some (.bool b)=>AQ H.ng pf (if b then y else z)
  |_=>none
 | .unOp .not _ x=>match AQ H.ng pf x with
  |some (.bool b)=>some (.bool !b)
  |_=>none
 | .unOp _ _ _=>HW P H.ng pf o
 | .nilCheck x=>match AQ H.ng pf x with
  |some (.pointer (some a))=>some (.pointer (some a))
  |some (.func (.func f) xs ys)=>some (.func (.func f) xs ys)
  |_=>none
 | .makeInterface t x=>match ty.get t with
  |some (_,.interface _)=>none
  |some _=>match AQ H.ng pf x with
   |some v=>some (.iface t v)
   |none=>none
  |none=>none
 | .makeFunc (.func f) xs ys=>match Eh H.ng pf xs.toList with
  |some us=>match Eh H.ng pf ys.toList with
   |some vs=>some (.func (.func f) us.toArray vs.toArray)
   |none=>none
  |none=>none
 | .field t x k=>match AQ H.ng pf x with
  |some (.agg cs)=>match ty.get t with
   |some (_,.struct fs)=>match fs.toList[k]? with
    |some f=>Rt ty f.type cs f.offset
    |none=>none
   |_=>none
  |_=>none
 | .index t x y=>match AQ H.ng pf x with
  |some u=>match AQ H.ng pf y with
   |some (.int _ (.ofNat n))=>cD ty t u n
   |_=>none
  |none=>none
 | .slice t x lo hi mx=>match AQ H.ng pf x with
  |some (.string _)=>HW P H.ng pf o
  |some u=>match Pf H.ng pf lo with
   |some l=>match Pf H.ng pf hi with
    |some h=>match Pf H.ng pf mx with
     |some m=>cC ty H t u l h m
     |none=>none
    |none=>none
   |none=>none
  |none=>none
 | .lookup t x y ok=>match AQ H.ng pf x with
  |some u=>match AQ H.ng pf y with
   |some k=>Ss P ty H t u k ok
   |none=>none
  |none=>none
 | .typeAssert x _ a ok=>match AQ H.ng pf x with
  |some u=>Jj ty u a ok
  |none=>none
 | .build t ps=>match Io H.ng pf ps.toList with
  |some vs=>Xn ty t vs
  |none=>none
 | .convert s t x=>match AQ H.ng pf x with
  |some (.int _ a)=>match ty.get s with
   |some _=>match ty.get t with
    |some (_,.int k)=>some (.int k (O5 k a))
    |_=>HW P H.ng pf o
   |none=>none
  |some (.pointer (some a))=>HX ty H s t a
  |some _=>HW P H.ng pf o
  |none=>none
 | .call c=>match c.callee with
  | .builtin .len=>match c.args.toList with
   | [x]=>match c.argTypes.toList with
    | [t]=>match AQ H.ng pf x with
     |some u=>lW ty H t u
     |none=>none
    |_=>none
   |_=>none
  | .builtin .min=>HW P H.ng pf o
  | .builtin .max=>HW P H.ng pf o
  |_=>none
 |_=>none
section
variable{P:Program}{ty:DD}{ρ:Ah}{pf:PF}{fr:Frame}{H:PH}{c:Ctx}{w:World}
theorem KN{t:TypeId}{n:Nat}(h:Eg ty t=some n): ∃i d,ty.get t=some (i,d)∧i.size=n:=by
 unfold Eg at h;cases e:ty.get t with
 |none=>rw[e]at h; cases h
 |some x=>rw[e]at h; exact⟨x.1,x.2,rfl,As h⟩
theorem LQ(A7:A8 P ty){o:Oper}(h:CJ H.ng ρ pf fr o)(hH:HR ρ H c w)(AO:CK c w){v:Value}(hp:Ke P ty pf H o=some v){hn:Nat}:Sound P ρ hn v H c w (execOp fr.eval o):=by
 unfold Ke at hp;have pure':(∀cs b,o.op≠ .select cs b)→HW P H.ng pf o=some v→Sound P ρ hn v H c w (execOp fr.eval o):=fun hs hp=>U5 h hH AO hs hp;split at hp
 ·rename_i x ho;exact P7 h hH AO (.inl ho) hp
 ·rename_i x ho;exact P7 h hH AO (.inr ho) hp
 ·rename_i t x ho;split at hp
  ·rename_i u e1;split at hp
   ·rename_i a e2;exact Ya A7 h hH AO ho e1 e2 hp
   ·cases hp
  ·cases hp
 ·rename_i op t x y t' ho;have hs: ∀cs b,o.op≠ .select cs b:=fun cs b e=>by rw[ho]at e; cases e
  unfold aA at hp;split at hp
  ·rename_i a e1;split at hp
   ·rename_i b e2;split at hp
    ·split at hp
     ·exact Oe h hH AO ho e1 e2 hp
     ·cases hp
    ·split at hp
     ·rename_i r e3;split at e3
      ·rename_i i d e4;exact Wm A7 h hH AO ho e4 e1 e2 e3 hp
      ·cases e3
     ·exact pure' hs hp
   ·cases hp
  ·cases hp
 ·rename_i t x k ho;split at hp
  ·rename_i u e1;split at hp
   ·rename_i a e2;unfold LL at hp;split at hp
    ·rename_i i fs e3;split at hp
     ·rename_i f e4;split at hp
      ·rename_i n e5;cases e6:Nat.beq n 0 with
       |true=>rw[e6]at hp; cases hp
       |false =>
        rw[e6]at hp;simp only[Av,AE]at hp;subst hp;obtain⟨fi,fd,g1,g2⟩:=KN e5;exact Od A7 h hH AO ho e3 (by rw[← CQ]; exact e4) g1 (by rw[g2]; exact Bl e6) e1 e2
      ·cases hp
     ·cases hp
    ·cases hp
   ·cases hp
  ·cases hp
 ·rename_i t x y ho;split at hp
  ·rename_i u e1;split at hp
   ·rename_i k n e2;unfold LK at hp;split at hp
    ·rename_i i elem e3;split at hp
     ·rename_i a len cap;split at hp
      ·rename_i sz e4;cases e5:Nat.blt n len with
       |false=>rw[e5]at hp; cases hp
       |true =>
        rw[e5]at hp;simp only[AG,AE]at hp;subst hp;obtain⟨ei,ed,g1,rfl⟩:=KN e4;have Ac:n<len:=AH e5;exact JV A7 h hH AO ho e3 g1 e1 e2 (Int.natCast_nonneg n) (by simp only[Gf]; omega)
      ·cases hp
     ·cases hp
    ·rename_i i len elem e3;split at hp
     ·rename_i a;split at hp
      ·rename_i sz e4;cases e5:Nat.blt n len with
       |false=>rw[e5]at hp; cases hp
       |true =>
        rw[e5]at hp;simp only[AG,AE]at hp;subst hp;obtain⟨ei,ed,g1,rfl⟩:=KN e4;have Ac:n<len:=AH e5;exact JW A7 h hH AO ho e3 g1 e1 e2 (Int.natCast_nonneg n) (by simp only[Gf]; omega)
      ·cases hp
     ·cases hp
    ·cases hp
   ·cases hp
  ·cases hp
 ·rename_i x k ho;split at hp
  ·rename_i vs e1;exact Rc h hH AO ho e1 hp
  ·cases hp
 ·rename_i x y z ho;split at hp
  ·rename_i b e1;exact Xi h hH AO ho e1 hp
  ·cases hp
 ·rename_i t x ho;split at hp
  ·rename_i b e1;simp only[AE]at hp;subst hp;exact aI h hH AO ho e1
  ·cases hp
 ·rename_i ho;exact pure' (fun cs b e=>by rw[ho]at e; cases e) hp
 ·rename_i x ho;split at hp
  ·rename_i a e1;simp only[AE]at hp;subst hp;exact LZ h hH AO ho e1
  ·rename_i f xs ys e1;simp only[AE]at hp;subst hp;exact Kf h hH AO ho e1
  ·cases hp
 ·rename_i t x ho;split at hp
  ·cases hp
  ·rename_i z BK e1;split at hp
   ·rename_i u e2;simp only[AE]at hp;subst hp;obtain⟨i,d⟩:=z;exact Kh A7 h hH AO ho e1 (fun ms e=>by subst e; exact BK _ _ rfl) e2
   ·cases hp
  ·cases hp
 ·rename_i f xs ys ho;split at hp
  ·rename_i us e1;split at hp
   ·rename_i vs e2;simp only[AE]at hp;subst hp;exact QC h hH AO ho (.func f) e1 e2
   ·cases hp
  ·cases hp
 ·rename_i t x k ho;split at hp
  ·rename_i cs e1;split at hp
   ·rename_i i fs e2;split at hp
    ·rename_i f e3;exact Wj A7 h hH AO ho e2 (by rw[← CQ]; exact e3) e1 hp
    ·cases hp
   ·cases hp
  ·cases hp
 ·rename_i t x y ho;split at hp
  ·rename_i u e1;split at hp
   ·rename_i k n e2;unfold cD at hp;split at hp
    ·rename_i i len elem e3;split at hp
     ·rename_i cs;split at hp
      ·rename_i sz e4;cases e5:Nat.blt n len with
       |false=>rw[e5]at hp; cases hp
       |true =>
        rw[e5]at hp;exact WA A7 h hH AO ho e3 e4 e1 e2 (AH e5) hp
      ·cases hp
     ·cases hp
    ·rename_i i e3;split at hp
     ·rename_i s;split at hp
      ·rename_i b e4;simp only[AE]at hp;subst hp;exact QN A7 h hH AO ho e3 e1 e2 e4
      ·cases hp
     ·cases hp
    ·cases hp
   ·cases hp
  ·cases hp
 ·rename_i t x lo hi mx ho;split at hp
  ·exact pure' (fun cs b e=>by rw[ho]at e; cases e) hp
  ·rename_i u hns e1;split at hp
   ·rename_i l e2;split at hp
    ·rename_i h' e3;split at hp
     ·rename_i m e4;unfold cC at hp;split at hp
      ·rename_i i elem e5;split at hp
       ·rename_i a len cap;split at hp
        ·rename_i sz e6;obtain⟨ei,ed,g1,rfl⟩:=KN e6;exact Uj A7 h hH AO ho e5 g1 e1 e2 e3 e4 hp
        ·cases hp
       ·cases hp
      ·rename_i i n elem e5;split at hp
       ·rename_i a;split at hp
        ·rename_i sz e6;split at hp
         ·rename_i l0 h0 m0 e7;cases e8:Nat.blt (m0-l0) HN with
          |false=>rw[e8]at hp; cases hp
          |true =>
           rw[e8]at hp;simp only[AG,AE]at hp;subst hp;exact PO A7 h hH AO ho e5 e6 e1 e2 e3 e4 e7 e8
         ·cases hp
        ·cases hp
       ·cases hp
      ·cases hp
     ·cases hp
    ·cases hp
   ·cases hp
  ·cases hp
 ·rename_i t x y ok ho;split at hp
  ·rename_i u e1;split at hp
   ·rename_i k e2;exact TS A7 h hH AO ho e1 e2 hp
   ·cases hp
  ·cases hp
 ·rename_i x xt a ok ho;split at hp
  ·rename_i u e1;exact My A7 h hH AO ho e1 hp
  ·cases hp
 ·rename_i t ps ho;split at hp
  ·rename_i vs e1;exact Wv A7 h hH AO ho e1 hp
  ·cases hp
 ·rename_i s t x ho;have hs: ∀cs b,o.op≠ .select cs b:=fun cs b e=>by rw[ho]at e; cases e
  split at hp
  ·rename_i k a e1;split at hp
   ·rename_i z e2;split at hp
    ·rename_i it k' e3;simp only[AE]at hp;subst hp;obtain⟨is,ds⟩:=z;exact Ml A7 h hH AO ho e2 e3 e1
    ·exact pure' hs hp
   ·cases hp
  ·rename_i a e1;exact Re A7 h hH AO ho e1 hp
  ·exact pure' hs hp
  ·cases hp
 ·rename_i cl ho;have hs: ∀cs b,o.op≠ .select cs b:=fun cs b e=>by rw[ho]at e; cases e
  obtain⟨callee,AAe,EY⟩:=cl;simp only at hp;split at hp
  ·split at hp
   ·rename_i x e1;split at hp
    ·rename_i t e2;have ea:AAe= #[x]:=ED.1 (by simpa using e1);have et:EY= #[t]:=ED.1 (by simpa using e2);subst ea et;split at hp
     ·rename_i u e3;unfold lW at hp;split at hp
      ·rename_i i el e4;split at hp
       ·simp only[AE]at hp;subst hp;exact OW h hH AO ho (A7 _ _ e4).2 e3
       ·cases hp
      ·rename_i i e4;split at hp
       ·simp only[AE]at hp;subst hp;exact NJ A7 h hH AO ho e4 e3
       ·cases hp
      ·rename_i i n el e4;simp only[AE]at hp;subst hp;exact OX A7 hH AO ho e4
      ·rename_i i k el e4;split at hp
       ·rename_i es cl e5;simp only[AE]at hp;subst hp;exact RO A7 h hH AO ho e4 e3 e5
       ·cases hp
      ·cases hp
     ·cases hp
    ·cases hp
   ·cases hp
  ·exact pure' hs hp
  ·exact pure' hs hp
  ·cases hp
 ·cases hp
end
def OQ(P:Program)(ty:DD)(pf:PF)(H:PH)(o:Oper):Option (Value×PH) :=
 match o.op with
 | .store t x y=>match AQ H.ng pf x with
  |some (.pointer (some a))=>match AQ H.ng pf y with
   |some v=>match PY ty H t a v with
    |some H'=>some (undef,H')
    |none=>match MM ty H t a v with
     |some H'=>some (undef,H')
     |none=>none
   |none=>none
  |_=>none
 | .box t x=>match AQ H.ng pf x with
  |some u=>match U7 H u.cells.toList t 0 with
   |some H'=>some (.pointer (some ⟨H.next,0,none⟩),H')
   |none=>none
  |none=>none
 | .alloc t=>match ty.get t with
  |some (i,_)=>match i.zero with
   |some z=>cond (ground 6 z) (match U7 H z.cells.toList t 0 with
    |some H'=>some (.pointer (some ⟨H.next,0,none⟩),H')
    |none=>none) none
   |none=>none
  |none=>none
 | .buildSlice t n ps=>match Io H.ng pf ps.toList with
  |some vs=>Jq ty H t n vs
  |none=>none
 | .makeMap _ none=>match Fs H (.map #[] 0)with
  |some H'=>some (.map (some H.next),H')
  |none=>none
 | .makeSlice t x y=>match AQ H.ng pf x with
  |some (.int _ (.ofNat l))=>match AQ H.ng pf y with
   |some (.int _ (.ofNat n))=>LS ty H t l n
   |_=>none
  |_=>none
 | .mapUpdate t m x y=>match AQ H.ng pf m with
  |some u=>match AQ H.ng pf x with
   |some k=>match AQ H.ng pf y with
    |some v=>match Sm P ty H t u k v with
     |some H'=>some (undef,H')
     |none=>none
    |none=>none
   |none=>none
  |none=>none
 | .call c=>match c.callee with
  | .builtin .append=>match c.args.toList with
   | [x,y]=>match c.argTypes.toList with
    | [s,t]=>match AQ H.ng pf x with
     |some u=>match AQ H.ng pf y with
      |some v=>S3 ty H s t u v
      |none=>none
     |none=>none
    |_=>none
   |_=>none
  | .builtin .copy=>match c.args.toList with
   | [x,y]=>match c.argTypes.toList with
    |s::_=>match AQ H.ng pf x with
     |some u=>match AQ H.ng pf y with
      |some v=>cP ty H s u v
      |none=>none
     |none=>none
    |_=>none
   |_=>none
  | .builtin .delete=>match c.args.toList with
   | [x,y]=>match c.argTypes.toList with
    | [s,_]=>match AQ H.ng pf x with
     |some u=>match AQ H.ng pf y with
      |some v=>match On P ty H s u v with
       |some H'=>some (undef,H')
       |none=>none
      |none=>none
     |none=>none
    |_=>none
   |_=>none
  |_=>none
 |_=>none
section
variable{P:Program}{ty:DD}{ρ:Ah}{pf:PF}{fr:Frame}{H:PH}{c:Ctx}{w:World}
theorem Sound.next{hn:Nat}{v:Value}{H':PH}{s:Sem Next}(_h:Sound P ρ hn v H' c w s):True:=trivial
theorem Pg(A7:A8 P ty){o:Oper}(h:CJ H.ng ρ pf fr o)(hH:HR ρ H c w)(AO:CK c w){v:Value}{H':PH}(hp:OQ P ty pf H o=some (v,H')):Sound P ρ H.next v H' c w (execOp fr.eval o):=by
 unfold OQ at hp;split at hp
 ·rename_i t x y ho;split at hp
  ·rename_i a e1;split at hp
   ·rename_i u e2;split at hp
    ·rename_i H1 e3;simp only[AE,AR]at hp;obtain⟨rfl,rfl⟩:=hp;exact Ug A7 h hH AO ho e1 (a:=a) rfl e2 e3
    ·split at hp
     ·rename_i H1 e3;simp only[AE,AR]at hp;obtain⟨rfl,rfl⟩:=hp;exact SZ A7 h hH AO ho e1 e2 e3
     ·cases hp
   ·cases hp
  ·cases hp
 ·rename_i t x ho;split at hp
  ·rename_i u e1;split at hp
   ·rename_i H1 e2;simp only[AE,AR]at hp;obtain⟨rfl,rfl⟩:=hp;exact ah h hH AO ho e1 e2
   ·cases hp
  ·cases hp
 ·rename_i t ho;split at hp
  ·rename_i i d e1;split at hp
   ·rename_i z e2;cases e3:ground 6 z with
    |false=>rw[e3]at hp; cases hp
    |true =>
     rw[e3]at hp;simp only[AG]at hp;split at hp
     ·rename_i H1 e4;simp only[AE,AR]at hp;obtain⟨rfl,rfl⟩:=hp;exact Wy A7 hH AO ho e1 e2 e3 e4
     ·cases hp
   ·cases hp
  ·cases hp
 ·rename_i t n ps ho;split at hp
  ·rename_i vs e1;exact NY A7 h hH AO ho e1 hp
  ·cases hp
 ·rename_i t ho;split at hp
  ·rename_i H1 e1;simp only[AE,AR]at hp;obtain⟨rfl,rfl⟩:=hp;exact RL hH AO ho e1
  ·cases hp
 ·rename_i t x y ho;split at hp
  ·rename_i k l e1;split at hp
   ·rename_i k' n e2;exact OU A7 h hH AO ho e1 e2 hp
   ·cases hp
  ·cases hp
 ·rename_i t m x y ho;split at hp
  ·rename_i u e1;split at hp
   ·rename_i k e2;split at hp
    ·rename_i z e3;split at hp
     ·rename_i H1 e4;simp only[AE,AR]at hp;obtain⟨rfl,rfl⟩:=hp;exact SW A7 h hH AO (.inl ho) e1 e2 e3 e4
     ·cases hp
    ·cases hp
   ·cases hp
  ·cases hp
 ·rename_i cl ho;obtain⟨callee,AAe,EY⟩:=cl;simp only at hp;split at hp
  ·split at hp
   ·rename_i x y e1;split at hp
    ·rename_i s t e2;have ea:AAe= #[x,y]:=ED.1 (by simpa using e1);have et:EY= #[s,t]:=ED.1 (by simpa using e2);split at hp
     ·rename_i u e3;split at hp
      ·rename_i z e4;exact UJ A7 h hH AO et ea ho e3 e4 hp
      ·cases hp
     ·cases hp
    ·cases hp
   ·cases hp
  ·split at hp
   ·rename_i x y e1;split at hp
    ·rename_i s rest e2;have ea:AAe= #[x,y]:=ED.1 (by simpa using e1);have et:EY[0]? =some s:=by rw[← CQ,e2]; rfl
     split at hp
     ·rename_i u e3;split at hp
      ·rename_i z e4;exact Y8 A7 h hH AO et ea ho e3 e4 hp
      ·cases hp
     ·cases hp
    ·cases hp
   ·cases hp
  ·split at hp
   ·rename_i x y e1;split at hp
    ·rename_i s t e2;have ea:AAe= #[x,y]:=ED.1 (by simpa using e1);have et:EY= #[s,t]:=ED.1 (by simpa using e2);subst ea et;split at hp
     ·rename_i u e3;split at hp
      ·rename_i z e4;split at hp
       ·rename_i H1 e5;simp only[AE,AR]at hp;obtain⟨rfl,rfl⟩:=hp;exact Mh A7 h hH AO ho e3 e4 e5
       ·cases hp
      ·cases hp
     ·cases hp
    ·cases hp
   ·cases hp
  ·cases hp
 ·cases hp
def Ir(ty:DD)(pf:PF)(ng:Nat)(o:Oper):Option (List Value×TypeId×Nat×(Nat→Value)) :=
 match o.op with
 | .box t x=>match AQ ng pf x with
  |some u=>some (u.cells.toList,t,0,fun b=> .pointer (some ⟨b,0,none⟩))
  |none=>none
 | .alloc t=>match ty.get t with
  |some (i,_)=>match i.zero with
   |some z=>cond (ground 6 z) (some (z.cells.toList,t,0,fun b=> .pointer (some ⟨b,0,none⟩))) none
   |none=>none
  |none=>none
 | .buildSlice t len ps=>match Io ng pf ps.toList with
  |some vs=>match ty.get t with
   |some (_,.slice elem)=>match ty.get elem with
    |some (i,_)=>cond (Nat.ble (len*i.size) 16777216&&Nat.blt len HN) (match(cond (Nat.beq (len*i.size) 0) (some []) (match i.zero with|some z=>cond (ground 6 z) (some (SO z (len*i.size))) none|none=>none))with
     |some cs=>match Qi (fun k=>some (k*i.size,i.size)) vs cs with
      |some r=>some (r,elem,i.size,fun b=> .slice (some ⟨b,0,none⟩) len len)
      |none=>none
     |none=>none) none
    |none=>none
   |_=>none
  |none=>none
 |_=>none
end
section
variable{P:Program}{ty:DD}{ρ:Ah}{pf:PF}{fr:Frame}{H:PH}{c:Ctx}{w:World}
theorem Qq{o:Oper}(A7:A8 P ty){ng:Nat}(h:CJ ng ρ pf fr o){t:TypeId}{len:Nat}{parts:Array (Nat×Operand)}(ho:o.op= .buildSlice t len parts){ps:List (Nat×Value)}(hx:Io ng pf parts.toList=some ps){i0 i:TypeInfo}{elem:TypeId}{d:TypeDesc}(e1:ty.get t=some (i0,.slice elem))(e2:ty.get elem=some (i,d))
  (e3:Nat.ble (len*i.size) 16777216=true) {cs r:List Value} (e4:(cond (Nat.beq (len*i.size) 0) (some []) (match i.zero with|some z=>cond (ground 6 z) (some (SO z (len*i.size))) none|none=>none))=some cs) (e5:Qi (fun k=>some (k*i.size,i.size)) ps cs=some r) :
  ∃r':List Value,CE ρ r r'∧(execOp fr.eval o).runT P w #[]=(.ok (.value (.slice (some ⟨w.heap.size,0,none⟩) len len)) (World.grow w (.cells r'.toArray elem)),#[]):=by
 obtain⟨h1,h2⟩:=KP h (fun x hx=>by rw[ho]; simp[Op.operands]; exact⟨x.1,by simpa using hx⟩) hx;have NN:CE ρ cs cs∧∀es,(if len*i.size=0 then pure #[]else do pure (← zeroValue elem).cells:Sem (Array Value)).runT P w es=(.ok (if len*i.size=0 then #[]else(i.zero.getD undef).cells) w,es)∧
   ((Array.range (len*i.size)).map fun k=>(if len*i.size=0 then #[]else(i.zero.getD undef).cells)[k%(if len*i.size=0 then #[]else(i.zero.getD undef).cells).size]!).toList=cs:=by
  cases eb:Nat.beq (len*i.size) 0 with
  |true =>
   rw[eb]at e4;have e4:=As e4;subst e4;have eb:=AJ eb;exact⟨.nil,fun es=>⟨by simp only[eb,Ad]; rfl,by simp[eb]⟩⟩
  |false =>
   rw[eb]at e4;have eb:=Bl eb;cases e6:i.zero with
   |none=>rw[e6]at e4; cases e4
   |some z =>
    rw[e6]at e4;simp only[Av]at e4;cases e7:ground 6 z with
    |false=>rw[e7]at e4; cases e4
    |true =>
     rw[e7]at e4;have e4:=As e4;subst e4;refine⟨O4 e7 _,fun es=>⟨?_, ?_⟩⟩
     ·simp only[AA eb];refine(AB (s:=zeroValue elem) (FQ A7 e2 e6 _)).trans ?_;rfl
     ·simp only[AA eb,Option.getD_some];simp[SO]
 have Yk:(parts.map fun(i,x)=>(i,fr.eval x)).toList=parts.toList.map fun x=>(x.1,fr.eval x.2):=by simp
 obtain⟨r',q1,q2⟩:=J8 (fun k=>some (k*i.size,i.size)) h1 h2 (cs':=(Array.range (len*i.size)).map fun k=>(if len*i.size=0 then #[]else(i.zero.getD undef).cells)[k%(if len*i.size=0 then #[]else(i.zero.getD undef).cells).size]!) (by rw[(NN.2 #[]).2]; exact NN.1) e5;refine⟨r'.toList,q2, ?_⟩;unfold execOp;rw[ho];show((Instr.buildSlice t len (parts.map fun(i,x)=>(i,fr.eval x))).bind fun r=>Sem.pure (Next.value r)).runT P w #[]=_;have key:(Instr.buildSlice t len (parts.map fun(i,x)=>(i,fr.eval x))).runT P w #[]=(.ok (.slice (some ⟨w.heap.size,0,none⟩) len len) (World.grow w (.cells r'.toList.toArray elem)),#[]):=by
  unfold Instr.buildSlice;refine(AB (s:=underlying t) (Aa (A7 _ _ e1).2)).trans ?_;refine(AB (runT_size (A7 _ _ e2).1)).trans ?_;have hle:=AH e3;simp only[AA (show ¬len*i.size>2^24 by simp; omega)];have AT:=(NN.2 #[]).1;by_cases h0:len*i.size=0
  ·simp only[AD h0]at AT q1 ⊢;refine(AB (s:=(pure #[]:Sem (Array Value))) AT).trans ?_;simp only[Yk,q1];simp only[E3];rfl
  ·simp only[AA h0]at AT q1 ⊢;have Gl:((zeroValue elem).bind fun z=>Sem.pure z.cells).runT P w #[]=(.ok (i.zero.getD undef).cells w,#[]):=AT;rw[BT]at Gl;show((zeroValue elem).bind fun z=>_).runT P w #[]=_;rw[BT];cases hz:(zeroValue elem).runT P w #[]with
   |mk r0 kV =>
    rw[hz]at Gl;cases r0 with
    |halt hh ww=>simp at Gl
    |ok z0 w0 =>
     simp only[Sem.runT,AR,Result.ok.injEq]at Gl;obtain⟨⟨g1,g2⟩,g3⟩:=Gl;subst g2 g3;simp only
     refine(AB (s:=(pure z0.cells:Sem (Array Value))) (a:=z0.cells) (w':=w0) (es':= #[]) rfl).trans ?_;rw[g1];simp only[Yk,q1];simp only[E3];rfl
 rw[AB key];rfl
theorem Sy(A7:A8 P ty){o:Oper}{ng:Nat}(h:CJ ng ρ pf fr o){b:Nat}(hb:ρ b=none){l:List Value}{elem es:Nat}{vf:Nat→Value}(hp:Ir ty pf ng o=some (l,elem,es,vf)){tr:T Value}(hg: ∀k,k<l.length→tr.get k=l[k]?) :
  Qy P ρ b (.cells tr l.length elem es true 0 true false) (vf b) c w (execOp fr.eval o)∧Jv (some (vf b))= [b]∧Ei o.op=true:=by
 have BO: ∀(B:RB),ρ.put b B b=some B:=fun B=>Cy _ _ _;have main: ∀(l':List Value) (v':Nat→Value),CE ρ l l'→(execOp fr.eval o).runT P w #[]=(.ok (.value (v' w.heap.size)) (World.grow w (.cells l'.toArray elem)),#[])→VR (ρ.put b ⟨w.heap.size,l.length,es⟩) (vf b) (v' w.heap.size)→Qy P ρ b (.cells tr l.length elem es true 0 true false) (vf b) c w (execOp fr.eval o):=fun l' v' hl AT hv=>by
  have hh:=C7 w (.cells l'.toArray elem);refine⟨⟨w.heap.size,l.length,es⟩,v' w.heap.size,_,rfl,hv,AT,.cells ?_ rfl (fun _=>rfl) (AN _) (fun _=>⟨.inr rfl,fun _ off=> ?_⟩) (fun e=>by cases e) (fun _ k hk=> ?_)⟩
  ·simp only[World.shape?,hh];simp[hl.length]
  ·simp only[World.frozen?,hh];simp
  ·obtain⟨v,hv⟩: ∃v,l[k]? =some v:=⟨l[k],EE hk⟩;obtain⟨v',h1,h2⟩:=hl.get k _ hv;refine .inr ⟨v,v',(hg k hk).trans hv, ?_,h2.mono (Ah.Ed hb)⟩;simp only[World.cell?,hh];simpa using h1
 unfold Ir at hp;split at hp
 ·rename_i t x ho;split at hp
  ·rename_i u e1;simp only[AE,AR]at hp;obtain⟨rfl,rfl,rfl,rfl⟩:=hp;have hv:=h x (by simp[ho,Op.operands]) _ e1;refine⟨main (fr.eval x).cells.toList (fun n=> .pointer (some ⟨n,0,none⟩)) (VR.cells hv) ?_ (KM _ _ _ _ _),rfl,by rw[ho]; rfl⟩;unfold execOp;rw[ho];rfl
  ·cases hp
 ·rename_i t ho;split at hp
  ·rename_i i d e1;split at hp
   ·rename_i z e2;cases e3:ground 6 z with
    |false=>rw[e3]at hp; cases hp
    |true =>
     rw[e3]at hp;simp only[AG,AE,AR]at hp;obtain⟨rfl,rfl,rfl,rfl⟩:=hp;refine⟨main z.cells.toList (fun n=> .pointer (some ⟨n,0,none⟩)) (VR.cells (B5 6 e3)) ?_ (KM _ _ _ _ _),rfl,by rw[ho]; rfl⟩;unfold execOp;rw[ho];show(((zeroValue t).bind fun z=>(newVar t z).bind fun a=>Sem.pure (Value.pointer (some a))).bind fun r=>Sem.pure (Next.value r)).runT P w #[]=_;rw[AB (s:=(zeroValue t).bind fun z=>(newVar t z).bind fun a=>Sem.pure (Value.pointer (some a))) (a:= .pointer (some ⟨w.heap.size,0,none⟩)) (w':=World.grow w (.cells z.cells t)) (es':= #[])]
     ·simp only[E3]; rfl
     ·rw[AB (FQ A7 e1 e2 _)]; rfl
   ·cases hp
  ·cases hp
 ·rename_i t len ps ho;split at hp
  ·rename_i vs e0;split at hp
   ·rename_i i0 OB e1;split at hp
    ·rename_i i d e2;cases oi:Nat.ble (len*i.size) 16777216&&Nat.blt len HN with
     |false=>rw[oi]at hp; cases hp
     |true =>
      rw[oi]at hp;obtain⟨e3,e31⟩:=Bj.1 oi;simp only[AG]at hp;split at hp
      ·rename_i cs e4;split at hp
       ·rename_i r e5;simp only[AE,AR]at hp;obtain⟨rfl,rfl,rfl,rfl⟩:=hp;obtain⟨r',q1,q2⟩:=Qq (w:=w) A7 h ho e0 e1 e2 e3 e4 e5;exact⟨main r' (fun n=> .slice (some ⟨n,0,none⟩) len len) q1 q2 (.sl (a:=⟨b,0,none⟩) (B:=⟨w.heap.size,r.length,i.size⟩) (Cy _ _ _) (.inl ⟨YT e31,rfl⟩)),rfl,by rw[ho]; rfl⟩
       ·cases hp
      ·cases hp
    ·cases hp
   ·cases hp
  ·cases hp
 ·cases hp
end
structure CB where
 P:Program
 ty:DD
 fns:Fns
structure An(C:CB):Prop where
 ty:A8 C.P C.ty
 fns:lI C.P C.fns
 mixed:C.P.follows .mixedOrders=true
def V2(H:PH)(vs:List Value):Bool:=match vs with
 | [.pointer (some ⟨b,o,none⟩)]=>Nat.beq o BN&&(match H.t.get b with
  |some (.cells _ _ elem _ own _ _ _)=> !own&&Nat.beq elem C2
  |_=>false)
 |_=>false
def G9(C:CB)(pf:PF)(H:PH)(c:Call):Option (FuncId×Func×Code×List Value) :=
 match c.callee with
 | .value f=>match AQ H.ng pf f with
  |some (.func (.func g) xs ys)=>match Eh H.ng pf c.args.toList with
   |some vs=>match C.fns.get g with
    |some fn=>match fn.body with
     |some body=>cond (A4 fn&&(Nat.ble (xs.toList++vs++ys.toList).length (2^T.deep)&& !V2 H vs)) (some (g,fn,body,xs.toList++vs++ys.toList)) none
     |none=>none
    |none=>none
   |none=>none
  |_=>none
 | .invoke r nm=>match AQ H.ng pf r with
  |some (.iface t v)=>match Om C.ty t nm with
   |some g=>match Eh H.ng pf c.args.toList with
    |some vs=>match C.fns.get g with
     |some fn=>match fn.body with
      |some body=>cond (A4 fn&&Nat.ble (v::vs).length (2^T.deep)) (some (g,fn,body,v::vs)) none
      |none=>none
     |none=>none
    |none=>none
   |none=>none
  |_=>none
 | .builtin _=>none
theorem GY{C:CB}(hC:An C){pf:PF}{H:PH}{o:Oper}{cl:Call}(ho:o.op= .call cl){g:FuncId}{fn:Func}{body:Code}{args:List Value}(hp:G9 C pf H cl=some (g,fn,body,args)) :
  C.P.funcs[g]? =some fn∧fn.body=some body∧args.length≤2^T.deep∧∀(ρ:Ah) (c:Ctx) (fr:Frame) (w:World),CJ H.ng ρ pf fr o→HR ρ H c w→CK c w→W8 C.P ρ g args w (execOp fr.eval o):=by
 obtain⟨callee,AAe,EY⟩:=cl;unfold G9 at hp;simp only at hp;cases callee with
 |builtin b=>cases hp
 |value f =>
  simp only at hp;split at hp
  ·rename_i g' xs ys e1;split at hp
   ·rename_i vs e2;split at hp
    ·rename_i NS e3;split at hp
     ·rename_i fv e4;cases e5:A4 NS&&(Nat.ble (xs.toList++vs++ys.toList).length (2^T.deep)&& !V2 H vs)with
      |false=>rw[e5]at hp; cases hp
      |true =>
       rw[e5]at hp;simp only[AG,AE,AR]at hp;obtain⟨rfl,rfl,rfl,rfl⟩:=hp;obtain⟨q1,jr⟩:=Bj.1 e5;have q2:=(Bj.1 jr).1;exact⟨hC.fns _ _ e3,e4,AH q2,fun ρ c fr w h _ _=>H5 h ho e1 (hC.fns _ _ e3) q1 e2⟩
     ·cases hp
    ·cases hp
   ·cases hp
  ·cases hp
 |invoke r nm =>
  simp only at hp;split at hp
  ·rename_i t v e1;split at hp
   ·rename_i g' e2;split at hp
    ·rename_i vs e3;split at hp
     ·rename_i NS e4;split at hp
      ·rename_i fv e5;cases e6:A4 NS&&Nat.ble (v::vs).length (2^T.deep)with
       |false=>rw[e6]at hp; cases hp
       |true =>
        rw[e6]at hp;simp only[AG,AE,AR]at hp;obtain⟨rfl,rfl,rfl,rfl⟩:=hp;obtain⟨q1,q2⟩:=Bj.1 e6;exact⟨hC.fns _ _ e4,e5,AH q2,fun ρ c fr w h _ _=>UE hC.ty h ho e1 e2 (hC.fns _ _ e4) q1 e3⟩
      ·cases hp
     ·cases hp
    ·cases hp
   ·cases hp
  ·cases hp
def Ae(k:CallKind):Bool:=match k with| .early=>false|_=>true
def FD(C:CB)(pf:PF)(cs:List PF)(H:PH)(d:Nat)(all:Array Oper)(i:Nat)(o:Oper)(l:List Oper)(k:List Ab):Option DS :=
 match Aj pf all o with
 |none=>none
 |some false=>match By pf o.dst undef with
  |some tm=>some ⟨(pf.up tm (.ops all (i+1) l::k)),cs,H,d⟩
  |none=>none
 |some true=>match Ke C.P C.ty pf H o with
  |some v=>match By pf o.dst v with
   |some tm=>some ⟨(pf.up tm (.ops all (i+1) l::k)),cs,H,d⟩
   |none=>none
  |none=>match OQ C.P C.ty pf H o with
   |some (v,H')=>cond (Nat.ble H.next H'.next) (match By pf o.dst v with
    |some tm=>some ⟨(pf.up tm (.ops all (i+1) l::k)),cs,H',d⟩
    |none=>none) none
   |none=>match o.op with
    | .call c=>match c.callee with
     | .builtin .recover=>match pf.round with
      |none=>match Jk pf cs with
       |some (v,cs')=>match By pf o.dst v with
        |some tm=>some ⟨(pf.up tm (.ops all (i+1) l::k)),cs',H,d⟩
        |none=>none
       |none=>none
      |_=>none
     |_=>match G9 C pf H c with
      |some (g,fn,body,args)=>some ⟨CN g fn body args .normal,pf::cs,H,d⟩
      |none=>none
    | .defer c=>match pf.round with
     |none=>match EM H.ng pf o c with
      |some df=>match By pf o.dst undef with
       |some tm=>some ⟨(pf.x7 tm (.ops all (i+1) l::k) df),cs,H,d⟩
       |none=>none
      |none=>none
     |_=>none
    | .panic x=>match AQ H.ng pf x with
     |some (.iface t v)=>some ⟨(pf.pH (.panicking [⟨.iface t v,false,false⟩])),cs,H,d⟩
     |_=>none
    |_=>none
section
variable{C:CB}{ty:TypeId}{Post:Value→World→Prop}{main:Bool}{E:Env}
theorem H9{P:Program}{E7:DD}{pf:PF}{H:PH}{o:Oper}{v:Value}(h:Ke P E7 pf H o=some v): ∀c,o.op≠ .defer c:=fun c e=>by
 unfold Ke at h;rw[e]at h;cases h
theorem Kr{P:Program}{E7:DD}{pf:PF}{H:PH}{o:Oper}{r:Value×PH}(h:OQ P E7 pf H o=some r): ∀c,o.op≠ .defer c:=fun c e=>by
 unfold OQ at h;rw[e]at h;cases h
theorem Kl(hC:An C)(hb:main=true∨E.send≠none){pf:PF}{cs:List PF}{H:PH}{d:Nat}{all:Array Oper}{i:Nat}{o:Oper}{l:List Oper}{k:List Ab}(hm:pf.mode= .run)(hk:Ae pf.kind=true)(ht:pf.todo= .ops all i (o::l)::k){s':DS}
  (hp:FD C pf cs H d all i o l k=some s'):Reach C.P ty Post main E ⟨pf,cs,H,d⟩ s':=by
 have CP:pf.kind≠ .early:=fun e=>by rw[e]at hk; cases hk
 unfold FD at hp;split at hp
 ·cases hp
 ·rename_i hw;split at hp
  ·rename_i tm e1;simp only[AE]at hp;subst hp;exact Reach.pass (s:=⟨pf,cs,H,d⟩) hb hm ht hw e1
  ·cases hp
 ·rename_i hw;split at hp
  ·rename_i v e1;split at hp
   ·rename_i tm e2;simp only[AE]at hp;subst hp;exact Reach.op (s:=⟨pf,cs,H,d⟩) hb hm ht CP (H9 e1) hw (AN _) e2 fun ρ c fr w h1 h2 h3 h4=>by
     have:=(LQ (P:=C.P) hC.ty h1 h2 h3 e1 (hn:=H.next)).d (fn:=pf.fn);rw[h4]at this;exact this
   ·cases hp
  ·split at hp
   ·rename_i v H' e1;cases e3:Nat.ble H.next H'.next with
    |false=>rw[e3]at hp; cases hp
    |true =>
     rw[e3]at hp;simp only[AG]at hp;split at hp
     ·rename_i tm e2;simp only[AE]at hp;subst hp;exact Reach.op (s:=⟨pf,cs,H,d⟩) hb hm ht CP (Kr e1) hw (AH e3) e2 fun ρ c fr w h1 h2 h3 h4=>by
       have:=(Pg (P:=C.P) hC.ty h1 h2 h3 e1).d (fn:=pf.fn);rw[h4]at this;exact this
     ·cases hp
   ·split at hp
    ·rename_i cl eo;split at hp
     ·rename_i ec;split at hp
      ·rename_i er;split at hp
       ·rename_i v cs' e1;split at hp
        ·rename_i tm e2;simp only[AE]at hp;subst hp;obtain⟨callee,AAe,EY⟩:=cl;have ec:callee= .builtin .recover:=ec;subst ec;exact Reach.recover (s:=⟨pf,cs,H,d⟩) hb hm ht er eo hw e1 e2
        ·cases hp
       ·cases hp
      ·cases hp
     ·split at hp
      ·rename_i g fn body args e1;simp only[AE]at hp;subst hp;obtain⟨q1,q2,q3,q4⟩:=GY hC eo e1;exact Reach.call (s:=⟨pf,cs,H,d⟩) hb hm ht CP (fun c e=>by rw[eo]at e; cases e) hw q1 q2 q3 fun ρ c fr w h1 h2 h3=>q4 ρ c fr w h1 h2 h3
      ·cases hp
    ·rename_i cl eo;split at hp
     ·rename_i er;split at hp
      ·rename_i df e1;split at hp
       ·rename_i tm e2;simp only[AE]at hp;subst hp;exact Reach.defer (s:=⟨pf,cs,H,d⟩) hb hm ht CP eo er hw e1 e2
       ·cases hp
      ·cases hp
     ·cases hp
    ·rename_i x eo;split at hp
     ·rename_i t v e1;simp only[AE]at hp;subst hp;exact Reach.panic (s:=⟨pf,cs,H,d⟩) hb hm ht CP eo hw e1
     ·cases hp
    ·cases hp
end
def KQ(pf:PF)(dst:Option Tmp)(v:Value):Bool :=
 match dst with
 |none=>true
 |some t=>Nat.blt t pf.nt&&(match pf.tmps.get t with|some u=>Rk 8 v u|none=>false)
theorem Pl{pf:PF}{dst:Option Tmp}{v:Value}(h:KQ pf dst v=true): ∀t,dst=some t→pf.tmps.get t=some v∧t<pf.nt:=fun t e=>by
 subst e;unfold KQ at h;simp only[AF]at h;obtain⟨h1,h2⟩:=h;split at h2
 ·rename_i u e;rw[HP 8 _ _ h2];exact⟨e,AH h1⟩
 ·cases h2
def UD(tr:T Value)(l:List Value):Nat→Bool :=
 List.rec (motive:=fun _=>Nat→Bool) (fun _=>true) (fun v _ ih k=>(match tr.get k with|some u=>Rk 8 v u|none=>false)&&ih (k+1)) l
theorem OH{tr:T Value}: ∀{l:List Value} {off:Nat},UD tr l off=true→∀k,k<l.length→tr.get (off+k)=l[k]?
 | [],off,_,k,hk=>by simp at hk
 |v::l,off,h,k,hk=>by
  have h:((match tr.get off with|some u=>Rk 8 v u|none=>false)&&UD tr l (off+1))=true:=h;simp only[AF]at h;cases k with
  |zero =>
   split at h
   ·rename_i u e;rw[HP 8 _ _ h.1];simpa using e
   ·exact absurd h.1 (by simp)
  |succ k =>
   have:=OH h.2 k (by simpa using hk);rw[show off+(k+1)=off+1+k by omega,this];rfl
def iz(C:CB)(pf:PF)(H:PH)(all:Array Oper)(i:Nat):Bool :=
 match all.toList[i]? with
 |none=>false
 |some o=>match Aj pf all o with
  |none=>false
  |some false=>KQ pf o.dst undef
  |some true=>match Ke C.P C.ty pf H o with
   |some v=>KQ pf o.dst v
   |none=>match Ir C.ty pf H.ng o with
    |some (l,elem,es,vf)=>match o.dst with
     |some t=>match pf.tmps.get t with
      |some v=>match Jv (some v)with
       | [b]=>Rk 8 (vf b) v&&(Nat.blt t pf.nt&&(match H.t.get b with
        |some (.cells tr n el es' true 0 true false)=>Nat.beq n l.length&&(Nat.beq el elem&&(Nat.beq es' es&&UD tr l 0))
        |_=>false))
       |_=>false
      |none=>false
     |none=>false
    |none=>false
def NR(C:CB)(pf:PF)(H:PH)(all:Array Oper)(fs:List Nat):Bool:=fs.all fun i=> !IQ all i&&iz C pf H all i
section
variable{C:CB}{ty:TypeId}{Post:Value→World→Prop}{main:Bool}{E:Env}
theorem OT{E7:DD}{pf:PF}{ng:Nat}{o:Oper}{r:List Value×TypeId×Nat×(Nat→Value)}(h:Ir E7 pf ng o=some r): ∀c,o.op≠ .defer c:=fun c e=>by
 unfold Ir at h;rw[e]at h;cases h
theorem aY(hC:An C){pf:PF}{cs:List PF}{H:PH}{d:Nat}{all:Array Oper}{i:Nat}(h:iz C pf H all i=true):lJ C.P ⟨pf,cs,H,d⟩ all i:=by
 unfold iz at h;split at h
 ·cases h
 ·rename_i o e0;have ho:all[i]? =some o:=by rw[← CQ]; exact e0
  split at h
  ·cases h
  ·rename_i hw;exact .pass ho hw (Pl h)
  ·rename_i hw;split at h
   ·rename_i v e1;exact .val ho hw (H9 e1) (Pl h) fun ρ c fr w h1 h2 h3=>(LQ hC.ty h1 h2 h3 e1).d
   ·split at h
    ·rename_i l elem es vf e1;split at h
     ·rename_i t e2;split at h
      ·rename_i v e3;split at h
       ·rename_i b e4;simp only[AF]at h;obtain⟨c1,c2,c3⟩:=h;have c1:=HP 8 _ _ c1;split at c3
        ·rename_i tr n el es' e5;simp only[AF]at c3;obtain⟨d1,d2,d3,d4⟩:=c3;have d1:=AJ d1;have d2:=AJ d2;have d3:=AJ d3;subst d1 d2 d3;have hg: ∀k,k<l.length→tr.get k=l[k]? :=fun k hk=>by simpa using OH d4 k hk
         have R7:Ei o.op=true:=by
          unfold Ir at e1;split at e1
          ·rename_i q; rw[q]; rfl
          ·rename_i q; rw[q]; rfl
          ·rename_i q; rw[q]; rfl
          ·cases e1
         exact .alloc ho hw (OT e1) R7 (fun t' dw=>by
          rw[e2]at dw; cases dw;exact⟨e3,AH c2⟩) ⟨t,e2⟩ e4 e5 rfl fun ρ c fr w h1 h2 h3 h4=>by
           have:=(Sy (P:=C.P) (c:=c) (w:=w) hC.ty h1 h4 e1 hg).1;rw[c1]at this;exact this
        ·cases c3
       ·cases h
      ·cases h
     ·cases h
    ·cases h
theorem Hk(hC:An C){pf:PF}{cs:List PF}{H:PH}{d:Nat}{all:Array Oper}{fs:List Nat}(h:NR C pf H all fs=true):(∀i∈fs,IQ all i=false)∧∀i∈fs,lJ C.P ⟨pf,cs,H,d⟩ all i:=by
 have key: ∀i∈fs,IQ all i=false∧iz C pf H all i=true:=fun i hi=>by
  have:=AX.1 h i hi;simpa using this
 exact⟨fun i hi=>(key i hi).1,fun i hi=>aY hC (key i hi).2⟩
end
def looksOnly(o:Oper):Bool :=
 match o.op with
 | .move _| .load .. | .binOp .. | .fieldAddr .. | .indexAddr .. | .extract .. | .pick .. | .unOp .. | .nilCheck _| .makeInterface .. | .makeFunc .. | .field .. | .index .. | .slice .. | .lookup .. | .typeAssert .. | .build .. | .convert .. | .box .. | .alloc .. | .buildSlice .. =>true
 | .call {callee:= .builtin .len, .. }| .call {callee:= .builtin .min, .. }| .call {callee:= .builtin .max, .. }=>true
 |_=>false
def bW(all:List (Nat×Bool×Nat))(mask:Nat):List Nat×List (Nat×Bool×Nat)×Nat :=
 match all with
 | []=>([],[],mask)
 |(i,f,b)::l=>if f&&Nat.beq (Nat.land b mask) b then
   match bW l (Nat.lor mask (2^i))with
   |(t,r,m)=>(i::t,r,m)
  else match bW l mask with
   |(t,r,m)=>(t,(i,f,b)::r,m)
def ZG(all:List (Nat×Bool×Nat))(mask:Nat):Option (Nat×List (Nat×Bool×Nat)) :=
 match all with
 | []=>none
 |(i,f,b)::l=>if Nat.beq (Nat.land b mask) b then some (i,l)else match ZG l mask with
  |some (j,r)=>some (j,(i,f,b)::r)
  |none=>none
def gA(fuel:Nat)(all:List (Nat×Bool×Nat))(mask:Nat):List Nat :=
 match fuel with
 |0=>all.map (·.1)
 |n+1=>match bW all mask with
  |(t,r,m)=>t++(match ZG r m with
   |some (j,r')=>j::gA n r' (Nat.lor m (2^j))
   |none=>r.map (·.1))
def pC(ops:Array Oper):List Nat :=
 gA ops.size ((Js ops).map fun(o,i)=>(i,looksOnly o,(Region.before ops).getD i 0)) 0
def Ot(ops:Array Oper)(es:List Nat):Bool:=es.all (fun i=>Nat.blt i ops.size)&&(List.range ops.size).all fun i=>es.any (Nat.beq i)
theorem TF{ops:Array Oper}{es:List Nat}(h:Ot ops es=true):(∀i∈es,i<ops.size)∧∀i,i<ops.size→i∈es:=by
 unfold Ot at h;rw[AF]at h;refine⟨fun i hi=>AH (AX.1 h.1 i hi),fun i hi=> ?_⟩;have:=AX.1 h.2 i (Cq.2 hi);obtain⟨j,h1,h2⟩:=Cp.1 this;rw[AJ h2];exact h1
def EG(C:CB)(pf:PF)(cs:List PF)(H:PH)(d:Nat)(all:Array Oper)(fs es:List Nat)(k:List Ab):Option DS :=
 cond (Cr all) (match es with
  | []=>cond (NR C pf H all fs) (some ⟨(pf.go (k)),cs,H,d⟩) none
  |e::es=>match all.toList[e]? with
   |none=>none
   |some o=>match Aj pf all o with
    |none=>none
    |some false=>match By pf o.dst undef with
     |some tm=>some ⟨(pf.up tm (.CH all (e::fs) es::k)),cs,H,d⟩
     |none=>none
    |some true=>match(cond (looksOnly o) (Ke C.P C.ty pf H o) none)with
     |some v=>cond (Ei o.op) none (match By pf o.dst v with
      |some tm=>some ⟨(pf.up tm (.CH all (e::fs) es::k)),cs,H,d⟩
      |none=>none)
     |none=>match Ir C.ty pf H.ng o with
      |some (l,elem,sz,vf)=>match o.dst with
       |some _t=>match By pf o.dst (vf H.next)with
        |some tm=>cond (Nat.ble (H.next+1) (2^T.deep)) (match Jv (some (vf H.next))with
         | [b]=>cond (Nat.beq b H.next) (some ⟨(pf.up tm (.CH all (e::fs) es::k)),cs,(H.x6 (H.t.set H.next (.cells (setFrom l .nil 0) l.length elem sz true 0 true false))),d⟩) none
         |_=>none) none
        |none=>none
       |none=>none
      |none=>cond (NR C pf H all fs&&chained (Region.before all) e es) (match(match Ke C.P C.ty pf H o with|some v=>some (v,H)|none=>OQ C.P C.ty pf H o)with
       |some (v,H')=>cond (Nat.ble H.next H'.next) (match By pf o.dst v with
        |some tm=>some ⟨(pf.up tm (.CH all (behind (Region.before all) e fs) es::k)),cs,H',d⟩
        |none=>none) none
       |none=>match o.op with
        | .call c=>match G9 C pf H c with
         |some (g,fn,body,args)=>cond (fs.any (Nat.beq e)) none (some ⟨CN g fn body args .normal,(pf.go (.dcall all (behind (Region.before all) e fs) e es::k))::cs,H,d⟩)
         |none=>none
        |_=>none) none) none
section
variable{C:CB}{ty:TypeId}{Post:Value→World→Prop}{main:Bool}{E:Env}
theorem Pd{pf:PF}{t:Tmp}{v:Value}{tm:T Value}(h:By pf (some t) v=some tm):tm.get t=some v:=by
 rw[Ok h t]; simp
theorem PI(hC:An C)(hb:main=true∨E.send≠none){pf:PF}{cs:List PF}{H:PH}{d:Nat}{all:Array Oper}{fs es:List Nat}{k:List Ab}(hm:pf.mode= .run)(hk:Ae pf.kind=true)(ht:pf.todo= .CH all fs es::k){s':DS}
  (hp:EG C pf cs H d all fs es k=some s'):Reach C.P ty Post main E ⟨pf,cs,H,d⟩ s':=by
 have CP:pf.kind≠ .early:=fun e=>by rw[e]at hk; cases hk
 unfold EG at hp;cases KY:Cr all with
 |false=>rw[KY]at hp; cases hp
 |true =>
  rw[KY]at hp;simp only[AG]at hp;cases es with
  |nil =>
   simp only at hp;cases hf:NR C pf H all fs with
   |false=>rw[hf]at hp; cases hp
   |true =>
    rw[hf]at hp;simp only[AG,AE]at hp;subst hp;obtain⟨q1,q2⟩:=Hk hC (cs:=cs) (d:=d) hf;exact Reach.jH (s:=⟨pf,cs,H,d⟩) hb hm CP ht KY q1 q2
  |cons e es =>
   simp only at hp;split at hp
   ·cases hp
   ·rename_i o e0;have ho:all[e]? =some o:=by rw[← CQ]; exact e0
    split at hp
    ·cases hp
    ·rename_i hw;split at hp
     ·rename_i tm e1;simp only[AE]at hp;subst hp;refine Reach.ahead (s:=⟨pf,cs,H,d⟩) ht KY ho e1 (.inl ⟨rfl,fun _=> ?_⟩);cases hd:o.dst with
      |none=>rfl
      |some t =>
       rw[hd]at e1;simp only[EC];rw[Pd e1];rfl
     ·cases hp
    ·rename_i hw;split at hp
     ·rename_i v e1;cases ea:Ei o.op with
      |true=>rw[ea]at hp; cases hp
      |false =>
       rw[ea]at hp;simp only[Av]at hp;split at hp
       ·rename_i tm e2;simp only[AE]at hp;subst hp;exact Reach.ahead (s:=⟨pf,cs,H,d⟩) ht KY ho e2 (.inl ⟨rfl,fun q=>by rw[ea]at q; cases q⟩)
       ·cases hp
     ·split at hp
      ·rename_i l elem sz vf e2;split at hp
       ·rename_i t e3;split at hp
        ·rename_i tm e4;cases e5:Nat.ble (H.next+1) (2^T.deep)with
         |false=>rw[e5]at hp; cases hp
         |true =>
          rw[e5]at hp;simp only[AG]at hp;split at hp
          ·rename_i b e6;cases e7:Nat.beq b H.next with
           |false=>rw[e7]at hp; cases hp
           |true =>
            rw[e7]at hp;simp only[AG,AE]at hp;subst hp;have e7:=AJ e7;refine Reach.ahead (s:=⟨pf,cs,H,d⟩) ht KY ho e4 (.inr ⟨_,rfl,AH e5, ?_⟩);rw[e3]at e4 ⊢;simp only[EC];rw[Pd e4,e6,e7]
          ·cases hp
        ·cases hp
       ·cases hp
      ·cases ef:NR C pf H all fs&&chained (Region.before all) e es with
       |false=>rw[ef]at hp; cases hp
       |true =>
        rw[ef]at hp;obtain⟨ef1,ef2⟩:=Bj.1 ef;obtain⟨q1,q2⟩:=Hk hC (cs:=cs) (d:=d) ef1;simp only[AG]at hp;split at hp
        ·rename_i v H' e3;cases e4:Nat.ble H.next H'.next with
         |false=>rw[e4]at hp; cases hp
         |true =>
          rw[e4]at hp;simp only[AG]at hp;split at hp
          ·rename_i tm e5;simp only[AE]at hp;subst hp;have WG:(∀c,o.op≠ .defer c)∧∀(ρ:Ah) (c:Ctx) (fr:Frame) (w:World),CJ H.ng ρ pf fr o→HR ρ H c w→CK c w→Sound C.P ρ H.next v H' c w (execOp fr.eval o):=by
            split at e3
            ·rename_i v' e6;simp only[AE,AR]at e3;obtain⟨rfl,rfl⟩:=e3;exact⟨H9 e6,fun ρ c fr w h1 h2 h3=>LQ hC.ty h1 h2 h3 e6⟩
            ·exact⟨Kr e3,fun ρ c fr w h1 h2 h3=>Pg hC.ty h1 h2 h3 e3⟩
           exact Reach.Zv (s:=⟨pf,cs,H,d⟩) hb hm CP ht KY ef2 q1 (fun i hi _=>q2 i hi) ho WG.1 hw (AH e4) e5 fun ρ c fr w h1 h2 h3 h4=>by
            have:=(WG.2 ρ c fr w h1 h2 h3).d (fn:=pf.fn);rw[h4]at this;exact this
          ·cases hp
        ·split at hp
         ·rename_i cl eo;split at hp
          ·rename_i g fn body args e5;cases e6:fs.any (Nat.beq e)with
           |true=>rw[e6]at hp; cases hp
           |false =>
            rw[e6]at hp;simp only[Av,AE]at hp;subst hp;obtain⟨g1,g2,g3,g4⟩:=GY hC eo e5;have BK:e∉fs:=fun hm=>by
             have:=Cp.2 ⟨e,hm,Nat.beq_refl e⟩;rw[e6]at this; cases this
            exact Reach.Wn (s:=⟨pf,cs,H,d⟩) hb hm CP ht KY ef2 q1 (fun i hi _=>q2 i hi) BK ho (fun c e=>by rw[eo]at e; cases e) hw g1 g2 g3 fun ρ c fr w h1 h2 h3=>g4 ρ c fr w h1 h2 h3
          ·cases hp
         ·cases hp
end
def Iq(P:Program)(E7:DD)(H:PH)(EY:List TypeId)(AAe:List Value):Option PH :=
 match EY with
 | [s,_]=>match AAe with
  | [u,v]=>On P E7 H s u v
  |_=>none
 |_=>none
section
variable{P:Program}{ρ:Ah}{H:PH}{c:Ctx}{w:World}
theorem Mj{E7:DD}(A7:A8 P E7)(hH:HR ρ H c w)(AO:CK c w){EY:Array TypeId}{t:TypeId}{gY:Array Bool}{AAe bJ:Array Value}(hx:CE ρ AAe.toList bJ.toList){H':PH}(hp:Iq P E7 H EY.toList AAe.toList=some H') :
  Sound P ρ H.next undef H' c w (builtin .delete EY t gY bJ):=by
 obtain⟨EY⟩:=EY;obtain⟨AAe⟩:=AAe;obtain⟨bJ⟩:=bJ;unfold Iq at hp;simp only at hp hx;split at hp
 ·rename_i s kt;split at hp
  ·rename_i u v;cases hx with
   |cons h1 hx =>
    rename_i u' l';cases hx with
    |cons h2 hx =>
     rename_i v' l';cases hx
     let o:Oper:={dst:=none,op:= .call {callee:= .builtin .delete,args:= #[.tmp 0,.tmp 1],argTypes:= #[s,kt]},type:=t,pos:= "",after:= #[],guard:=none}
     let fr:Frame:={fn:=0,tmps:= #[u',v'],todo:= [],defers:= [],mode:= .run,kind:= .normal,roundOf:=none}
     let pf:PF:=⟨0,(T.nil.set 0 u).set 1 v,2,[],[],.run,.normal,none⟩
     have g0:pf.tmps.get 0=some u:=by
      show((T.nil.set 0 u).set 1 v).get 0=_;rw[T.AW _ _ _ _ (by decide),AA (by decide),T.AW _ _ _ _ (by decide),AD rfl]
     have g1:pf.tmps.get 1=some v:=by
      show((T.nil.set 0 u).set 1 v).get 1=_;rw[T.AW _ _ _ _ (by decide),AD rfl]
     have C6:CJ H.ng ρ pf fr o:=by
      refine CJ.of (fun k x hk=> ?_) hH o;by_cases e0:k=0
      ·subst e0; rw[g0]at hk; cases hk; exact⟨u',rfl,h1⟩
      ·by_cases e1:k=1
       ·subst e1; rw[g1]at hk; cases hk; exact⟨v',rfl,h2⟩
       ·have:pf.tmps.get k=none:=by
         show((T.nil.set 0 u).set 1 v).get k=_;rw[T.AW _ _ _ _ (by decide),AA e1,T.AW _ _ _ _ (by decide),AA e0]; rfl
        rw[this]at hk; cases hk
     have:=Mh (hn:=H.next) A7 C6 hH AO (o:=o) rfl (x:= .tmp 0) (y:= .tmp 1) g0 g1 hp;rw[De (o:=o) rfl]at this;have iZ:Array.map fr.eval #[Operand.tmp 0,Operand.tmp 1]= #[u',v']:=by
      simp[Frame.eval,fr]
     rw[iZ]at this;exact this
  ·cases hp
 ·cases hp
end
def KG(C:CB)(pf:PF)(cs:List PF)(H:PH)(d:Nat):Option DS :=
 match pf.defers with
 |⟨tg,AAe⟩::ds=>match tg with
  | .fn (.func f) ys=>match C.fns.get f with
   |some fn=>match fn.body with
    |some body=>cond (A4 fn&&Nat.ble (AAe.toList.length+ys.toList.length) (2^T.deep)) (some ⟨CN f fn body (AAe.toList++ys.toList) .deferred,(pf.OO ds)::cs,H,d⟩) none
    |none=>none
   |none=>none
  | .builtin .delete EY _ _=>match Iq C.P C.ty H EY.toList AAe.toList with
   |some H'=>cond (Nat.ble H.next H'.next) (some ⟨(pf.OO ds),cs,H',d⟩) none
   |none=>none
  |_=>none
 | []=>match C.fns.get pf.fn with
  |none=>none
  |some fn=>match cs with
   | []=>none
   |pc::cs'=>match pf.mode with
    | .panicking ch=>some ⟨(pc.pH (Sq ch pc.mode)),cs',H,d⟩
    | .returning=>cond (At pf.todo) (match Db C.ty H pf.tmps fn.results.toList with
     |none=>none
     |some vs=>match pf.kind with
      | .deferred=>match NA pc.mode with
       |some m=>some ⟨(pc.pH m),cs',H,d⟩
       |none=>none
      | .normal=>match pc.todo with
       | .ops all i (o::l)::k=>match By pc o.dst (HV vs)with
        |some tm=>some ⟨(pc.up tm (.ops all (i+1) l::k)),cs',H,d⟩
        |none=>none
       | .dcall all fs e es::k=>match all.toList[e]? with
        |some o=>match By pc o.dst (HV vs)with
         |some tm=>cond (Cr all&&chained (Region.before all) e es) (some ⟨(pc.up tm (.CH all (behind (Region.before all) e fs) es::k)),cs',H,d⟩) none
         |none=>none
        |none=>none
       |_=>none
      |_=>none) none
    |_=>none
def Ql(C:CB)(s:DS):Option DS :=
 match s with
 |⟨fr,cs,H,d⟩=>match fr.mode with
  | .run=>match fr.todo with
   | .ops all i (o::l)::k=>cond (Ae fr.kind) (FD C fr cs H d all i o l k) none
   | .CH all fs es::k=>cond (Ae fr.kind) (EG C fr cs H d all fs es k) none
   | .code (.region _ ops true)::k=>cond (Mg ops&&Ot ops (pC ops)) (some ⟨fr.go (.CH ops [] (pC ops)::k),cs,H,d⟩) none
   |_=>match M9 H.ng fr with
    |some pf=>some ⟨pf,cs,H,d⟩
    |none=>none
  |_=>KG C fr cs H d
section
variable{C:CB}{ty:TypeId}{Post:Value→World→Prop}{main:Bool}{E:Env}
theorem GW(hC:An C)(hb:main=true∨E.send≠none){pf:PF}{cs:List PF}{H:PH}{d:Nat}(hm:pf.mode≠ .run){s':DS}
  (hp:KG C pf cs H d=some s'):Reach C.P ty Post main E ⟨pf,cs,H,d⟩ s':=by
 unfold KG at hp;split at hp
 ·rename_i tg AAe ds ed;split at hp
  ·rename_i f ys;split at hp
   ·rename_i fn e1;split at hp
    ·rename_i body e2;cases e3:A4 fn&&Nat.ble (AAe.toList.length+ys.toList.length) (2^T.deep)with
     |false=>rw[e3]at hp; cases hp
     |true =>
      rw[e3]at hp;simp only[AG,AE]at hp;subst hp;obtain⟨q1,q2⟩:=Bj.1 e3;exact Reach.callDeferred (s:=⟨pf,cs,H,d⟩) hb hm ed (hC.fns _ _ e1) e2 q1 (by simpa using AH q2)
    ·cases hp
   ·cases hp
  ·rename_i EY t gY;split at hp
   ·rename_i H' e1;cases e3:Nat.ble H.next H'.next with
    |false=>rw[e3]at hp; cases hp
    |true =>
     rw[e3]at hp;simp only[AG,AE]at hp;subst hp;exact Reach.Y5 (s:=⟨pf,cs,H,d⟩) hb hm ed (AH e3) fun ρ c w bJ h1 h2 h3=>Mj hC.ty h2 h3 h1 e1
   ·cases hp
  ·cases hp
 ·rename_i ed;split at hp
  ·cases hp
  ·rename_i fn e1;split at hp
   ·cases hp
   ·rename_i pc cs';split at hp
    ·rename_i ch em;simp only[AE]at hp;subst hp;exact Reach.gi (s:=⟨pf,pc::cs',H,d⟩) hb em ed (hC.fns _ _ e1) rfl
    ·rename_i em;cases jF:At pf.todo with
     |false=>rw[jF]at hp; cases hp
     |true =>
      rw[jF]at hp;simp only[AG]at hp;split at hp
      ·cases hp
      ·rename_i vs e2;split at hp
       ·rename_i ek;split at hp
        ·rename_i m e3;simp only[AE]at hp;subst hp;exact Reach.Ut (s:=⟨pf,pc::cs',H,d⟩) hC.ty hb em ed jF ek (hC.fns _ _ e1) e2 rfl e3
        ·cases hp
       ·rename_i ek;split at hp
        ·rename_i all i o l k et;split at hp
         ·rename_i tm e3;simp only[AE]at hp;subst hp;exact Reach.ret (s:=⟨pf,pc::cs',H,d⟩) hC.ty hb em ed jF ek (hC.fns _ _ e1) e2 rfl et e3
         ·cases hp
        ·rename_i all fs e es k et;split at hp
         ·rename_i o e4;split at hp
          ·rename_i tm e3;cases e5:Cr all&&chained (Region.before all) e es with
           |false=>rw[e5]at hp; cases hp
           |true =>
            rw[e5]at hp;simp only[AG,AE]at hp;subst hp;obtain⟨q1,q2⟩:=Bj.1 e5;exact Reach.gy (s:=⟨pf,pc::cs',H,d⟩) hC.ty hb em ed jF ek (hC.fns _ _ e1) e2 rfl et q1 (by rw[← CQ]; exact e4) e3 q2
          ·cases hp
         ·cases hp
        ·cases hp
       ·cases hp
    ·cases hp
theorem OC(hC:An C)(hb:main=true∨E.send≠none){s s':DS}(hp:Ql C s=some s'):Reach C.P ty Post main E s s':=by
 obtain⟨fr,cs,H,d⟩:=s;unfold Ql at hp;simp only at hp;split at hp
 ·rename_i hm;split at hp
  ·rename_i all i o l k ht;cases hk:Ae fr.kind with
   |false=>rw[hk]at hp; cases hp
   |true =>
    rw[hk]at hp;exact Kl hC hb hm hk ht hp
  ·rename_i all fs es k ht;cases hk:Ae fr.kind with
   |false=>rw[hk]at hp; cases hp
   |true =>
    rw[hk]at hp;exact PI hC hb hm hk ht hp
  ·rename_i id ops k ht;cases hk:Mg ops&&Ot ops (pC ops)with
   |false=>rw[hk]at hp; cases hp
   |true =>
    rw[hk]at hp;simp only[AG,AE]at hp;subst hp;obtain⟨q1,q2⟩:=Bj.1 hk;obtain⟨q3,q4⟩:=TF q2;exact Reach.draw (s:=⟨fr,cs,H,d⟩) hC.mixed hb hm ht q1 q3 q4
  ·split at hp
   ·rename_i pf e1;simp only[AE]at hp;subst hp;exact Reach.M9 (s:=⟨fr,cs,H,d⟩) hb e1
   ·cases hp
 ·rename_i hm;exact GW hC hb (fun e=>hm e) hp
def kY(C:CB)(k:Nat):DS→DS :=
 Nat.rec (motive:=fun _=>DS→DS) (fun s=>match Ql C s with|some s'=>s'|none=>s) (fun _ ih s=>DS.casesOn (ih s) fun a b c d=>ih ⟨a,b,c,d⟩) k
theorem OD(hC:An C)(hb:main=true∨E.send≠none): ∀(k:Nat) (s:DS),Reach C.P ty Post main E s (kY C k s)
 |0,s=>by
  show Reach C.P ty Post main E s (match Ql C s with|some s'=>s'|none=>s);split
  ·rename_i s' e;exact OC hC hb e
  ·exact .refl s
 |k+1,s=>(OD hC hb k s).trans (OD hC hb k (kY C k s))
end
section
variable{P:Program}{ty:TypeId}{E7:DD}{Post:Value→World→Prop}{main:Bool}{n:Nat}{E:Env}{ρ:Ah}{s s':DS}{c:Ctx}{g:Goroutine}{w:World}
theorem Reach.heap(_hb:main=true∨E.send≠none)(Mv:s.H.next≤s'.H.next)(eY:s'.d=s.d)
  (Aq: ∀(E:Env) ρ c fr cs pd pds w,Br ρ s.fr fr pd→Q8 ρ s.cs cs pds→HR ρ s.H c w→CK c w→∃ρ' M' R' w' JN JP JF Gy es,ρ.le ρ'∧Br ρ' s'.fr JN JF∧Q8 ρ' s'.cs JP Gy∧(JF++Gy).Sublist (pd++pds)∧
   HR ρ' s'.H {c with M:=M',R:=R'} w'∧CK {c with M:=M',R:=R'} w'∧Ca c M' R' w w'∧BQ c w w' es∧GU es∧L4 ρ ρ' s.H.next c M' w w'∧stepG P main (G fr (cs++E.base)) w= .go (G JN (JP++E.base)) w' (seen P fr.fn es)) :
  Reach P ty Post main E s s':=by
 refine⟨1,fun E hb n hn ρ c g w h=> ?_⟩;cases h with
 |mk hf hc D7 ET hH AO Dx h1 h2 h3 Bv =>
  rename_i fr cs pd pds;refine W.GA rfl (hb.imp id fun e=>by rw[h1]; exact e) fun w₁ r=> ?_;obtain⟨ρ',M',R',w',JN,JP,JF,Gy,es,a1,q1,q2,q3,a4,a5,a6,a7,a8,a9,q5⟩:=Aq E ρ c fr cs pd pds w₁ hf hc (hH.rely r) (AO.rely r);have Ch:=EH P fr.fn es;have eX:deafBehind c.d (seen P fr.fn es)=c.d:=Cl _ _ fun e he=>a8 e (Ch e he);refine⟨_,w',_,M',R',q5,rfl,a6,a7.sub Ch, ?_⟩;rw[eX];refine hn ρ' {c with M:=M',R:=R'} _ w' (.mk q1 q2 (D7.sublist q3) (fun b' B7=> ?_) a4 a5 (Dx.trans eY.symm) h1 h2 h3 ((Bv.rely r).step (AO.rely r) a6 a9 a1));obtain⟨p1,p2⟩:=ET b' (q3.subset B7);refine⟨?_,AV p2 Mv⟩;cases hx:ρ' b' with
  |none=>rfl
  |some B =>
   rcases a9.new b' B hx with h|h
   ·rw[p1]at h; cases h
   ·omega
theorem Ca.trans{M₁ M₂:Nat→Prop}{R₁ R₂:Addr→Prop}{w' ji:World}(g:Ca c M₁ R₁ w w')(g':Ca {c with M:=M₁,R:=R₁} M₂ R₂ w' ji):Ca c M₂ R₂ w ji:=by
 have nm: ∀b,b<w.heap.size→¬c.M b→¬M₁ b:=fun b hb hn hm=>by
  rcases(g.mine b hm).2 with h|h
  ·exact hn h
  ·omega
 refine⟨g'.tape.trans g.tape,g.os.trans g'.os,g'.output.trans g.output,A1 g.size g'.size,fun b hb=>(g'.shape b (AV hb g.size)).trans (g.shape b hb),fun b hb hn=>(g'.keep b (AV hb g.size) (nm b hb hn)).trans (g.keep b hb hn),fun b hb=> ?_,fun a ha=>g'.more a (g.more a ha),fun a ha=> ?_⟩
 ·refine⟨(g'.mine b hb).1, ?_⟩;rcases(g'.mine b hb).2 with h|h
  ·exact(g.mine b h).2
  ·exact .inr (A1 g.size h)
 ·rcases g'.ro a ha with h|⟨h1,h2,h3⟩
  ·rcases g.ro a h with h|⟨h1,h2,h3⟩
   ·exact .inl h
   ·refine .inr ⟨AV h1 g'.size,h2,fun hm=> ?_⟩;rcases(g'.mine _ hm).2 with h'|h'
    ·exact h3 h'
    ·omega
  ·refine .inr ⟨h1, ?_,h3⟩;rcases h2 with h2|h2
   ·exact(g.mine _ h2).2
   ·exact .inr (A1 g.size h2)
theorem L4.trans{ρ' bO:Ah}{hn hn':Nat}{M₁ M₂:Nat→Prop}{R₁:Addr→Prop}{w' ji:World}(f:L4 ρ ρ' hn c M₁ w w')(f':L4 ρ' bO hn' {c with M:=M₁,R:=R₁} M₂ w' ji)(AO:CK c w)(hs:w.heap.size≤w'.heap.size)(hg: ∀b,M₁ b→c.M b∨w.heap.size≤b)(hle:hn≤hn'):L4 ρ bO hn c M₂ w ji:=by
 refine⟨fun b hb hx=> ?_,fun x B hx=> ?_,fun x B hx=> ?_⟩
 ·obtain⟨h1,h2⟩:=f.own b hb hx;obtain⟨h3,h4⟩:=f'.own b h1 fun x B hB e=>by
   rcases f.lV x B hB with⟨y,B',hy,e',_⟩|hl
   ·exact hx y B' hy (e'.trans e)
   ·have:=AO.ml b hb;omega
  exact⟨h3,h4.trans h2⟩
 ·rcases f'.lV x B hx with⟨y,B',hy,e,d⟩|hl
  ·rcases f.lV y B' hy with⟨z,lK,hz,e',d'⟩|hl
   ·rcases d with rfl|d
    ·exact .inl ⟨z,lK,hz,e'.trans e,d'.imp id fun q=>e ▸q⟩
    ·rcases hg _ d with q|q
     ·exact .inl ⟨z,lK,hz,e'.trans e,.inr q⟩
     ·exact .inr q
   ·exact .inr (by omega)
  ·exact .inr (A1 hs hl)
 ·rcases f'.new x B hx with h|h
  ·exact f.new x B h
  ·exact .inr (A1 hle h)
theorem Br.IG{pf:PF}{fr:Frame}{pd:List Nat}{ds:List Deferred}{XG:List Deferred}(h:Br ρ pf fr pd)(hd:LR (SN ρ) ds XG):Br ρ {pf with defers:=ds} {fr with defers:=XG} pd :=
 ⟨h.fn,h.size,h.todo,hd,h.mode,h.kind,h.round⟩
def L9(tm:T Value)(n:Nat):List Value:=(List.range n).map fun k=>match tm.get k with|some v=>v|none=>hole
def PB(l:List Value):Nat→T Value→T Value :=
 List.rec (motive:=fun _=>Nat→T Value→T Value) (fun _ t=>t) (fun v _ ih k t=>ih (k+1) (cond (isHole v) t (t.set k v))) l
theorem LC: ∀(l:List Value) (off:Nat) (t:T Value) (k:Nat) (v:Value),off+l.length≤2^T.deep→(PB l off t).get k=some v→(off≤k∧l[k-off]? =some v∧isHole v=false)∨t.get k=some v
 | [],_,_,_,_,_,h=> .inr h
 |u::l,off,t,k,v,hl,h=>by
  have h:(PB l (off+1) (cond (isHole u) t (t.set off u))).get k=some v:=h;simp only[Dv]at hl;rcases LC l (off+1) _ k v (by omega) h with⟨h1,h2,h3⟩|h1
  ·refine .inl ⟨by omega, ?_,h3⟩;rw[show k-off=(k-(off+1))+1 by omega];exact h2
  ·cases hh:isHole u with
   |true=>rw[hh]at h1; exact .inr h1
   |false =>
    rw[hh]at h1;simp only[Av]at h1;rw[T.AW _ _ _ _ (by omega)]at h1;by_cases e:k=off
    ·subst e;rw[AD rfl]at h1;cases h1;exact .inl ⟨AN _,by simp,hh⟩
    ·rw[AA e]at h1;exact .inr h1
theorem Ue{tm:T Value}{n k:Nat}{v:Value}(h:(L9 tm n)[k]? =some v)(hh:isHole v=false):tm.get k=some v∧k<n:=by
 unfold L9 at h;simp only[List.getElem?_map,CL]at h;obtain⟨j,hj,e⟩:=h;have hk:k<n:=by
  by_cases hk:k<n
  ·exact hk
  ·rw[List.getElem?_eq_none (by simpa using hk)]at hj; cases hj
 rw[List.getElem?_range hk]at hj;cases hj;cases hg:tm.get k with
 |none =>
  rw[hg]at e;subst e;cases hh
 |some u =>
  rw[hg]at e;exact⟨by rw[← e],hk⟩
end
@[reducible] noncomputable def PF.goD (pf:PF) (k:List Ab) (d:Deferred):PF:=PF.casesOn pf fun fn tm nt _ ds m kd r=>⟨fn,tm,nt,k,d::ds,m,kd,r⟩
section
variable{P:Program}{ty:TypeId}{E7:DD}{Post:Value→World→Prop}{main:Bool}{n:Nat}{E:Env}{ρ:Ah}{s s':DS}{c:Ctx}{g:Goroutine}{w:World}
theorem HR.newObj{o₀:Obj}{H H':PH}(hH:HR ρ H c w)(hp:Fs H o₀=some H'){o':Obj}(EW:OR (ρ.put H.next ⟨w.heap.size,0,0⟩) o₀ o') :
  HR (ρ.put H.next ⟨w.heap.size,0,0⟩) H' (Ctx.own c w.heap.size) (World.grow w o')∧H'.next=H.next+1∧H'.ng=H.ng:=by
 unfold Fs at hp;cases e1:Nat.ble (H.next+1) (2^T.deep)with
 |false=>rw[e1]at hp; cases hp
 |true =>
  rw[e1]at hp;simp only[AG,AE]at hp;subst hp;exact⟨hH.new (AH e1) rfl rfl (.obj (C7 _ _) EW (.inr rfl)),rfl,rfl⟩
theorem Wx{fr:Frame}{cs:List Frame}{sm:Sem Next}{w w':World}{f:FuncId}{args:Array Value}{es:Array Event}{it:Item}{m:List Item}(hk:fr.kind≠ .early)(ht:fr.todo=it::m)(Ky: ∀a b c d,it≠ .call a b c d)(AT:sm.runT P w #[]=(.ok (.enter f args) w',es)) :
  stepG.apply P true fr cs none sm w= .go (G (Frame.enter P f args .normal) (fr::cs)) w' (seen P fr.fn es):=by
 unfold stepG.apply;have Hs:(fr.kind==CallKind.early)=false:=by simpa using hk
 simp only[Ad,AT,Hs,ht];cases it with
 |call a b c d=>exact absurd rfl (Ky a b c d)
 |_=>rfl
theorem ZA{fr:Frame}{cs:List Frame}{sm:Sem Next}{w w':World}{es:Array Event}(hk:fr.kind≠ .early)(AT:sm.runT P w #[]=(.ok .skip w',es)) :
  stepG.apply P true fr cs none sm w= .go (G (fr.finish undef) cs) w' (seen P fr.fn es):=by
 unfold stepG.apply;have Hs:(fr.kind==CallKind.early)=false:=by simpa using hk
 simp only[Ad,AT,Hs];rfl
theorem OK{fr:Frame}{cs:List Frame}{sm:Sem Next}{w w':World}{es:Array Event}{l:Nat}{f:FuncId}{tm:Array Value}{a b:Code}(hk:fr.kind≠ .early)(AT:sm.runT P w #[]=(.ok (.round l f tm a b) w',es)) :
  stepG.apply P true fr cs none sm w= .go (G (Frame.round l f tm a b .normal) (fr::cs)) w' (seen P fr.fn es):=by
 unfold stepG.apply;have Hs:(fr.kind==CallKind.early)=false:=by simpa using hk
 simp only[Ad,AT,Hs];rfl
theorem fQ{pf:PF}{fr:Frame}(A9: ∀k v,pf.tmps.get k=some v→∃v',fr.tmps[k]? =some v'∧VR ρ v v'){H:PH}(hH:HR ρ H c w){f:Operand}{v:Value}(h:AQ H.ng pf f=some v):VR ρ v (fr.eval f) :=
 CJ.of A9 hH {dst:=none,op:= .move f,type:=0,pos:= "",after:= #[],guard:=none} f (by simp[Op.operands]) v h
def Pb(C:CB)(pf:PF)(cs:List PF)(H:PH)(d:Nat)(f:Operand)(ps:Array Tmp)(a b:Code)(k:List Ab):Option DS :=
 match pf.round with
 |some _=>none
 |none=>match AQ H.ng pf f with
  |some (.func (.func g) xs ys)=>match C.fns.get g with
   |some fn=>match fn.body with
    |some body=>cond (A4 fn&&Nat.ble (xs.toList++ [Value.func (.yield (H.next+1)) #[] #[]]++ys.toList).length (2^T.deep)) (match Fs H (.deferred (some []))with
     |some H1=>match Fs H1 (.loop {state:= .ready,pending:=none,fn:=pf.fn,tmps:=(L9 pf.tmps pf.nt).toArray,params:=ps,assign:=a,body:=b,defers:=H.next})with
      |some H2=>some ⟨CN g fn body (xs.toList++ [Value.func (.yield (H.next+1)) #[] #[]]++ys.toList) .normal,pf.goD (.rf (H.next+1)::k) ⟨.collected H.next,#[]⟩::cs,H2,d⟩
      |none=>none
     |none=>none) none
    |none=>none
   |none=>none
  |_=>none
theorem Pa{C:CB}(hC:An C)(hb:main=true∨E.send≠none){pf:PF}{cs:List PF}{H:PH}{d:Nat}{f:Operand}{ps:Array Tmp}{a b:Code}{k:List Ab}(hm:pf.mode= .run)(hk:Ae pf.kind=true)(ht:pf.todo= .code (.rangeFunc f ps a b)::k){s':DS}
  (hp:Pb C pf cs H d f ps a b k=some s'):Reach C.P ty Post main E ⟨pf,cs,H,d⟩ s':=by
 unfold Pb at hp;split at hp
 ·cases hp
 ·rename_i Tg;split at hp
  ·rename_i g xs ys e1;split at hp
   ·rename_i fn e2;split at hp
    ·rename_i body e3;cases e4:A4 fn&&Nat.ble (xs.toList++ [Value.func (.yield (H.next+1)) #[] #[]]++ys.toList).length (2^T.deep)with
     |false=>rw[e4]at hp; cases hp
     |true =>
      rw[e4]at hp;simp only[AG]at hp;obtain⟨q1,q2⟩:=Bj.1 e4;have q2:=AH q2;split at hp
      ·rename_i H1 e5;split at hp
       ·rename_i H2 e6;simp only[AE]at hp;subst hp;have rP:H1.next=H.next+1:=by
         unfold Fs at e5;cases e:Nat.ble (H.next+1) (2^T.deep)with
         |false=>rw[e]at e5; cases e5
         |true=>rw[e]at e5; cases e5; rfl
        have hn2:H2.next=H1.next+1:=by
         unfold Fs at e6;cases e:Nat.ble (H1.next+1) (2^T.deep)with
         |false=>rw[e]at e6; cases e6
         |true=>rw[e]at e6; cases e6; rfl
        refine Reach.heap (s:=⟨pf,cs,H,d⟩) hb (by show H.next≤H2.next; omega) rfl fun E ρ c fr Kj pd pds w hf hc hH AO=> ?_;obtain⟨Dj,EI,A9⟩:=hf.Dl (by rw[ht]; rfl);have EI:LR (Ic ρ) pf.todo fr.todo:=EI;rw[ht]at EI;obtain⟨b',m,e,hi,E0⟩:=EI.cons_inv;cases hi;have I0:fr.roundOf=none:=by
         have:bK ρ pf.round fr.roundOf:=hf.round;rw[Tg]at this;generalize fr.roundOf=z at this;cases this; rfl
        let B1:RB:=⟨w.heap.size,0,0⟩
        let ρ1:=ρ.put H.next B1
        let w1:=World.grow w (.deferred (some []))
        obtain⟨DN,-,g1⟩:=hH.newObj e5 (o':= .deferred (some [])) .NW;have BY:=AO.grow (.deferred (some []));have hle1:ρ.le ρ1:=Ah.Ed hH.free
        let L':Loop:={state:= .ready,pending:=none,fn:=fr.fn,tmps:=fr.tmps,params:=ps,assign:=a,body:=b,defers:=w.heap.size}
        let B2:RB:=⟨w1.heap.size,0,0⟩
        let ρ2:=ρ1.put H1.next B2
        have Yo:ρ1.le ρ2:=Ah.Ed DN.free;have XE:ρ2 H.next=some B1:=Yo _ _ (Cy _ _ _);have wN:ρ2 (H.next+1)=some B2:=by rw[← rP]; exact Cy _ _ _
        have hle:ρ.le ρ2:=fun x X h=>Yo _ _ (hle1 _ _ h);have hfsz:fr.tmps.size=pf.nt:=hf.size;have EW:OR ρ2 (.loop {state:= .ready,pending:=none,fn:=pf.fn,tmps:=(L9 pf.tmps pf.nt).toArray,params:=ps,assign:=a,body:=b,defers:=H.next}) (.loop L') :=
         .loop rfl rfl hf.fn ⟨by show fr.tmps.size=_; rw[hfsz]; simp[L9],fun j v hj hh=>by
          obtain⟨z1,z2⟩:=Ue (by simpa using hj) hh;obtain⟨v',p1,p2⟩:=A9 j v z1;exact⟨v',p1,p2.mono hle⟩⟩ rfl rfl rfl ⟨B1,XE,rfl⟩
        obtain⟨fD,-,g2⟩:=DN.newObj e6 EW;have FA:=BY.grow (.loop L');have C6:=fQ A9 hH e1;generalize Gz:fr.eval f=u at C6;cases C6 with
        |func Gv Au Li =>
         rename_i NS xs' Ij;cases Gv
         let w2:=World.grow w1 (.loop L')
         refine⟨ρ2,_,_,w2,Frame.enter C.P g (xs'++ #[Value.func (.yield w1.heap.size) #[] #[]]++Ij) .normal,{fr with todo:= .inRangeFunc w1.heap.size::m,defers:=⟨.collected w.heap.size,#[]⟩::fr.defers}::Kj,[],pd++pds,#[],hle, ?_, ?_,by simp,fD,FA,Ca.trans (Ca.grow AO _) (Ca.grow BY _),BQ.nil _ _ _,fun e he=>by simp at he, ?_, ?_⟩
         ·refine Br.enter (hC.fns _ _ e2) e3 ?_ q2 .normal;have:=((Au.mono hle).append (.cons (.func (.yield wN) .nil .nil) .nil:CE ρ2 [Value.func (.yield (H.next+1)) #[] #[]] [Value.func (.yield w1.heap.size) #[] #[]])).append (Li.mono hle);simpa using this
         ·have Fx:=hf.mono hle;refine .cons ?_ (hc.mono hle);subst Dj;exact⟨Fx.fn,Fx.size,⟨_,.plain (.cons (.rf wN) (E0.mono fun _ _=>Ic.mono hle)),fun j v hj _=>by
           obtain⟨v',p1,p2⟩:=A9 j v hj;exact⟨v',p1,p2.mono hle⟩⟩,.cons (.mk (.collected XE) .nil) Fx.defers,Fx.mode,Fx.kind,Fx.round⟩
         ·exact L4.trans (hn':=H1.next) (L4.grow AO _ rfl (AN _)) (L4.grow BY _ rfl (AN _)) AO (by simp[World.grow]) (fun b hb=>hb.imp id fun e=>Nat.le_of_eq e.symm) (by show H.next≤H1.next; omega)
         ·have hr:=Br.run hf hm;have AT:(Instr.enterLoop fr.fn fr.tmps ps a b none).runT C.P w #[]=(.ok (w1.heap.size,[⟨.collected w.heap.size,#[]⟩]) w2,#[]):=rfl;have Hs:(fr.kind==CallKind.early)=false:=by
           have:fr.kind≠ .early:=by
            rw[hf.kind];intro e;have hk:Ae pf.kind=true:=hk;rw[e]at hk; cases hk
           simpa using this
          have IU:seen C.P fr.fn #[]= #[]:=by rw[seen_def]; rfl
          have hcf:=EA (P:=C.P) (w:=w2) (hC.fns _ _ e2) q1 (xs'++ #[Value.func (.yield w1.heap.size) #[] #[]]++Ij) #[];rw[show stepG C.P main (G fr (Kj++E.base)) w=stepG.exec C.P main true fr (Kj++E.base) none w by simp[stepG,G,hr]];unfold stepG.exec;simp only[e,I0,AT,IU]
          let ra:Frame:={fr with todo:= .inRangeFunc w1.heap.size::m,defers:=⟨.collected w.heap.size,#[]⟩::fr.defers,roundOf:=none}
          have NM:ra.eval f= .func (.func g) xs' Ij:=by
           rw[← Gz]; cases f<;>rfl
          have hinv:(do let dd ← resolve ra.eval {callee:= .value f,args:= #[.const (.func (.yield w1.heap.size) #[] #[])],argTypes:= #[]} 0; invoke dd.target dd.args:Sem Next)=callFunc g (xs'++ #[Value.func (.yield w1.heap.size) #[] #[]]++Ij):=by
           have WI:resolve ra.eval {callee:= .value f,args:= #[.const (.func (.yield w1.heap.size) #[] #[])],argTypes:= #[]} 0=pure {target:= .fn (.func g) Ij,args:=xs'++ #[Value.func (.yield w1.heap.size) #[] #[]]}:=by
            unfold resolve;simp only[NM,Deferred.ofValue];simp[Frame.eval]
           rw[WI];rfl
          have hX:=Wx (P:=C.P) (fr:=ra) (cs:=Kj++E.base) (it:= .inRangeFunc w1.heap.size) (m:=m) (w:=w2) (w':=w2) (f:=g) (args:=xs'++ #[Value.func (.yield w1.heap.size) #[] #[]]++Ij) (es:= #[]) (by simpa[ra]using Hs) rfl (fun _ _ _ _ e=>by cases e) ((congrArg (fun z=>Sem.runT C.P z w2 #[]) hinv).trans hcf);refine(congrArg (GStep.after #[]) hX).trans ?_;have iS:seen C.P ra.fn #[]= #[]:=IU;rw[iS];rfl
       ·cases hp
      ·cases hp
    ·cases hp
   ·cases hp
  ·cases hp
end
@[reducible] noncomputable def zA (L:Loop) (s:LoopState):Loop:=Loop.casesOn L fun _ p fn tm ps a b d=>⟨s,p,fn,tm,ps,a,b,d⟩
@[reducible] noncomputable def KU (L:Loop) (s:LoopState) (p:Option Code):Loop:=Loop.casesOn L fun _ _ fn tm ps a b d=>⟨s,p,fn,tm,ps,a,b,d⟩
section
variable{P:Program}{ty:TypeId}{E7:DD}{Post:Value→World→Prop}{main:Bool}{n:Nat}{E:Env}{ρ:Ah}{s s':DS}{c:Ctx}{g:Goroutine}{w:World}
theorem Reach.Ec(hb:main=true∨E.send≠none){l:Nat}{o o₁:Obj}(ho:s.H.t.get l=some (.obj o)){IC:PF}{cs':List PF}
  (Aq: ∀(E:Env) ρ c fr Kj pd pds w,Br ρ s.fr fr pd→Q8 ρ s.cs Kj pds→HR ρ s.H c w→CK c w→∃B,ρ l=some B∧∀o',w.heap[B.blk]? =some o'→OR ρ o o'→∃Ks JN JP JF Gy es,OR ρ o₁ Ks∧Br ρ IC JN JF∧Q8 ρ cs' JP Gy∧(JF++Gy).Sublist (pd++pds)∧
   (∀e∈es,e=A3 B.blk false false∨e=A3 B.blk true false)∧stepG P main (G fr (Kj++E.base)) w= .go (G JN (JP++E.base)) (World.Ec w B.blk Ks) (seen P fr.fn es)) :
  Reach P ty Post main E s ⟨IC,cs',s.H.Ho (s.H.t.set l (.obj o₁)),s.d⟩:=by
 refine Reach.heap hb (AN _) rfl fun E ρ c fr Kj pd pds w hf hc hH AO=> ?_;obtain⟨B,hB,h⟩:=Aq E ρ c fr Kj pd pds w hf hc hH AO;obtain⟨o',hw,aU,hM⟩:=hH.obj hB ho;obtain⟨Ks,JN,JP,JF,Gy,es,a1,a2,a3,a4,a5,a6⟩:=h o' hw aU;have Hf:=KH hw aU.Dr a1.Dr;refine⟨ρ,c.M,c.R,_,JN,JP,JF,Gy,es,.refl ρ,a2,a3,a4,hH.setObj hB ho a1,⟨fun x hx=>by rw[Hf.size]; exact AO.ml x hx,fun x hx=>by rw[Hf.size]; exact AO.rl x hx,AO.rm⟩,Hf.RZ AO hM,⟨fun e he a=> ?_,fun e he x hx=> ?_⟩,fun e he=> ?_,Hf.oT hB,a6⟩
 ·rcases a5 e he with rfl|rfl<;>simp[A3,MemAct.ofEvent]
 ·rcases a5 e he with rfl|rfl
  ·exact(HZ hM false false (by simp) _).2 _ (by simp) x hx
  ·exact(HZ hM true false (by simp) _).2 _ (by simp) x hx
 ·rcases a5 e he with rfl|rfl<;>exact⟨(fun e=>by cases e),(fun e=>by cases e)⟩
def bg(ps:List Tmp):List Value→T Value→T Value :=
 List.rec (motive:=fun _=>List Value→T Value→T Value) (fun _ t=>t) (fun p _ ih vs t=>match vs with| []=>t|v::vs=>ih vs (t.set p v)) ps
theorem LG: ∀{ps:List Tmp} {vs Of:List Value} {t:T Value} {a:Array Value} {n:Nat},CE ρ vs Of→(∀p∈ps,p<n)→n≤2^T.deep→a.size=n→(∀k v,t.get k=some v→∃v',a[k]? =some v'∧VR ρ v v')→
  ((ps.zip Of).foldl (fun tmps (x:Tmp×Value)=>tmps.setIfInBounds x.1 x.2) a).size=n∧∀k v,(bg ps vs t).get k=some v→∃v',((ps.zip Of).foldl (fun tmps (x:Tmp×Value)=>tmps.setIfInBounds x.1 x.2) a)[k]? =some v'∧VR ρ v v'
 | [],_,_,_,_,_,_,_,_,hs,h=>⟨hs,h⟩
 |p::ps,[],_,_,_,_,.nil,_,_,hs,h=>⟨hs,h⟩
 |p::ps,v::vs,v'::Of,t,a,n,.cons hv hl,hp,hn,hs,h=>by
  have ET: @LT.lt Nat _ p n:=hp p (by simp);have Dj: @LT.lt Nat _ p (2^T.deep):=AV ET hn;have hpa: @LT.lt Nat _ p a.size:=by rw[hs]; exact ET
  simp only[List.zip_cons_cons,List.foldl_cons];refine LG (t:=t.set p v) hl (fun q hq=>hp q (by simp[hq])) hn (by simpa using hs) fun k u hk=> ?_;rw[T.AW _ _ _ _ Dj]at hk;by_cases e:k=p
  ·subst e;rw[AD rfl]at hk;cases hk;exact⟨v',by rw[Bs hpa],hv⟩
  ·rw[AA e]at hk;obtain⟨u',h1,h2⟩:=h k u hk;exact⟨u',by rw[Bb (fun z=>e z.symm)]; exact h1,h2⟩
def LN(pf:PF)(H:PH)(c:Call):Option PF :=
 match c.callee with
 | .value f=>match AQ H.ng pf f with
  |some (.func (.yield l) xs _ys)=>match xs.toList with
   | []=>match Eh H.ng pf c.args.toList with
    |some vs=>match H.t.get l with
     |some (.obj (.loop L))=>cond (Nat.beq vs.length L.params.toList.length&&(L.params.toList.all (fun p=>Nat.blt p L.tmps.toList.length)&&Nat.ble L.tmps.toList.length (2^T.deep)))
      (some ⟨L.fn,bg L.params.toList vs (PB L.tmps.toList 0 .nil),L.tmps.toList.length,[.code L.assign,.br,.code L.body],[],.run,.normal,some l⟩) none
     |_=>none
    |none=>none
   |_=>none
  |_=>none
 |_=>none
theorem Sl(hb:main=true∨E.send≠none)(hm:s.fr.mode= .run){all:Array Oper}{i:Nat}{o:Oper}{l:List Oper}{k:List Ab}(ht:s.fr.todo= .ops all i (o::l)::k)(hk:s.fr.kind≠ .early)
  (hw:Aj s.fr all o=some true) {cl:Call} (ho:o.op= .call cl) {pf:PF} (hp:LN s.fr s.H cl=some pf):Reach P ty Post main E s ⟨pf,s.fr::s.cs,s.H,s.d⟩:=by
 obtain⟨callee,AAe,EY⟩:=cl;unfold LN at hp;simp only at hp;split at hp
 ·rename_i f;split at hp
  ·rename_i lp xs ys e1;split at hp
   ·rename_i e2;split at hp
    ·rename_i vs e3;split at hp
     ·rename_i L e4;cases e5:Nat.beq vs.length L.params.toList.length&&(L.params.toList.all (fun p=>Nat.blt p L.tmps.toList.length)&&Nat.ble L.tmps.toList.length (2^T.deep))with
      |false=>rw[e5]at hp; cases hp
      |true =>
       rw[e5]at hp;simp only[AG,AE]at hp;subst hp;simp only[AF]at e5;obtain⟨q1,q2,q3⟩:=e5;have q1:=AJ q1;have q3:=AH q3;have q2: ∀p∈L.params.toList,p<L.tmps.toList.length:=fun p hp=>AH (AX.1 q2 p hp);refine Reach.heap (s':=⟨_,_,_,_⟩) hb (AN _) rfl fun E ρ c fr Kj pd pds w hf hc hH AO=> ?_;obtain⟨Dj,hoa,A9,rest,m,e,E0,Ky⟩:=hf.ops ht;have C6:=CJ.of A9 hH o;have h1:=C6 f (by simp[ho,Op.operands,Call.operands]) _ e1;have h2:=DO C6 (fun z hz=>by rw[ho]; simp[Op.operands,Call.operands]at hz ⊢; exact .inr hz) e3;generalize Gz:fr.eval f=u at h1;cases h1 with
       |func Gv Au Li =>
        rename_i NS xs' Ij;cases Gv with
        |yield hB =>
         rename_i B;obtain⟨o',Kv,EW,hM⟩:=hH.obj hB e4;cases EW with
         |loop a1 a2 a3 a4 a5 a6 a7 a8 =>
          rename_i L';have nG:xs'= #[]:=by
           rw[e2]at Au;have:=Au.length;simp only[List.length_nil,FC]at this;exact Eo this.symm
          subst nG;have hlen:=h2.length;have Bp:(AAe.map fr.eval).size=L'.params.size:=by
           rw[a5];simp only[Array.size_map];have:AAe.size=(AAe.toList.map fr.eval).length:=by simp
           rw[this, ← hlen,q1];simp
          obtain⟨z1,z2⟩:=LG (ρ:=ρ) (ps:=L.params.toList) (t:=PB L.tmps.toList 0 .nil) (a:=L'.tmps) (n:=L.tmps.toList.length) h2 q2 q3 (by rw[a4.1]; simp) fun j v hj=>by
           rcases LC _ _ _ _ _ (by omega) hj with⟨-,x1,x2⟩|x1
           ·exact a4.2 j v (by simpa using x1) x2
           ·cases x1
          have BB:execOp fr.eval o=Instr.yield B.blk (AAe.map fr.eval):=by
           unfold execOp;rw[ho];simp only[resolve,Gz];show Instr.yield B.blk (#[]++AAe.map fr.eval)=_;rw[Array.empty_append]
          have AT:(execOp fr.eval o).runT P w #[]=(.ok (.round B.blk L'.fn ((L.params.toList.zip (AAe.toList.map fr.eval)).foldl (fun tmps (x:Tmp×Value)=>tmps.setIfInBounds x.1 x.2) L'.tmps) L'.assign L'.body) w,#[A3 B.blk false false]):=by
           rw[BB];unfold Instr.yield Instr.getLoop;refine(AB (s:=_) (a:=L') (w':=w) (es':= #[A3 B.blk false false]) ((AB (Da Kv rfl #[])).trans rfl)).trans ?_;rw[AA (by rw[Bp]; simp)];simp only[pure,Sem.runT];rw[← Array.foldl_toList,Array.toList_zip,a5];simp
          refine⟨ρ,c.M,c.R,w,Frame.round B.blk L'.fn ((L.params.toList.zip (AAe.toList.map fr.eval)).foldl (fun tmps (x:Tmp×Value)=>tmps.setIfInBounds x.1 x.2) L'.tmps) L'.assign L'.body .normal,fr::Kj,[],pd++pds,#[A3 B.blk false false],.refl ρ, ?_,.cons hf hc,by simp,hH,AO,Ca.refl AO,HZ hM false false (by simp) w,Vt _ _ _,L4.refl _ _ _ _, ?_⟩
          ·refine⟨a3,z1,⟨_,.plain (.cons ?_ (.cons .br (.cons ?_ .nil))),fun j v hj _=>z2 j v hj⟩,.nil,.run,rfl,.some hB⟩
           ·rw[a6]; exact .code _
           ·rw[a7]; exact .code _
          ·rw[D6 (Br.run hf hm) e hoa (BE (fun _ _ t v _ _ hv=>A9 t v hv) hw) (fun c hc=>by rw[ho]at hc; cases hc)];exact OK (by rw[hf.kind]; exact hk) AT
     ·cases hp
    ·cases hp
   ·cases hp
  ·cases hp
 ·cases hp
end
section
variable{P:Program}{ty:TypeId}{E7:DD}{Post:Value→World→Prop}{main:Bool}{n:Nat}{E:Env}{ρ:Ah}{s s':DS}{c:Ctx}{g:Goroutine}{w:World}
theorem Hw{b:Nat}{L:Loop}(h:w.heap[b]? =some (.loop L))(es:Array Event):(Instr.getLoop b).runT P w es=(.ok L w,es.push (A3 b false false)):=by
 unfold Instr.getLoop;exact(AB (Da h rfl es)).trans rfl
theorem OR.MZ{L:Loop}{o':Obj}(h:OR ρ (.loop L) o'): ∃L',o'= .loop L'∧L'.state=L.state∧L'.pending=L.pending∧∀st p,OR ρ (.loop (KU L st p)) (.loop {L' with state:=st,pending:=p}):=by
 cases h with
 |loop a1 a2 a3 a4 a5 a6 a7 a8=>exact⟨_,rfl,a1,a2,fun st p=> .loop rfl rfl a3 a4 a5 a6 a7 a8⟩
def Xp(pf:PF)(cs:List PF)(H:PH)(d:Nat)(k:List Ab):Option DS :=
 match pf.round with
 |none=>none
 |some l=>match H.t.get l with
  |some (.obj (.loop L))=>match L.state with
   | .ready=>some ⟨pf.go k,cs,H.Ho (H.t.set l (.obj (.loop (KU L .busy L.pending)))),d⟩
   |_=>none
  |_=>none
theorem S0(hb:main=true∨E.send≠none){pf:PF}{cs:List PF}{H:PH}{d:Nat}{k:List Ab}(hm:pf.mode= .run)(hk:Ae pf.kind=true)(ht:pf.todo= .br::k){s':DS}(hp:Xp pf cs H d k=some s'):Reach P ty Post main E ⟨pf,cs,H,d⟩ s':=by
 unfold Xp at hp;split at hp
 ·cases hp
 ·rename_i l Tg;split at hp
  ·rename_i L e1;split at hp
   ·rename_i e2;simp only[AE]at hp;subst hp;refine Reach.Ec (s:=⟨pf,cs,H,d⟩) hb e1 fun E ρ c fr Kj pd pds w hf hc hH AO=> ?_;have eB:bK ρ pf.round fr.roundOf:=hf.round;rw[Tg]at eB;generalize Ox:fr.roundOf=ro at eB;cases eB with
    |some hB =>
     rename_i B;refine⟨B,hB,fun o' Kv EW=> ?_⟩;obtain⟨L',rfl,b1,b2,b3⟩:=EW.MZ;obtain⟨Dj,EI,A9⟩:=hf.Dl (by rw[ht]; rfl);have EI:LR (Ic ρ) pf.todo fr.todo:=EI;rw[ht]at EI;obtain⟨b',m,e,hi,E0⟩:=EI.cons_inv;cases hi;subst Dj;refine⟨_,{fr with todo:=m},Kj,[],pds,#[A3 B.blk false false,A3 B.blk true false],b3 .busy L.pending,hf.with A9 E0,hc,by simp,by simp, ?_⟩;have hr:=Br.run hf hm;have Hs:fr.kind≠ .early:=by
      rw[hf.kind];intro e;have hk:Ae pf.kind=true:=hk;rw[e]at hk; cases hk
     have AT:(Instr.beginRound B.blk).runT P w #[]=(.ok () (World.Ec w B.blk (.loop {L' with state:= .busy})),#[A3 B.blk false false,A3 B.blk true false]):=by
      unfold Instr.beginRound;refine(AB (Hw Kv #[])).trans ?_;refine(AB (C5 Kv rfl _)).trans ?_;rw[b1,e2];rfl
     have Gl:(do Instr.beginRound B.blk; pure .skip:Sem Next).runT P w #[]=(.ok .skip (World.Ec w B.blk (.loop {L' with state:= .busy})),#[A3 B.blk false false,A3 B.blk true false]):=(AB AT).trans rfl;have Aq:stepG P main (G fr (Kj++E.base)) w=stepG.apply P true fr (Kj++E.base) none (do Instr.beginRound B.blk; pure .skip) w:=by
      rw[show stepG P main (G fr (Kj++E.base)) w=stepG.exec P main true fr (Kj++E.base) none w by simp[stepG,G,hr]];unfold stepG.exec;simp only[e,Ox];rfl
     rw[Aq,ZA Hs Gl];have RV:fr.finish undef={fr with todo:=m}:=by simp only[Frame.finish,e]
     rw[RV, ← b2]
   ·cases hp
  ·cases hp
theorem LR.Kb{id:Nat}: ∀{k:List Ab} {m:List Item},LR (Ic ρ) k m→MR id k=none→exitTo id m=none
 |_,_,.nil,_=>rfl
 |a::k,b::m,.cons fB ht,h=>by
  cases fB with
  |inBlock xP =>
   simp only[MR,exitTo]at h ⊢;split at h
   ·cases h
   ·rename_i e;rw[AA e];exact LR.Kb ht h
  |_ =>
   have h':MR id k=none:=h;exact(LR.Kb ht h':exitTo id m=none)
def ZR:List Ab→Option (Option Code)
 | []=>some none
 | .code .ret::_=>some (some .ret)
 | .code (.exit id)::k=>match MR id k with
  |none=>some (some (.exit id))
  |some _=>none
 |_=>none
def BJ:Option Code→Bool
 |none=>true
 |some _=>false
def Xg(pf:PF)(cs:List PF)(H:PH)(d:Nat):Option DS :=
 match pf.round with
 |none=>none
 |some l=>match pf.kind with
  | .normal=>match ZR pf.todo with
   |none=>none
   |some j=>match H.t.get l with
    |some (.obj (.loop L))=>match cs with
     | []=>none
     |pc::cs'=>match pc.todo with
      | .ops all i (o::rest)::k=>match By pc o.dst (.bool (BJ j))with
       |some tm=>some ⟨pc.up tm (.ops all (i+1) rest::k),cs',H.Ho (H.t.set l (.obj (.loop (KU L (cond (BJ j) .ready .done) j)))),d⟩
       |none=>none
      |_=>none
    |_=>none
  |_=>none
theorem St(hb:main=true∨E.send≠none){pf:PF}{cs:List PF}{H:PH}{d:Nat}(hm:pf.mode= .run){s':DS}(hp:Xg pf cs H d=some s'):Reach P ty Post main E ⟨pf,cs,H,d⟩ s':=by
 unfold Xg at hp;split at hp
 ·cases hp
 ·rename_i l Tg;split at hp
  ·rename_i XC;split at hp
   ·cases hp
   ·rename_i j ej;split at hp
    ·rename_i L e1;split at hp
     ·cases hp
     ·rename_i pc cs';split at hp
      ·rename_i all i o rest k et;split at hp
       ·rename_i tm e3;simp only[AE]at hp;subst hp;refine Reach.Ec (s:=⟨pf,pc::cs',H,d⟩) hb e1 fun E ρ c fr Kj pd pds w hf hc hH AO=> ?_;have eB:bK ρ pf.round fr.roundOf:=hf.round;rw[Tg]at eB;generalize Ox:fr.roundOf=ro at eB;cases eB with
        |some hB =>
         rename_i B;refine⟨B,hB,fun o' Kv EW=> ?_⟩;obtain⟨L',rfl,b1,b2,b3⟩:=EW.MZ;have nV:At pf.todo=true:=by
          cases JG:pf.todo with
          |nil=>rfl
          |cons it k' =>
           rw[JG]at ej;cases it<;>first|rfl|cases ej
         obtain⟨Dj,EI,A9⟩:=hf.Dl nV;have EI:LR (Ic ρ) pf.todo fr.todo:=EI;cases hc with
         |cons E1 Oc =>
          rename_i B4 BD Xm LW;have Ff:=E1.put et e3 (v':= .bool (BJ j)) (.bool _);have eD:=(E1.ops et).1;subst Dj eD;refine⟨_,B4.finish (.bool (BJ j)),BD,[],LW,#[A3 B.blk false false,A3 B.blk true false],b3 _ j,Ff,Oc,by simp,by simp, ?_⟩;have hr:=Br.run hf hm;have hjb:j.isNone=BJ j:=by cases j<;>rfl
          have AT:(Instr.endRound B.blk j).runT P w #[]=(.ok (.bool (BJ j)) (World.Ec w B.blk (.loop {L' with state:=cond (BJ j) .ready .done,pending:=j})),#[A3 B.blk false false,A3 B.blk true false]):=by
           unfold Instr.endRound;refine(AB (Hw Kv #[])).trans ?_;refine(AB (C5 Kv rfl _)).trans ?_;rw[hjb];cases BJ j<;>rfl
          have WR:doReturn P main fr ((B4::BD)++E.base) none (.bool (BJ j)) (World.Ec w B.blk (.loop {L' with state:=cond (BJ j) .ready .done,pending:=j}))= .go (G (B4.finish (.bool (BJ j))) (BD++E.base)) (World.Ec w B.blk (.loop {L' with state:=cond (BJ j) .ready .done,pending:=j})):=by
           have KZ:fr.kind= .normal:=by rw[hf.kind]; exact XC
           simp[doReturn,KZ,G]
          have Aq:stepG P main (G fr ((B4::BD)++E.base)) w=(doReturn P main fr ((B4::BD)++E.base) none (.bool (BJ j)) (World.Ec w B.blk (.loop {L' with state:=cond (BJ j) .ready .done,pending:=j}))).after (seen P fr.fn #[A3 B.blk false false,A3 B.blk true false]):=by
           rw[show stepG P main (G fr ((B4::BD)++E.base)) w=stepG.exec P main true fr ((B4::BD)++E.base) none w by simp[stepG,G,hr]];unfold stepG.exec;generalize JG:pf.todo=td at ej EI;cases td with
           |nil =>
            cases ej;have e:=EI.Co;simp only[e,Ox,AT]
           |cons it k' =>
            obtain⟨b',m,e,hi,E0⟩:=EI.cons_inv;cases hi with
            |code cd =>
             cases cd with
             |ret =>
              cases ej;simp only[e,Ox,AT]
             |exit id =>
              simp only[ZR]at ej;split at ej
              ·rename_i ex;cases ej;have hx:=LR.Kb E0 ex;simp only[e,Ox,hx,Option.elim,AT]
              ·cases ej
             |_=>cases ej
            |_=>cases ej
          rw[Aq,WR,FB,DF]
       ·cases hp
      ·cases hp
    ·cases hp
  ·cases hp
end
section
variable{P:Program}{ty:TypeId}{E7:DD}{Post:Value→World→Prop}{main:Bool}{n:Nat}{E:Env}{ρ:Ah}{s s':DS}{c:Ctx}{g:Goroutine}{w:World}
theorem Reach.bw(A7:A8 P E7)(hb:main=true∨E.send≠none)(hm:s.fr.mode= .returning)(G2:s.fr.defers= [])(JG:At s.fr.todo=true)(hk:s.fr.kind= .normal){fn:Func}(hf:P.funcs[s.fr.fn]? =some fn){vs:List Value}(hv:Db E7 s.H s.fr.tmps fn.results.toList=some vs)
  {pf:PF} {cs':List PF} (NN:s.cs=pf::cs') {l:Nat} {k:List Ab} (ht:pf.todo= .rf l::k) :
  Reach P ty Post main E s {s with fr:={pf with todo:= .fR l::k},cs:=cs'}:=by
 refine Reach.J6 hb fun E ρ c fr cs pd pds w Ff hc hH AO=> ?_;rw[NN]at hc;cases hc with
 |cons E1 Oc =>
  rename_i B4 BD Xm LW;obtain⟨Dj,_,A9⟩:=Ff.Dl JG;obtain⟨v',ev,q1,q2,q3⟩:=Es (P:=P) A7 hH A9 hv;have Dp:fr.mode= .returning:=by
   have:=Ff.mode;rw[hm]at this;generalize fr.mode=b at this;cases this; rfl
  have I1:fr.defers= []:=by
   have:=Ff.defers;rw[G2]at this;exact this.Co
  obtain⟨eD,vG,z9⟩:=E1.Dl (by rw[ht]; rfl);rw[ht]at vG;obtain⟨b',m,e,hi,E0⟩:=vG.cons_inv;cases hi with
  |rf hB =>
   rename_i B;subst Dj eD;have Aq:=Er (P:=P) (main:=main) (cs:=(B4::BD)++E.base) Dp I1 (by rw[Ff.fn]; exact hf) q3;have RV:B4.finish v'={B4 with todo:= .endRangeFunc B.blk::m}:=by simp only[Frame.finish,e]
   have WR:doReturn P main fr ((B4::BD)++E.base) none v' w= .go (G {B4 with todo:= .endRangeFunc B.blk::m} (BD++E.base)) w:=by
    have KZ:fr.kind= .normal:=by rw[Ff.kind]; exact hk
    simp[doReturn,KZ,G,RV]
   rw[WR,FB,DF]at Aq;exact⟨_,BD,[],LW,ev,E1.with z9 (.cons (.fR hB) E0),Oc,by simp,q2,Aq⟩
def R4:Option Code→List Ab
 |none=> []
 |some c=> [.code c]
def Pu(pf:PF)(cs:List PF)(H:PH)(d:Nat)(l:Nat)(k:List Ab):Option DS :=
 match H.t.get l with
 |some (.obj (.loop L))=>match L.state with
  | .busy=>none
  |_=>some ⟨pf.go (R4 L.pending++k),cs,H.Ho (H.t.set l (.obj (.loop (KU L .exhausted L.pending)))),d⟩
 |_=>none
theorem Pt(hb:main=true∨E.send≠none){pf:PF}{cs:List PF}{H:PH}{d:Nat}{l:Nat}{k:List Ab}(hm:pf.mode= .run)(ht:pf.todo= .fR l::k){s':DS}(hp:Pu pf cs H d l k=some s'):Reach P ty Post main E ⟨pf,cs,H,d⟩ s':=by
 unfold Pu at hp;split at hp
 ·rename_i L e1;have wD:L.state≠ .busy∧some (⟨pf.go (R4 L.pending++k),cs,H.Ho (H.t.set l (.obj (.loop (KU L .exhausted L.pending)))),d⟩:DS)=some s':=by
   split at hp
   ·cases hp
   ·rename_i BK;exact⟨BK,hp⟩
  obtain⟨BK,hp⟩:=wD;simp only[AE]at hp;subst hp;refine Reach.Ec (s:=⟨pf,cs,H,d⟩) hb e1 fun E ρ c fr Kj pd pds w hf hc hH AO=> ?_;obtain⟨Dj,EI,A9⟩:=hf.Dl (by rw[ht]; rfl);have EI:LR (Ic ρ) pf.todo fr.todo:=EI;rw[ht]at EI;obtain⟨b',m,e,hi,E0⟩:=EI.cons_inv;cases hi with
  |fR hB =>
   rename_i B;refine⟨B,hB,fun o' Kv EW=> ?_⟩;obtain⟨L',rfl,b1,b2,b3⟩:=EW.MZ;subst Dj;have hr:=Br.run hf hm;have hbf:(L'.state==LoopState.busy)=false:=by
    rw[b1];cases hs:L.state<;>first|rfl|exact absurd hs BK
   have AT:(Instr.endLoop B.blk).runT P w #[]=(.ok L'.pending (World.Ec w B.blk (.loop {L' with state:= .exhausted})),#[A3 B.blk false false,A3 B.blk true false]):=by
    unfold Instr.endLoop;refine(AB (Hw Kv #[])).trans ?_;simp only[hbf];refine(AB (C5 Kv rfl _)).trans ?_;rfl
   refine⟨.loop {L' with state:= .exhausted},{fr with todo:=(L'.pending.map Item.code).toList++m},Kj,[],pds,#[A3 B.blk false false,A3 B.blk true false],by rw[← b2]; exact b3 .exhausted _,hf.with A9 ?_,hc,by simp,by simp, ?_⟩
   ·rw[b2];cases L.pending with
    |none=>exact E0
    |some cd=>exact .cons (.code cd) E0
   ·rw[show stepG P main (G fr (Kj++E.base)) w=stepG.exec P main true fr (Kj++E.base) none w by simp[stepG,G,hr]];unfold stepG.exec;simp only[e,AT];rw[show ∀(es:Array Event) (g:Goroutine) (w:World),(GStep.go g w).after es= .go g w (es++ #[])from fun _ _ _=>rfl,DF];rfl
 ·cases hp
def MS(pf:PF)(cs:List PF)(H:PH)(d:Nat)(r:Nat)(ds:List Deferred):Option DS :=
 match H.t.get r with
 |some (.obj (.deferred (some [])))=>some ⟨pf.OO ds,cs,H.Ho (H.t.set r (.obj (.deferred none))),d⟩
 |_=>none
theorem Jp(hb:main=true∨E.send≠none){pf:PF}{cs:List PF}{H:PH}{d:Nat}{r:Nat}{AAe:Array Value}{ds:List Deferred}(hm:pf.mode≠ .run)(hd:pf.defers=⟨.collected r,AAe⟩::ds){s':DS}(hp:MS pf cs H d r ds=some s'):Reach P ty Post main E ⟨pf,cs,H,d⟩ s':=by
 unfold MS at hp;split at hp
 ·rename_i e1;simp only[AE]at hp;subst hp;refine Reach.Ec (s:=⟨pf,cs,H,d⟩) hb e1 fun E ρ c fr Kj pd pds w hf hc hH AO=> ?_;have G2:=hf.defers;have G2:LR (SN ρ) pf.defers fr.defers:=G2;rw[hd]at G2;obtain⟨d',XG,e2,IX,Ys⟩:=G2.cons_inv;cases IX with
  |mk Zl hx =>
   cases Zl with
   |collected hB =>
    rename_i B;refine⟨B,hB,fun o' Kv EW=> ?_⟩;cases EW;refine⟨.deferred none,{fr with defers:=XG},Kj,pd,pds,#[A3 B.blk false false,A3 B.blk true false],.NV,hf.IG Ys,hc,List.Sublist.refl _,by simp, ?_⟩;have AT:(Instr.takeDeferred B.blk).runT P w #[]=(.ok [] (World.Ec w B.blk (.deferred none)),#[A3 B.blk false false,A3 B.blk true false]):=by
     unfold Instr.takeDeferred;refine(AB (Da Kv rfl #[])).trans ?_;refine(AB (C5 Kv rfl _)).trans ?_;rfl
    rw[DZ (hf.mode.La hm)];unfold unwind;simp only[e2,AT];rw[show ∀(es:Array Event) (g:Goroutine) (w:World),(GStep.go g w).after es= .go g w (es++ #[])from fun _ _ _=>rfl,DF];rfl
 ·cases hp
def NU(C:CB)(s:DS):Option DS :=
 match s with
 |⟨fr,cs,H,d⟩=>match fr.mode with
  | .run=>match fr.todo with
   | .ops all i (o::l)::k=>cond (Ae fr.kind) (match FD C fr cs H d all i o l k with
    |some s'=>some s'
    |none=>match Aj fr all o with
     |some true=>match o.op with
      | .call c=>match LN fr H c with
       |some pf=>some ⟨pf,fr::cs,H,d⟩
       |none=>none
      |_=>none
     |_=>none) none
   | .code (.rangeFunc f ps a b)::k=>cond (Ae fr.kind) (Pb C fr cs H d f ps a b k) none
   | .br::k=>cond (Ae fr.kind) (Xp fr cs H d k) none
   | .fR l::k=>Pu fr cs H d l k
   |_=>match Ql C ⟨fr,cs,H,d⟩with
    |some s'=>some s'
    |none=>Xg fr cs H d
  | .returning=>match fr.defers with
   |⟨.collected r,_⟩::ds=>MS fr cs H d r ds
   | []=>match cs with
    | []=>none
    |pc::cs'=>match pc.todo with
     | .rf l::k=>match fr.kind with
      | .normal=>cond (At fr.todo) (match C.fns.get fr.fn with
       |some fn=>match Db C.ty H fr.tmps fn.results.toList with
        |some _=>some ⟨pc.go (.fR l::k),cs',H,d⟩
        |none=>none
       |none=>none) none
      |_=>none
     |_=>KG C fr cs H d
   |_=>KG C fr cs H d
  | .panicking _=>match fr.defers with
   |⟨.collected r,_⟩::ds=>MS fr cs H d r ds
   |_=>KG C fr cs H d
theorem Tz{C:CB}(hC:An C)(hb:main=true∨E.send≠none){s s':DS}(hp:NU C s=some s'):Reach C.P ty Post main E s s':=by
 obtain⟨fr,cs,H,d⟩:=s;unfold NU at hp;simp only at hp;split at hp
 ·rename_i hm;split at hp
  ·rename_i all i o l k ht;cases hk:Ae fr.kind with
   |false=>rw[hk]at hp; cases hp
   |true =>
    rw[hk]at hp;simp only[AG]at hp;split at hp
    ·rename_i gL e1;cases hp;exact Kl hC hb hm hk ht e1
    ·split at hp
     ·rename_i hw;split at hp
      ·rename_i cl eo;split at hp
       ·rename_i pf e2;cases hp;exact Sl (s:=⟨fr,cs,H,d⟩) hb hm ht (fun e=>by rw[e]at hk; cases hk) hw eo e2
       ·cases hp
      ·cases hp
     ·cases hp
  ·rename_i f ps a b k ht;cases hk:Ae fr.kind with
   |false=>rw[hk]at hp; cases hp
   |true =>
    rw[hk]at hp;exact Pa hC hb hm hk ht hp
  ·rename_i k ht;cases hk:Ae fr.kind with
   |false=>rw[hk]at hp; cases hp
   |true =>
    rw[hk]at hp;exact S0 hb hm hk ht hp
  ·rename_i l k ht;exact Pt hb hm ht hp
  ·split at hp
   ·rename_i gL e1;cases hp;exact OC hC hb e1
   ·exact St hb hm hp
 ·rename_i hm;have R6:fr.mode≠ .run:=fun e=>by rw[hm]at e; cases e
  split at hp
  ·rename_i r AAe ds ed;exact Jp hb R6 ed hp
  ·rename_i ed;split at hp
   ·cases hp
   ·rename_i pc cs';split at hp
    ·rename_i l k et;split at hp
     ·rename_i ek;cases jF:At fr.todo with
      |false=>rw[jF]at hp; cases hp
      |true =>
       rw[jF]at hp;simp only[AG]at hp;split at hp
       ·rename_i fn e1;split at hp
        ·rename_i vs e2;cases hp;exact Reach.bw (s:=⟨fr,pc::cs',H,d⟩) hC.ty hb hm ed jF ek (hC.fns _ _ e1) e2 rfl et
        ·cases hp
       ·cases hp
     ·cases hp
    ·exact GW hC hb R6 hp
  ·exact GW hC hb R6 hp
 ·rename_i l hm;have R6:fr.mode≠ .run:=fun e=>by rw[hm]at e; cases e
  split at hp
  ·rename_i r AAe ds ed;exact Jp hb R6 ed hp
  ·exact GW hC hb R6 hp
end
section
variable{P:Program}{ty:TypeId}{E7:DD}{Post:Value→World→Prop}{main:Bool}{n:Nat}{E:Env}{ρ:Ah}{s s':DS}{c:Ctx}{g:Goroutine}{w:World}
theorem Xb{pf:PF}{H:PH}{fr:Frame}{o:Oper}{cl:Call}(ho:o.op= .call cl){BU:PF}(hp:LN pf H cl=some BU)(C6:CJ H.ng ρ pf fr o)(hH:HR ρ H c w) :
  ∃(b:Nat) (f:FuncId) (sH:Array Value) (a bd:Code),(execOp fr.eval o).runT P w #[]=(.ok (.round b f sH a bd) w,#[A3 b false false])∧Br ρ BU (Frame.round b f sH a bd .normal) []∧c.M b:=by
 obtain⟨callee,AAe,EY⟩:=cl;unfold LN at hp;simp only at hp;split at hp
 ·rename_i f;split at hp
  ·rename_i lp xs ys e1;split at hp
   ·rename_i e2;split at hp
    ·rename_i vs e3;split at hp
     ·rename_i L e4;cases e5:Nat.beq vs.length L.params.toList.length&&(L.params.toList.all (fun p=>Nat.blt p L.tmps.toList.length)&&Nat.ble L.tmps.toList.length (2^T.deep))with
      |false=>rw[e5]at hp; cases hp
      |true =>
       rw[e5]at hp;simp only[AG,AE]at hp;subst hp;simp only[AF]at e5;obtain⟨q1,q2,q3⟩:=e5;have q1:=AJ q1;have q3:=AH q3;have q2: ∀p∈L.params.toList,p<L.tmps.toList.length:=fun p hp=>AH (AX.1 q2 p hp);have h1:=C6 f (by simp[ho,Op.operands,Call.operands]) _ e1;have h2:=DO C6 (fun z hz=>by rw[ho]; simp[Op.operands,Call.operands]at hz ⊢; exact .inr hz) e3;generalize Gz:fr.eval f=u at h1;cases h1 with
       |func Gv Au Li =>
        rename_i NS xs' Ij;cases Gv with
        |yield hB =>
         rename_i B;obtain⟨o',Kv,EW,hM⟩:=hH.obj hB e4;cases EW with
         |loop a1 a2 a3 a4 a5 a6 a7 a8 =>
          rename_i L';have nG:xs'= #[]:=by
           rw[e2]at Au;have:=Au.length;simp only[List.length_nil,FC]at this;exact Eo this.symm
          subst nG;have hlen:=h2.length;have Bp:(AAe.map fr.eval).size=L'.params.size:=by
           rw[a5];simp only[Array.size_map];have:AAe.size=(AAe.toList.map fr.eval).length:=by simp
           rw[this, ← hlen,q1];simp
          obtain⟨z1,z2⟩:=LG (ρ:=ρ) (ps:=L.params.toList) (t:=PB L.tmps.toList 0 .nil) (a:=L'.tmps) (n:=L.tmps.toList.length) h2 q2 q3 (by rw[a4.1]; simp) fun j v hj=>by
           rcases LC _ _ _ _ _ (by omega) hj with⟨-,x1,x2⟩|x1
           ·exact a4.2 j v (by simpa using x1) x2
           ·cases x1
          have BB:execOp fr.eval o=Instr.yield B.blk (AAe.map fr.eval):=by
           unfold execOp;rw[ho];simp only[resolve,Gz];show Instr.yield B.blk (#[]++AAe.map fr.eval)=_;rw[Array.empty_append]
          have AT:(execOp fr.eval o).runT P w #[]=(.ok (.round B.blk L'.fn ((L.params.toList.zip (AAe.toList.map fr.eval)).foldl (fun tmps (x:Tmp×Value)=>tmps.setIfInBounds x.1 x.2) L'.tmps) L'.assign L'.body) w,#[A3 B.blk false false]):=by
           rw[BB];unfold Instr.yield Instr.getLoop;refine(AB (s:=_) (a:=L') (w':=w) (es':= #[A3 B.blk false false]) ((AB (Da Kv rfl #[])).trans rfl)).trans ?_;rw[AA (by rw[Bp]; simp)];simp only[pure,Sem.runT];rw[← Array.foldl_toList,Array.toList_zip,a5];simp
          refine⟨B.blk,_,_,_,_,AT,⟨a3,z1,⟨_,.plain (.cons ?_ (.cons .br (.cons ?_ .nil))),fun j v hj _=>z2 j v hj⟩,.nil,.run,rfl,.some hB⟩,hM⟩
          ·rw[a6]; exact .code _
          ·rw[a7]; exact .code _
     ·cases hp
    ·cases hp
   ·cases hp
  ·cases hp
 ·cases hp
theorem Reach.ab(hb:main=true∨E.send≠none)(hm:s.fr.mode= .run)(Hs:s.fr.kind≠ .early){all:Array Oper}{fs es:List Nat}{e:Nat}{k:List Ab}(ht:s.fr.todo= .CH all fs (e::es)::k)(KY:Cr all=true)(Hh:chained (Region.before all) e es=true)(Tl: ∀i∈fs,IQ all i=false)(RU: ∀i∈fs,i∉e::es→lJ P s all i)
  {o:Oper} (oB:e∉fs) (ho:all[e]? =some o) {cl:Call} (A5:o.op= .call cl) (hw:Aj s.fr all o=some true) {BU:PF} (hp:LN s.fr s.H cl=some BU) :
  Reach P ty Post main E s {s with fr:=BU,cs:={s.fr with todo:= .dcall all (behind (Region.before all) e fs) e es::k}::s.cs}:=by
 refine Reach.It hb hm Hs ht KY Tl RU fun E hb n hn ρ c fr cs w L m h hL hh=> ?_;cases h with
 |mk D8 hc D7 ET hH AO Dx g1 g2 g3 Bv =>
  rename_i cs pd pds;obtain⟨l,X,rfl,E0,Gz,h1,h2,h3,hX,Dj,A9⟩:=UG D8 ht Hh hL hh;have look: ∀t∈looksAt all o,¬X t:=fun t dv hx=>by
   obtain⟨q,q1,q2,q3⟩:=(hX t).1 hx;exact Ka KY ho Gz dv q q1 (Tl q q2) q3
  have hr:=Br.run D8 hm;refine W.GA rfl (hb.imp id fun e=>by rw[g1]; exact e) fun w₁ r=> ?_;have DN:=hH.rely r;have BY:=AO.rely r;obtain⟨b,f,sH,a,bd,AT,Ff,hM⟩:=Xb (P:=P) A5 hp (CJ.look A9 DN look) DN;have Aq:stepG P main (G fr (cs++E.base)) w₁= .go (G (Frame.round b f sH a bd .normal) (fr::cs++E.base)) w₁ (seen P fr.fn #[A3 b false false]):=by
   rw[D6 hr hL ho (FP A9 look hw) (fun c hc=>by rw[A5]at hc; cases hc)];exact OK (by rw[D8.kind]; exact Hs) AT
  have Ch:=EH P fr.fn #[A3 b false false];have eX:deafBehind c.d (seen P fr.fn #[A3 b false false])=c.d:=Cl _ _ fun e he=>Vt _ _ _ e (Ch e he);refine⟨_,w₁,_,c.M,c.R,Aq,rfl,Ca.refl BY,(HZ hM false false (by simp) w₁).sub Ch, ?_⟩;rw[eX];have NM:=Gz;cases Gz with
  |cons ha iW tl =>
   have DJ: ∀q∈l,(q∈fs↔q∈behind (Region.before all) e fs):=fun q hq=>by
    unfold behind;rw[B8];simp[ha q hq]
   have He:Ao s.fr.tmps all fs l=Ao s.fr.tmps all (behind (Region.before all) e fs) l:=Dc fun i hi=>⟨DJ i hi,fun _=>rfl⟩;have Yq:Br ρ {s.fr with todo:= .dcall all (behind (Region.before all) e fs) e es::k} fr (Ao s.fr.tmps all (behind (Region.before all) e fs) l):=by
    refine⟨D8.fn,D8.size,⟨fun t=> ∃q∈l,q∈behind (Region.before all) e fs∧CY all q=some t,by rw[hL]; exact .dcall E0 NM h1 (fun i hi=>(h2 i hi).imp (DJ i hi).1 id) h3,fun k' u CP hx=> ?_⟩,D8.defers,D8.mode,D8.kind,D8.round⟩;refine A9 k' u CP fun Hp=> ?_;obtain⟨q,q1,q2,q3⟩:=(hX k').1 Hp;rcases AZ.1 q1 with rfl|q1
    ·exact oB q2
    ·exact hx ⟨q,q1,(DJ q q1).1 q2,q3⟩
   have Oz:DR E ρ {s with fr:=BU,cs:={s.fr with todo:= .dcall all (behind (Region.before all) e fs) e es::k}::s.cs} c (G (Frame.round b f sH a bd .normal) (fr::cs++E.base)) w₁:=by
    have Ch:(Ao s.fr.tmps all (behind (Region.before all) e fs) l++pds).Sublist (pd++pds):=by
     rw[← He,Dj];exact List.Sublist.append LV (.refl _)
    exact .mk Ff (.cons Yq hc) (by simpa using D7.sublist Ch) (fun b hb=>ET b (Ch.subset (by simpa using hb))) DN BY Dx g1 g2 g3 (Bv.rely r)
   exact hn ρ c _ w₁ Oz
theorem Br.sY{pf:PF}{fr:Frame}{pd:List Nat}(h:Br ρ pf fr pd){all:Array Oper}{fs es:List Nat}{e:Nat}{k:List Ab}(ht:pf.todo= .dcall all fs e es::k){l:List Nat}{m:List Item}(hL:fr.todo= .inRegion all (e::l)::m):pd=Ao pf.tmps all fs l:=by
 obtain⟨X,EI,_⟩:=h.todo;rw[ht,hL]at EI;cases EI with
 |plain hk =>
  obtain⟨b,m',_,hi,_⟩:=hk.cons_inv;cases hi
 |dcall E0 Gz h1 h2 h3=>rfl
theorem Br.N8{pf:PF}{B4:Frame}{Xm:List Nat}(E1:Br ρ pf B4 Xm){all:Array Oper}{fs es:List Nat}{e:Nat}{k:List Ab}(ht:pf.todo= .dcall all fs e es::k)(KY:Cr all=true){o:Oper}(ho:all[e]? =some o){v v':Value}{tm:T Value}(hp:By pf o.dst v=some tm)(hv:VR ρ v v') :
  Br ρ {pf with tmps:=tm,todo:= .CH all (behind (Region.before all) e fs) es::k} (B4.finish v') Xm:=by
  obtain⟨X,EI,rK⟩:=E1.todo;rw[ht]at EI;generalize bH:B4.todo=ct at EI;cases EI with
  |plain hk =>
   obtain⟨b,m',_,hi,_⟩:=hk.cons_inv;cases hi
  |dcall E0 Gz h1 h2 h3 =>
   rename_i m l;have NM:=Gz;obtain⟨p1,p2,p3,p4⟩:=QX (X:=fun t=> ∃q∈e::l,q∈fs.filter (fun q=> !Nat.beq q e)∧CY all q=some t) (fs:=fs.filter (fun q=> !Nat.beq q e)) KY ho Gz h1 (fun i hi=>by
    rcases h2 i hi with q|q
    ·refine .inl (B8.2 ⟨q, ?_⟩);cases NM with
     |cons ha hn tl =>
      have:i≠e:=fun h=>hn (h ▸hi);rw[beq_eq]; simpa using this
    ·exact .inr q) (fun t=>Iff.rfl) E1.size (fun k' u CP hx=>rK k' u CP fun⟨i,i1,i2,i3⟩=>hx ⟨i,by simp[i1],B8.2 ⟨i2,by
     cases NM with
     |cons ha hn tl =>
      have:i≠e:=fun h=>hn (h ▸i1);rw[beq_eq]; simpa using this⟩,i3⟩) hp hv
   cases Gz with
   |cons ha hn tl =>
    have BK: ∀i∈l,i≠e:=fun i hi h=>hn (h ▸hi);have nq: ∀i∈l,(i∈behind (Region.before all) e (fs.filter (fun q=> !Nat.beq q e))↔i∈behind (Region.before all) e fs):=fun i hi=>by
     unfold behind;rw[B8,B8,B8];have:(!Nat.beq i e)=true:=by rw[beq_eq]; simpa using BK i hi
     simp[this]
    have kB:Ao tm all (behind (Region.before all) e fs) l=Ao pf.tmps all fs l:=by
     refine Eq.trans (Dc fun i hi=>⟨(nq i hi).symm,fun _=>rfl⟩) (p3.trans (Dc fun i hi=>⟨?_,fun _=>rfl⟩));rw[B8];have:(!Nat.beq i e)=true:=by rw[beq_eq]; simpa using BK i hi
     simp[this]
    rw[BV bH ho, ← kB];exact⟨E1.fn,p1,⟨_,.CH E0 tl h1 (fun i hi=>(p2 i hi).imp (nq i hi).1 id) (fun i hi=>h3 i (by simp[hi])),fun k' u CP hx=>p4 k' u CP fun⟨i,i1,i2,i3⟩=>hx ⟨i,i1,(nq i i1).1 i2,i3⟩⟩,E1.defers,E1.mode,E1.kind,E1.round⟩
def Su(pf:PF)(cs:List PF)(H:PH)(d:Nat):Option DS :=
 match pf.round with
 |none=>none
 |some l=>match pf.kind with
  | .normal=>match ZR pf.todo with
   |none=>none
   |some j=>match H.t.get l with
    |some (.obj (.loop L))=>match cs with
     | []=>none
     |pc::cs'=>match pc.todo with
      | .dcall all fs e es::k=>match all.toList[e]? with
       |some o=>match By pc o.dst (.bool (BJ j))with
        |some tm=>cond (Cr all) (some ⟨pc.up tm (.CH all (behind (Region.before all) e fs) es::k),cs',H.Ho (H.t.set l (.obj (.loop (KU L (cond (BJ j) .ready .done) j)))),d⟩) none
        |none=>none
       |none=>none
      |_=>none
    |_=>none
  |_=>none
theorem hI{b:Bool}{x y:DS}(h:cond b (some x) none=some y):b=true∧x=y:=by
 cases b with
 |true=>exact⟨rfl,As h⟩
 |false=>cases h
theorem RG(hb:main=true∨E.send≠none){pf:PF}{cs:List PF}{H:PH}{d:Nat}(hm:pf.mode= .run){s':DS}(hp:Su pf cs H d=some s'):Reach P ty Post main E ⟨pf,cs,H,d⟩ s':=by
 unfold Su at hp;split at hp
 ·cases hp
 ·rename_i l Tg;split at hp
  ·rename_i XC;split at hp
   ·cases hp
   ·rename_i j ej;split at hp
    ·rename_i L e1;split at hp
     ·cases hp
     ·rename_i pc cs';split at hp
      ·rename_i all fs e es k et;rcases eo:all.toList[e]? with _|o
       ·rw[eo]at hp; cases hp
       rw[eo]at hp;simp only at hp;split at hp
       ·rename_i tm e3;replace hp:=hI hp;obtain⟨KY,hp⟩:=hp;subst hp;refine Reach.Ec (s:=⟨pf,pc::cs',H,d⟩) hb e1 fun E ρ c fr Kj pd pds w hf hc hH AO=> ?_;have eB:bK ρ pf.round fr.roundOf:=hf.round;rw[Tg]at eB;generalize Ox:fr.roundOf=ro at eB;cases eB with
        |some hB =>
         rename_i B;refine⟨B,hB,fun o' Kv EW=> ?_⟩;obtain⟨L',rfl,b1,b2,b3⟩:=EW.MZ;have nV:At pf.todo=true:=by
          cases JG:pf.todo with
          |nil=>rfl
          |cons it k' =>
           rw[JG]at ej;cases it<;>first|rfl|cases ej
         obtain⟨Dj,EI,A9⟩:=hf.Dl nV;have EI:LR (Ic ρ) pf.todo fr.todo:=EI;cases hc with
         |cons E1 Oc =>
          rename_i B4 BD Xm LW;have xm:all[e]? =some o:=by rw[← CQ]; exact eo
          have Ff:=E1.N8 et KY xm e3 (v':= .bool (BJ j)) (.bool _);subst Dj;refine⟨_,B4.finish (.bool (BJ j)),BD,Xm,LW,#[A3 B.blk false false,A3 B.blk true false],b3 _ j,Ff,Oc,by simp,by simp, ?_⟩;have hr:=Br.run hf hm;have hjb:j.isNone=BJ j:=by cases j<;>rfl
          have AT:(Instr.endRound B.blk j).runT P w #[]=(.ok (.bool (BJ j)) (World.Ec w B.blk (.loop {L' with state:=cond (BJ j) .ready .done,pending:=j})),#[A3 B.blk false false,A3 B.blk true false]):=by
           unfold Instr.endRound;refine(AB (Hw Kv #[])).trans ?_;refine(AB (C5 Kv rfl _)).trans ?_;rw[hjb];cases BJ j<;>rfl
          have WR:doReturn P main fr ((B4::BD)++E.base) none (.bool (BJ j)) (World.Ec w B.blk (.loop {L' with state:=cond (BJ j) .ready .done,pending:=j}))= .go (G (B4.finish (.bool (BJ j))) (BD++E.base)) (World.Ec w B.blk (.loop {L' with state:=cond (BJ j) .ready .done,pending:=j})):=by
           have KZ:fr.kind= .normal:=by rw[hf.kind]; exact XC
           simp[doReturn,KZ,G]
          have Aq:stepG P main (G fr ((B4::BD)++E.base)) w=(doReturn P main fr ((B4::BD)++E.base) none (.bool (BJ j)) (World.Ec w B.blk (.loop {L' with state:=cond (BJ j) .ready .done,pending:=j}))).after (seen P fr.fn #[A3 B.blk false false,A3 B.blk true false]):=by
           rw[show stepG P main (G fr ((B4::BD)++E.base)) w=stepG.exec P main true fr ((B4::BD)++E.base) none w by simp[stepG,G,hr]];unfold stepG.exec;generalize JG:pf.todo=td at ej EI;cases td with
           |nil =>
            cases ej;have e:=EI.Co;simp only[e,Ox,AT]
           |cons it k' =>
            obtain⟨b',m,e,hi,E0⟩:=EI.cons_inv;cases hi with
            |code cd =>
             cases cd with
             |ret =>
              cases ej;simp only[e,Ox,AT]
             |exit id =>
              simp only[ZR]at ej;split at ej
              ·rename_i ex;cases ej;have hx:=LR.Kb E0 ex;simp only[e,Ox,hx,Option.elim,AT]
              ·cases ej
             |_=>cases ej
            |_=>cases ej
          rw[Aq,WR,FB,DF]
       ·cases hp
      ·cases hp
    ·cases hp
  ·cases hp
def Xj(C:CB)(fr:PF)(cs:List PF)(H:PH)(d:Nat):Option DS :=
 match fr.mode with
 | .run=>match fr.todo with
  | .CH all fs (e::es)::k=>cond (Ae fr.kind&&(Cr all&&(NR C fr H all fs&&(chained (Region.before all) e es&& !(fs.any (Nat.beq e)))))) (match all.toList[e]? with
   |some o=>match Aj fr all o with
    |some true=>match o.op with
     | .call c=>match LN fr H c with
      |some pf=>some ⟨pf,fr.go (.dcall all (behind (Region.before all) e fs) e es::k)::cs,H,d⟩
      |none=>none
     |_=>none
    |_=>none
   |none=>none) none
  |_=>Su fr cs H d
 |_=>none
theorem Sv{C:CB}(hC:An C)(hb:main=true∨E.send≠none){fr:PF}{cs:List PF}{H:PH}{d:Nat}{s':DS}(hp:Xj C fr cs H d=some s'):Reach C.P ty Post main E ⟨fr,cs,H,d⟩ s':=by
 unfold Xj at hp;split at hp
 ·rename_i hm;split at hp
  ·rename_i all fs e es k ht;cases e0:(Ae fr.kind&&(Cr all&&(NR C fr H all fs&&(chained (Region.before all) e es&& !(fs.any (Nat.beq e))))))with
   |false=>rw[e0]at hp; cases hp
   |true =>
    rw[e0]at hp;simp only[AF,BI]at e0;obtain⟨h1,h2,h3,h4,h5⟩:=e0;simp only[AG]at hp;obtain⟨f1,f2⟩:=Hk (cs:=cs) (d:=d) hC h3;split at hp
    ·rename_i o eo;split at hp
     ·rename_i hw;split at hp
      ·rename_i c A5;split at hp
       ·rename_i pf ep;simp only[AE]at hp;subst hp;exact Reach.ab (s:=⟨fr,cs,H,d⟩) hb hm (fun e=>by rw[e]at h1; cases h1) ht h2 h4 f1 (fun i hi _=>f2 i hi) (fun DJ=>by
         have:=Cp.2 ⟨e,DJ,Nat.beq_refl e⟩;rw[h5]at this; cases this) (by rw[← CQ]; exact eo) A5 hw ep
       ·cases hp
      ·cases hp
     ·cases hp
    ·cases hp
  ·exact RG hb hm hp
 ·cases hp
end
def ll(ty:DD)(t:TypeId)(u:Value):Option Value :=
 match ty.get t with
 |some (_,.slice _)=>match u with
  | .slice none _ c=>some (goInt c)
  | .slice (some _) _ c=>cond (Nat.beq c HN) none (some (goInt c))
  |_=>none
 |_=>none
def Xa(ty:DD)(H:PH)(sT xT:TypeId)(s x:Value):Option (Value×PH) :=
 match ty.get sT with
 |some (_,.slice elem)=>match ty.get elem with
  |some (ei,_)=>match ty.get xT with
   |some (_,.int _)=>match s with
    | .slice none 0 0=>match x with
     | .int _ (.ofNat (n+1))=>match ei.zero with
      |some z=>cond (ground 6 z&&(Nat.blt (n+1) 1000000&&(Nat.ble ((n+1)*ei.bytes) 281474976710656&&Nat.blt 0 ei.size))) (Pq ei elem H (n+1) (Builtin.zeroCells z.cells (n+1)).toList) none
      |none=>none
     |_=>none
    |_=>none
   |_=>none
  |none=>none
 |_=>none
def U9(_P:Program)(ty:DD)(pf:PF)(H:PH)(o:Oper):Option (Value×PH) :=
 match o.op with
 | .call ⟨.builtin .cap,⟨[x]⟩,⟨[t]⟩⟩=>match AQ H.ng pf x with
  |some u=>match ll ty t u with
   |some v=>some (v,H)
   |none=>none
  |none=>none
 | .call ⟨.builtin .append,⟨[x,y]⟩,⟨[s,t]⟩⟩=>match AQ H.ng pf x with
  |some u=>match AQ H.ng pf y with
   |some v=>Xa ty H s t u v
   |none=>none
  |none=>none
 |_=>none
section
variable{P:Program}{ty:DD}{ρ:Ah}{pf:PF}{fr:Frame}{H:PH}{c:Ctx}{w:World}
theorem ag{hn:Nat}{o:Oper}(A7:A8 P ty)(h:CJ H.ng ρ pf fr o)(hH:HR ρ H c w)(AO:CK c w){x:Operand}{t:TypeId}(ho:o.op= .call {callee:= .builtin .cap,args:= #[x],argTypes:= #[t]}){u v:Value}(hx:AQ H.ng pf x=some u)(hp:ll ty t u=some v) :
  Sound P ρ hn v H c w (execOp fr.eval o):=by
 have hv:=h x (by simp[ho,Op.operands,Call.operands]) _ hx;unfold ll at hp;split at hp
 ·rename_i ti elem e1;have hu:=(A7 _ _ e1).2;have key: ∀(b:Option Addr) (n c':Nat),fr.eval x= .slice b n c'→(execOp fr.eval o).runT P w #[]=(.ok (.value (goInt c')) w,#[]):=by
   intro b n c' e;rw[Sem.runT_eq];unfold execOp;simp[ho,resolve,invoke,builtin,Builtin.cap_,e,run_underlying hu]
  generalize C6:fr.eval x=u' at hv;split at hp
  ·cases hp;cases hv with
   |MC=>exact Sound.pure hH AO (.int _ _) (key _ _ _ C6)
  ·rename_i a n cc;cases e2:Nat.beq cc HN with
   |true=>rw[e2]at hp; cases hp
   |false =>
    rw[e2]at hp;cases hp;cases hv with
    |sl hB hc =>
     rcases hc with⟨_,rfl⟩|⟨hc,_⟩
     ·exact Sound.pure hH AO (.int _ _) (key _ _ _ C6)
     ·exact absurd hc (Bl e2)
  ·cases hp
 ·cases hp
theorem M3{sT xT:TypeId}{tt elem:TypeId}{ei:TypeInfo}{ik:IntKind}(hs:P.underlying sT=some (.slice elem))(hi:P.info? elem=some ei)(hx:P.underlying xT=some (.int ik)){z:Value}(hz:ei.zero=some z)
  {n:Nat} {k:IntKind} (hn:n<1000000) (vV:n≠0) (hs0:ei.size≠0) (hm:n*ei.bytes≤2^48) (hb:ei.bytes≠0) (nu:(2*n+192)*ei.bytes≤2^48) {cp:Nat}
  (bG:cp=(Question.appendCap n 0 elem).cut (w.tape w.drawn (Question.appendCap n 0 elem))) :
  (Builtin.append_ #[sT,xT] tt #[.slice none 0 0,.int k (.ofNat n)]).runT P w #[]=(.ok (.slice (some ⟨w.heap.size,0,none⟩) n cp) (World.grow (World.draw w) (.cells (Builtin.zeroCells z.cells n++Builtin.zeroCells z.cells (cp-n)) elem)),#[]++Fp (cp*ei.bytes)):=by
 unfold Builtin.append_;simp only[G7,CM,Fg];refine(AB (Aa hs)).trans ?_;simp only
 refine(AB (runT_size hi)).trans ?_;refine(AB (Aa hx)).trans ?_;refine(AB (s:=pure _) (a:=true) (w':=w) (es':= #[]) rfl).trans ?_;simp only[Ad];have hwr:IntKind.i64.wrap (Int.ofNat n)=Int.ofNat n:=Il (by
  show Nat.blt n 9223372036854775808=true;exact E4 (by omega))
 refine(AB (s:=asInt (.int k (.ofNat n))) (a:=(.ofNat n:Int)) (w':=w) (es':= #[]) rfl).trans ?_;simp only[hwr];rw[AA (show ¬(Int.ofNat n<0) by simp)];refine(AB (s:=typeInfo elem) (B6 hi)).trans ?_;have h48:(2:Int)^48=((2^48:Nat):Int):=by decide
 rw[AA (by
  have h3:(Int.ofNat n)*(ei.bytes:Int)=((n*ei.bytes:Nat):Int):=(Int.natCast_mul n ei.bytes).symm;rw[h3,h48];omega)]
 refine(AB (s:=pure _) (a:=n) (w':=w) (es':= #[]) rfl).trans ?_;rw[AA (show ¬(0+n≤0) by omega)];refine(AB (s:=typeInfo elem) (B6 hi)).trans ?_;have h63:IntKind.i64.max=9223372036854775807:=by decide
 rw[AA (by
  rintro⟨h,-⟩;rw[h63]at h;omega)]
 refine(AB (s:=typeInfo elem) (B6 hi)).trans ?_;have ew:Builtin.nextslicecap (0+n) 0*ei.bytes≤2^48:=A1 (Nat.mul_le_mul_right _ (nextslicecap_le (by omega))) (by rw[DV]; exact nu);rw[AA (by omega)];have h0n:0+n=n:=DV n;simp only[h0n];refine(AB (s:=choose (.appendCap n 0 elem)) (a:=cp) (w':=World.draw w) (es':= #[]) ?_).trans ?_
 ·rw[bG]; rfl
 refine(AB (s:=typeInfo elem) (B6 hi)).trans ?_;refine(AB (run_askRoom _ _ _)).trans ?_;refine(AB (s:=Builtin.firstCells ei.size 0 (.slice none 0 0)) (a:= #[]) (w':=World.draw w) (es':= #[]++Fp (cp*ei.bytes)) rfl).trans ?_;have hzv: ∀es,(zeroValue elem).runT P (World.draw w) es=(.ok z (World.draw w),es):=fun es=>by
  show((typeInfo elem).bind fun i=>match i.zero with|some v=>pure v|none=>unsupported (.resourceLimit "a value of more than 2^22 cells")).runT P _ _=_;rw[AB (B6 hi),hz];rfl
 have BK: ¬n*ei.size=0:=by
  intro h;rcases Nat.mul_eq_zero.1 h with h|h
  ·exact vV h
  ·exact hs0 h
 simp only[Bool.not_true,Bq,BS,AA BK];refine(AB (s:=(zeroValue elem).bind fun z=>pure (Builtin.zeroCells z.cells n)) (a:=Builtin.zeroCells z.cells n) (w':=World.draw w) (es':= #[]++Fp (cp*ei.bytes)) ((AB (hzv _)).trans rfl)).trans ?_;refine(AB (hzv _)).trans ?_;simp only[Array.empty_append];rfl
theorem Q9{z:Value}(hg:ground 6 z=true)(n:Nat):CE ρ (Builtin.zeroCells z.cells n).toList (Builtin.zeroCells z.cells n).toList:=by
 refine CE.Sk fun v hv=> ?_;unfold Builtin.zeroCells at hv;simp only[Array.toList_map,Bd]at hv;obtain⟨k,hk,rfl⟩:=hv;have hz:CE ρ z.cells.toList z.cells.toList:=VR.cells (B5 6 hg);by_cases hs:k%z.cells.size<z.cells.size
 ·rw[getElem!_pos z.cells _ hs];exact CE.mem hz rfl _ (by simp)
 ·rw[getElem!_neg z.cells _ hs];exact .bool _
theorem Ua{o:Oper}(A7:A8 P ty)(h:CJ H.ng ρ pf fr o)(hH:HR ρ H c w)(AO:CK c w){sT xT:TypeId}{x y:Operand}(ho:o.op= .call {callee:= .builtin .append,args:= #[x,y],argTypes:= #[sT,xT]})
  {s u v:Value} (hx:AQ H.ng pf x=some s) (hy:AQ H.ng pf y=some u) {H':PH} (hp:Xa ty H sT xT s u=some (v,H')):Sound P ρ H.next v H' c w (execOp fr.eval o):=by
 have hv:=h x (by simp[ho,Op.operands,Call.operands]) _ hx;have hu:=h y (by simp[ho,Op.operands,Call.operands]) _ hy;unfold Xa at hp;split at hp
 ·rename_i ti elem e1;split at hp
  ·rename_i ei ed e2;split at hp
   ·rename_i tx ik e3;split at hp
    ·split at hp
     ·rename_i k n;split at hp
      ·rename_i z ez;cases e4:(ground 6 z&&(Nat.blt (n+1) 1000000&&(Nat.ble ((n+1)*ei.bytes) 281474976710656&&Nat.blt 0 ei.size)))with
       |false=>rw[e4]at hp; cases hp
       |true =>
        rw[e4]at hp;simp only[AG]at hp;simp only[AF]at e4;obtain⟨g1,g2,g3,g4⟩:=e4;have g2:=AH g2;have g3:=AH g3;have g4:=AH g4;generalize C6:fr.eval x=x' at hv;generalize hew:fr.eval y=y' at hu;cases hv;cases hu;have hzs: ∀z',ei.zero=some z'→z'=z:=fun z' e=>by rw[ez]at e; cases e; rfl
        refine Nv (AN _) hH AO (Q9 g1 (n+1)) ?_ hp fun z' z1 z2 z3=> ?_
        ·have Bp:z.cells.size=ei.size:=by
          unfold Pq at hp;cases e5:J4 ei (n+1)with
          |false=>rw[e5]at hp; cases hp
          |true =>
           obtain⟨z',a1,_,_,a4⟩:=Ll e5;rw[hzs z' a1]at a4;exact a4
         rw[FC,HO,Bp]
        ·have:=hzs z' z1;subst this
         let q:=Question.appendCap (n+1) 0 elem
         let cp:=q.cut (w.tape w.drawn q)
         have AT:=M3 (P:=P) (w:=w) (tt:=o.type) (A7 _ _ e1).2 (A7 _ _ e2).1 (A7 _ _ e3).2 ez (n:=n+1) (k:=k) (show n+1<1000000 by omega) (Nat.succ_ne_zero n) (Nat.ne_of_gt g4) g3 z2 z3 (cp:=cp) rfl;have oC:execOp fr.eval o=(Builtin.append_ #[sT,xT] o.type #[.slice none 0 0,.int k (.ofNat (n+1))]).bind fun r=>Sem.pure (Next.value r):=by
          rw[De ho];simp only[List.map_toArray,Du,List.map_nil,C6,hew];rfl
         refine⟨cp,#[]++Fp (cp*ei.bytes),Y7 _ _ _ _, ?_,fun w'=>BQ.app (BQ.nil _ _ _) (HJ _ _).1,GU.app (fun e he=>by simp at he) (HJ (c:=c) (w:=w) _ w).2⟩;rw[oC,AB AT];rw[E3];rfl
      ·cases hp
     ·cases hp
    ·cases hp
   ·cases hp
  ·cases hp
 ·cases hp
theorem U8(A7:A8 P ty){o:Oper}(h:CJ H.ng ρ pf fr o)(hH:HR ρ H c w)(AO:CK c w){v:Value}{H':PH}(hp:U9 P ty pf H o=some (v,H')):Sound P ρ H.next v H' c w (execOp fr.eval o):=by
 unfold U9 at hp;split at hp
 ·rename_i x t ho;split at hp
  ·rename_i u eu;split at hp
   ·rename_i v' ev;cases hp;exact ag A7 h hH AO ho eu ev
   ·cases hp
  ·cases hp
 ·rename_i x y s t ho;split at hp
  ·rename_i u eu;split at hp
   ·rename_i v' ev;exact Ua A7 h hH AO ho eu ev hp
   ·cases hp
  ·cases hp
 ·cases hp
theorem Pj{o:Oper}{r:Value×PH}(h:U9 P ty pf H o=some r): ∀c,o.op≠ .defer c:=fun c e=>by
 unfold U9 at h;rw[e]at h;cases h
end
inductive XK where
 |disable|enable|acquire|Dw|read|write
 |QG (b:Bool)
 |load (k:IntKind)|store|add (k:IntKind)|or (k:IntKind)|Lv (k:IntKind)
 |EN|FJ
 |Cn (s:Array Value→Sem Value)
def XK.Di:XK→Array Value→Sem Value
 | .disable=>fun _=>do mark .disable; pure Extern.Race.none_
 | .enable=>fun _=>do mark .enable; pure Extern.Race.none_
 | .acquire=>Extern.Race.marked .acquire
 | .Dw=>Extern.Race.marked .releaseMerge
 | .read=>Extern.Race.marked .read
 | .write=>Extern.Race.marked .write
 | .QG b=>fun _=>pure (.bool b)
 | .load k=>Extern.Atomic.loadT (.int k)
 | .store=>Extern.Atomic.storeT
 | .add k=>Extern.Atomic.update (Op.intArith .add) k true
 | .or k=>Extern.Atomic.update (Op.intBits .or) k false
 | .Lv k=>Extern.Atomic.casT (.int k)
 | .EN=>Extern.Sync.semacquire
 | .FJ=>Extern.Sync.semrelease
 | .Cn s=>s
structure Ey(P:Program)(f:FuncId)(k:XK):Prop where
 ex: ∃fn,P.funcs[f]? =some fn∧(fn.name== "runtime.NumGoroutine")=false∧fn.body.isNone=true∧Extern.findNext fn=none∧Extern.find fn=some k.Di
def C9(P:Program)(xs:T XK):Prop:= ∀f k,xs.get f=some k→Ey P f k
def EZ(f:FuncId):Event:=⟨.mark (.extern f),false,true⟩
section
variable{P:Program}{ρ:Ah}{H:PH}{c:Ctx}{w:World}{pf:PF}{fr:Frame}
theorem KJ{f:FuncId}{k:XK}(h:Ey P f k){args:Array Value}{v:Value}{w':World}{es':Array Event}(hr:(k.Di args).runT P w #[EZ f]=(.ok v w',es')):(callFunc f args).runT P w #[]=(.ok (.value v) w',es'):=by
 obtain⟨fn,h1,h2,h3,h4,h5⟩:=h.ex;unfold callFunc;refine(AB (s:=program) (a:=P) (w':=w) (es':= #[]) rfl).trans ?_;simp only[h1,h2,h3,Ad,Bq,BS];refine(AB (s:=mark (.extern f)) (a:=()) (w':=w) (es':= #[EZ f]) rfl).trans ?_;simp only[h4,h5];refine(AB hr).trans rfl
theorem HT(q₀:FuncId→Bool): ∀(l:List Event) (q:Bool) (kept:Array Event),(∀e∈l,e.sync=true∧∀g,e.loc≠ .mark (.extern g))→(l.foldl (seenStep q₀) (q,kept)).2=kept++l.toArray
 | [],_,kept,_=>by simp
 |e::l,q,kept,h=>by
  obtain⟨h1,h2⟩:=h e (by simp);have hs:seenStep q₀ (q,kept) e=(q,kept.push e):=by
   cases hl:e.loc with
   |mark m=>cases m with
    |extern g=>exact absurd hl (h2 g)
    |_=>simp[seenStep,hl,h1]
   |_=>simp[seenStep,hl,h1]
  rw[List.foldl_cons,hs,HT q₀ l q _ fun e he=>h e (by simp[he])];simp
theorem KI(fn f:FuncId)(es:Array Event)(h: ∀e∈es,e.sync=true∧∀g,e.loc≠ .mark (.extern g)):seen P fn (#[EZ f]++es)=es:=by
 rw[seen_def];obtain⟨l⟩:=es;have e1:(#[EZ f]++⟨l⟩:Array Event).toList=EZ f::l:=by simp
 rw[e1,List.foldl_cons];have e2: ∀(q₀:FuncId→Bool) (q:Bool),seenStep q₀ (q,#[]) (EZ f)=(q₀ f,#[]):=fun _ _=>rfl;rw[e2,HT _ l _ _ fun e he=>h e (by simpa using he)];simp
def Dz(P:Program)(f:FuncId)(ρ:Ah)(hn:Nat)(v:Value)(H':PH)(d':Nat)(c:Ctx)(w:World)(s:Sem Value):Prop :=
 ∃(v':Value) (w':World) (es:Array Event),VR ρ v v'∧s.runT P w #[EZ f]=(.ok v' w',#[EZ f]++es)∧(∀e∈es,e.sync=true∧∀g,e.loc≠ .mark (.extern g))∧HR ρ H' c w'∧CK c w'∧Ca c c.M c.R w w'∧BQ c w w' es∧deafBehind c.d es=d'∧L4 ρ ρ hn c c.M w w'
theorem Dz.d{f:FuncId}{k:XK}(hx:Ey P f k){hn:Nat}{v:Value}{H':PH}{d':Nat}{o:Oper}{ot:Operand}{AAe:Array Operand}{EY:Array TypeId}(ho:o.op= .call {callee:= .value ot,args:=AAe,argTypes:=EY})(hf:fr.eval ot= .func (.func f) #[] #[])
  (h:Dz P f ρ hn v H' d' c w (k.Di (AAe.map fr.eval))) (fn:FuncId):KC P fn ρ hn v H' d' c w (execOp fr.eval o):=by
 obtain⟨v',w',es,a1,a2,a3,a4,a5,a6,a7,a8,a9⟩:=h;have BB:execOp fr.eval o=callFunc f (AAe.map fr.eval):=by
  unfold execOp;rw[ho];simp only[resolve,hf];show callFunc f ((#[]++AAe.map fr.eval)++ #[])=_;rw[Array.empty_append,DF]
 refine⟨ρ,c.M,c.R,v',w',#[EZ f]++es,.refl ρ,a1,.inl (by rw[BB]; exact KJ hx a2),a4,a5,a6,⟨fun e he a=> ?_,fun e he x Hp=> ?_⟩,by rw[KI _ _ _ a3]; exact a8,a9⟩
 ·rcases Ea.1 he with he|he
  ·simp at he;subst he;simp[EZ,MemAct.ofEvent]
  ·exact a7.1 e he a
 ·rcases Ea.1 he with he|he
  ·simp at he;subst he;cases Hp
  ·exact a7.2 e he x Hp
def MO(H:PH)(a:Addr):Option Value :=
 match a.spot with
 |some _=>none
 |none=>match H.t.get a.block with
  |some (.cells tr size _ _ true 0 true false)=>cond (Nat.blt a.off size&&Nat.ble size (2^T.deep)) (tr.get a.off) none
  |_=>none
def PZ(H:PH)(a:Addr)(v:Value):PH :=
 match H.t.get a.block with
 |some (.cells tr size elem es true 0 true false)=>H.Ho (H.t.set a.block (.cells (tr.set a.off v) size elem es true 0 true false))
 |_=>H
theorem aH(hH:HR ρ H c w){a:Addr}{v:Value}(hp:MO H a=some v){B:RB}(hB:ρ a.block=some B) :
  a.spot=none∧c.M B.blk∧(∃v',w.cell? ⟨B.blk,a.off,none⟩=some v'∧VR ρ v v')∧w.frozen? ⟨B.blk,a.off,none⟩=false∧(w.shape? B.blk).isSome=true∧
   ∀u u',VR ρ u u'→HR ρ (PZ H a u) c (w.setCell ⟨B.blk,a.off,none⟩ u'):=by
 unfold MO at hp;split at hp
 ·cases hp
 ·rename_i es;split at hp
  ·rename_i tr size elem sz e1;cases e2:Nat.blt a.off size&&Nat.ble size (2^T.deep)with
   |false=>rw[e2]at hp; cases hp
   |true =>
    rw[e2]at hp;simp only[AG]at hp;obtain⟨q1,q2⟩:=Bj.1 e2;have q1:a.off<size:=AH q1;have q2:=AH q2;have hb:a.block<2^T.deep:=AV (hH.Dk _ B hB).1 hH.cap;have hr:=hH.rel _ _ _ hB e1;cases hr with
    |cells hs he Fx QV Ax hR AO =>
     obtain⟨u,u',g1,g2,g3⟩:=TC (AO rfl a.off q1);rw[hp]at g1;cases g1;refine⟨es,(Ax rfl).1,⟨u',g2,g3⟩,(Ax rfl).2 rfl a.off,by rw[hs]; rfl,fun x x' hx=> ?_⟩;unfold PZ;rw[e1];exact hH.setCell hB e1 q1 (by omega) hx rfl rfl rfl (by show(H.t.set a.block _).get _=_; rw[T.AW _ _ _ _ hb,AD rfl]) (fun b' B7=>by show(H.t.set a.block _).get b'=_; rw[T.AW _ _ _ _ hb,AA B7])
  ·cases hp
end
end Go.Gd
end
