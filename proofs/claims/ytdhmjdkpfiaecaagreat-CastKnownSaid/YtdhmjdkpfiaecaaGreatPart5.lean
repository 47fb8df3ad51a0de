/- A part of the proof of CastKnown: no condition of its own. -/
import Derived.Test.YtdhmjdkpfiaecaaGreatPart4
import Derived.Conc.ClockLaws
import Derived.Test.YtdhmjdkpfiaecaaGreatProg
import Derived.Test.YtdhmjdkpfiaecaaGreatPart2
import Derived.KernelRfl
import Derived.Test.YtdhmjdkpfiaecaaGreatRows
import Derived.Conc.HoldsTime
import Derived.ProofKit
import Derived.OpenShut
import Derived.ChangeSame
import Derived.ChangeVars
import Derived.Lay
noncomputable section
namespace Go.Gd
open Go Go.Gw Go.Conc
open Go.ConcR (KK wgBlock WgAt stA smA)
def Kq(C:CB)(xs:T XK)(a:Nat)(k:Nat):DS→DS :=
 Nat.rec (motive:=fun _=>DS→DS) (fun s=>match ZO C xs a s with|some s'=>s'|none=>s) (fun _ ih s=>DS.casesOn (ih s) fun a b c d=>ih ⟨a,b,c,d⟩) k
def gz(C:CB)(xs:T XK)(j:Nat)(s:DS):Bool:=nB C (dZ C xs j s)
def XH(a off:Nat):Value→Bool
 | .pointer (some ⟨b,o,none⟩)=>Nat.beq b a&&Nat.beq o off
 |_=>false
def pL(s:DS):Bool:=match s with|⟨_,_,H,d⟩=>Nat.beq H.ng 0&&Nat.blt 0 d
def q3(C:CB)(xs:T XK)(a j:Nat)(s:DS):Bool :=
 match Kq C xs a j s with
 |⟨fr,cs,H,d⟩=>pL ⟨fr,cs,H,d⟩&&match I7 xs ⟨fr,cs,H,d⟩with
  |some (.FJ,p::_)=>XH a 1 p&&match IF ⟨fr,cs,H,d⟩ undef with
   |some pf=>gz C xs j ⟨pf,cs,H,d⟩
   |none=>false
  |_=>false
def q2(C:CB)(xs:T XK)(a j:Nat)(s:DS):Bool :=
 match Kq C xs a j s with
 |⟨fr,cs,H,d⟩=>pL ⟨fr,cs,H,d⟩&&match I7 xs ⟨fr,cs,H,d⟩with
  |some (.store,[p,.int .u64 n])=>XH a 0 p&&decide (n=0)&&match IF ⟨fr,cs,H,d⟩ undef with
   |some pf=>q3 C xs a j ⟨pf,cs,H,d⟩
   |none=>false
  |_=>false
def q1(C:CB)(xs:T XK)(a j:Nat)(s:DS):Bool :=
 match Kq C xs a j s with
 |⟨fr,cs,H,d⟩=>pL ⟨fr,cs,H,d⟩&&match I7 xs ⟨fr,cs,H,d⟩with
  |some (.load .u64,[p])=>XH a 0 p&&match IF ⟨fr,cs,H,d⟩ (.int .u64 1)with
   |some pf=>q2 C xs a j ⟨pf,cs,H,d⟩
   |none=>false
  |_=>false
def q0(C:CB)(xs:T XK)(a j:Nat)(s:DS):Bool :=
 match Kq C xs a j s with
 |⟨fr,cs,H,d⟩=>pL ⟨fr,cs,H,d⟩&&match I7 xs ⟨fr,cs,H,d⟩with
  |some (.add .u64,[p,.int _ n])=>XH a 0 p&&(decide (n=18446744069414584320)&&((match IF ⟨fr,cs,H,d⟩ (.int .u64 1)with
    |some pf=>q1 C xs a j ⟨pf,cs,H,d⟩
    |none=>false)&& [0,4294967296,4294967297,8589934592,8589934593,12884901888,12884901889].all fun z=>match IF ⟨fr,cs,H,d⟩ (.int .u64 z)with
    |some pf=>gz C xs j ⟨pf,cs,H,d⟩
    |none=>false))
  |_=>false
section
variable{C:CB}{xs:T XK}{ty:TypeId}{Post:Value→World→Prop}
theorem FV(hC:An C)(Au:C9 C.P xs){a:Nat}(ha:a<2^T.deep){φ:IE}: ∀(k:Nat) (s:DS),Nh C.P ty Post a φ (Kq C xs a k s)→Nh C.P ty Post a φ s
 |0,s,h=>by
  have h:Nh C.P ty Post a φ (match ZO C xs a s with|some s'=>s'|none=>s):=h;split at h
  ·rename_i s' e;exact(Ux hC Au ha e).step h
  ·exact h
 |k+1,s,h=>FV hC Au ha k s (FV hC Au ha k (Kq C xs a k s) h)
theorem LM(hC:An C)(Au:C9 C.P xs){j:Nat}{s:DS}(h:gz C xs j s=true):gF C.P s:=Jz hC Au j s (Yb h)
theorem Dg{a off:Nat}{v:Value}(h:XH a off v=true):v= .pointer (some ⟨a,off,none⟩):=by
 unfold XH at h;split at h
 ·rw[AF]at h;rw[AJ h.1,AJ h.2]
 ·cases h
theorem MK{s:DS}(h:pL s=true):s.H.ng=0∧0<s.d:=by
 obtain⟨fr,cs,H,d⟩:=s;unfold pL at h;simp only[AF]at h;exact⟨AJ h.1,AH h.2⟩
theorem cG(hC:An C)(Au:C9 C.P xs){a j:Nat}(ha:a<2^T.deep){s:DS}(h:q3 C xs a j s=true):Nh C.P ty Post a .k3 s:=by
 refine FV hC Au ha j s ?_;unfold q3 at h;generalize Kq C xs a j s=s' at h;obtain⟨fr,cs,H,d⟩:=s';simp only[AF]at h;obtain⟨hq,h⟩:=h;obtain⟨El,hd⟩:=MK hq;split at h
 ·rename_i p t e;simp only[AF]at h;obtain⟨hp,h⟩:=h;have hp:=Dg hp;subst hp;split at h
  ·rename_i pf ep;exact Nh.Lg Au (DI e) El hd ⟨pf,ep,LM hC Au h⟩
  ·cases h
 ·cases h
theorem cH(hC:An C)(Au:C9 C.P xs){a j:Nat}(ha:a<2^T.deep){s:DS}(h:q2 C xs a j s=true):Nh C.P ty Post a .k2 s:=by
 refine FV hC Au ha j s ?_;unfold q2 at h;generalize Kq C xs a j s=s' at h;obtain⟨fr,cs,H,d⟩:=s';simp only[AF]at h;obtain⟨hq,h⟩:=h;obtain⟨El,hd⟩:=MK hq;split at h
 ·rename_i p n e;simp only[AF]at h;obtain⟨⟨hp,hn⟩,h⟩:=h;have hp:=Dg hp;have hn:=E6 hn;subst hp hn;split at h
  ·rename_i pf ep;exact Nh.Lf Au (DI e) El hd ⟨pf,ep,cG hC Au ha h⟩
  ·cases h
 ·cases h
theorem cI(hC:An C)(Au:C9 C.P xs){a j:Nat}(ha:a<2^T.deep){s:DS}(h:q1 C xs a j s=true):Nh C.P ty Post a .k1 s:=by
 refine FV hC Au ha j s ?_;unfold q1 at h;generalize Kq C xs a j s=s' at h;obtain⟨fr,cs,H,d⟩:=s';simp only[AF]at h;obtain⟨hq,h⟩:=h;obtain⟨El,hd⟩:=MK hq;split at h
 ·rename_i p e;simp only[AF]at h;obtain⟨hp,h⟩:=h;have hp:=Dg hp;subst hp;split at h
  ·rename_i pf ep;exact Nh.QH Au (DI e) El hd ⟨pf,ep,cH hC Au ha h⟩
  ·cases h
 ·cases h
theorem Uy(hC:An C)(Au:C9 C.P xs){a j:Nat}(ha:a<2^T.deep){s:DS}(h:q0 C xs a j s=true):Nh C.P ty Post a .cnt s:=by
 refine FV hC Au ha j s ?_;unfold q0 at h;generalize Kq C xs a j s=s' at h;obtain⟨fr,cs,H,d⟩:=s';simp only[AF]at h;obtain⟨hq,h⟩:=h;obtain⟨El,hd⟩:=MK hq;split at h
 ·rename_i p ky n e;simp only[AF]at h;obtain⟨hp,hn,h01,hz⟩:=h;have hp:=Dg hp;have hn:=E6 hn;subst hp hn;refine Nh.Ye Au (DI e) El hd fun v wt hv N4=> ?_;by_cases e01:v=0∧wt=1
  ·obtain⟨rfl,rfl⟩:=e01;split at h01
   ·rename_i pf ep;exact⟨pf,ep,(fun _=>cI hC Au ha h01),fun h=>absurd ⟨rfl,rfl⟩ h⟩
   ·cases h01
  ·have hm:((v:Int)*KK+wt)∈([0,4294967296,4294967297,8589934592,8589934593,12884901888,12884901889]:List Int):=by
    have e1:wt=0∨wt=1:=by omega
    have e2:v=0∨v=1∨v=2∨v=3:=by omega
    rcases e1 with rfl|rfl<;>rcases e2 with rfl|rfl|rfl|rfl<;>first|exact absurd ⟨rfl,rfl⟩ e01|decide
   have:=AX.1 hz _ hm;split at this
   ·rename_i pf ep;exact⟨pf,ep,(fun h=>absurd h e01),fun _=>LM hC Au this⟩
   ·cases this
 ·cases h
end
def I5:Deferred→List Nat
 |⟨.fn (.func _) ys,AAe⟩=>AAe.toList.flatMap (DK 6)++ys.toList.flatMap (DK 6)
 |_=> []
def IM(ng:Nat)(L:List Nat):Nat→Bool:=fun x=>Nat.blt x ng||(((Ag (L.map fun x=>(x,())) .nil).get x).isSome)
def cellsIn(p:Nat→Bool)(t:T Value)(n:Nat):Bool :=
 Nat.rec (motive:=fun _=>Bool) true (fun k ih=>(match t.get k with
  |some v=>Zj p 6 v
  |none=>true)&&ih) n
theorem OG{p:Nat→Bool}{t:T Value}: ∀{n:Nat},cellsIn p t n=true→∀k,k<n→∀v,t.get k=some v→Zj p 6 v=true
 |0,_,k,hk,_,_=>by omega
 |n+1,h,k,hk,v,hv=>by
  unfold cellsIn at h;simp only[AF]at h;by_cases e:k=n
  ·subst e;have:=h.1;rw[hv]at this;exact this
  ·exact OG h.2 k (by omega) v hv
def Yd(p:Nat→Bool)(H:PH)(x:Nat):Bool:=Nat.blt x (2^T.deep)&&match H.t.get x with
 |none=>true
 |some (.cells t size _ _ false _ ok _)=>cond ok (cellsIn p t size) true
 |_=>false
def nA(H:PH)(L:List Nat):Bool:=(List.range H.ng++L).all fun x=>match H.t.get x with
 |some (.cells _ _ elem _ _ _ _ _)=> !Nat.beq elem C2
 |_=>true
def nC(p:Nat→Bool)(H:PH)(L:List Nat):Bool:=(List.range H.ng++L).all (Yd p H)
theorem Sd{ng:Nat}{L:List Nat}{x:Nat}(hL: ∀x∈L,x<2^T.deep)(h:IM ng L x=true):x<ng∨x∈L:=by
 unfold IM at h;rw[DX]at h;rcases h with h|h
 ·exact .inl (AH h)
 ·right;cases e:(Ag (L.map fun x=>(x,())) .nil).get x with
  |none=>rw[e]at h; cases h
  |some u =>
   rcases Bx (fun p hp=>by obtain⟨z,hz,rfl⟩:=Bd.1 hp; exact hL z hz) e with h'|h'
   ·obtain⟨z,hz,e⟩:=Bd.1 h';cases e;exact hz
   ·rw[T.get_nil]at h'; cases h'
theorem R2{H:PH}{L:List Nat}(h:nC (IM H.ng L) H L=true):pF H (IM H.ng L)∧∀x,IM H.ng L x=true→x<H.ng∨x∈L:=by
 have h':=AX.1 h;have Ac: ∀x∈L,x<2^T.deep:=fun x hx=>by
  have:=h' x (DY.2 (.inr hx));unfold Yd at this;rw[AF]at this;exact AH this.1
 have hm: ∀x,IM H.ng L x=true→x<H.ng∨x∈L:=fun x hx=>Sd Ac hx;refine⟨⟨fun g hg=> ?_,fun x hx o ho=> ?_⟩,hm⟩
 ·unfold IM;rw[show Nat.blt g H.ng=true from E4 hg];rfl
 ·have:=h' x (DY.2 ((hm x hx).imp (fun h=>Cq.2 h) id));unfold Yd at this;rw[AF,ho]at this;obtain⟨_,this⟩:=this;split at this
  ·rename_i e; cases e
  ·rename_i t size elem es fam ok D4 e;cases e;exact⟨_,_,_,_,_,_,_,rfl,fun e k hk v hv=>by subst e; exact OG this k hk v hv⟩
  ·cases this
def cJ(s:DS):Option (Value×Value×DS) :=
 match s with
 |⟨fr,cs,H,d⟩=>cond (Nat.beq d 0&&cs.all fun pf=>At pf.todo) (match fr.mode with
  | .run=>match fr.todo with
   | .ops all i (o::l)::k=>cond (Ae fr.kind) (match Aj fr all o with
    |some true=>match o.op with
     | .send x y=>match AQ H.ng fr x with
      |some u=>match AQ H.ng fr y with
       |some v=>match By fr o.dst undef with
        |some tm=>some (u,v,⟨fr.up tm (.ops all (i+1) l::k),cs,⟨0,.nil,0,.nil⟩,0⟩)
        |none=>none
       |none=>none
      |none=>none
     |_=>none
    |_=>none) none
   |_=>none
  |_=>none) none
def TM(p:Nat→Bool)(H:PH)(L:List Nat):List (Nat×AI) :=
 List.rec (motive:=fun _=>List (Nat×AI)) [] (fun x _ ih=>cond (p x) ih (match H.t.get x with
  |some o=>(x,o)::ih
  |none=>ih)) L
def RP(p:Nat→Bool)(n0:Nat)(H:PH)(v:Value):KV :=
 match EO H (DK 6 v)with
 |L=>match TM p H L with
  | []=>⟨n0,n0,v,[],L.filter p⟩
  |nw=>⟨n0,H.next,v,nw,L.filter p⟩
theorem Ry(p:Nat→Bool)(n0:Nat)(H:PH)(v:Value):(RP p n0 H v).v=v∧(RP p n0 H v).news=TM p H (EO H (DK 6 v))∧(RP p n0 H v).low=(EO H (DK 6 v)).filter p:=by
 unfold RP;simp only
 split
 ·rename_i e;exact⟨rfl,e.symm,rfl⟩
 ·exact⟨rfl,rfl,rfl⟩
def bh(pl:List Nat)(kv:KV)(H:PH):Bool:=kv.news.all fun q=>(match q.2 with
  | .cells _ _ _ _ true _ true _=>true
  |_=>false)&&(Nat.beq q.2.fam 0||pl.all fun y=> !Nat.beq (OA H y) q.2.fam)
theorem Ha{p:Nat→Bool}{H:PH}: ∀{L:List Nat} {q:Nat×AI},q∈TM p H L→p q.1=false∧H.t.get q.1=some q.2∧q.1∈L
 | [],q,h=>by cases h
 |x::L,q,h=>by
  unfold TM at h;simp only at h;cases hp:p x with
  |true =>
   rw[hp]at h;obtain⟨h1,h2,h3⟩:=Ha (L:=L) h;exact⟨h1,h2,.tail _ h3⟩
  |false =>
   rw[hp]at h;simp only[Av]at h;split at h
   ·rename_i o e;rcases AZ.1 h with rfl|h
    ·exact⟨hp,e,.head _⟩
    ·obtain⟨h1,h2,h3⟩:=Ha (L:=L) h;exact⟨h1,h2,.tail _ h3⟩
   ·obtain⟨h1,h2,h3⟩:=Ha (L:=L) h;exact⟨h1,h2,.tail _ h3⟩
theorem XU{p:Nat→Bool}{pl:List Nat}(Yk: ∀y,p y=true→y∈pl){n0:Nat}{H:PH}{v:Value}(h:bh pl (RP p n0 H v) H=true):gD p (RP p n0 H v) H:=by
 obtain⟨zD,zC,kv3⟩:=Ry p n0 H v;refine⟨fun q hq=> ?_,fun ρ c w hH v' hv q hq=> ?_⟩
 ·obtain⟨h1,h2,h3⟩:=Ha (by rw[zC]at hq; exact hq);have:=AX.1 h q hq;rw[AF,DX]at this;refine⟨h1,h2, ?_,fun y hy o ho hf=> ?_⟩
  ·have:=this.1;split at this
   ·rename_i e;exact⟨_,_,_,_,_,_,e⟩
   ·cases this
  ·rcases this.2 with h|h
   ·rw[AJ h]; exact hf
   ·have:=AX.1 h y (Yk y hy);unfold OA at this;rw[ho]at this;intro e;rw[show Nat.beq o.fam q.2.fam=true by rw[e]; exact Nat.beq_refl _]at this;cases this
 ·rw[zD]at hv;rw[zC]at hq;exact GF hH IJ _ _ _ (Ej 6 hv) (fun x hx=>by cases hx) q.1 (Ha hq).2.2
def Tb(C:CB)(xs:T XK)(ty j:Nat)(pg:PG)(H:PH)(s2:DS):Bool :=
 match pg.wg with
 |none=>gz C xs j s2
 |some (a,_)=>Nat.blt a (2^T.deep)&&((match H.t.get a with
  |some (.cells _ 2 x9 _ _ 0 _ _)=>Nat.beq x9 ty
  |_=>false)&&q0 C xs a j s2)
def TY(C:CB)(xs:T XK)(ks:T (List AM))(ty j:Nat)(p:Nat→Bool)(pl:List Nat)(pg:PG)(s0:DS):Option KV :=
 match pg.AY with|some _=>none|none=>match Hb C xs ks j s0 with
 |⟨fr,cs,H,d⟩=>match cJ ⟨fr,cs,H,d⟩with
  |some (.chan (some ch),v,s2)=>cond (Nat.beq ch pg.ch&&(bh pl (RP p s0.H.next H v) H&&Tb C xs ty j pg H s2)) (some (RP p s0.H.next H v)) none
  |_=>none
theorem Xd{s s2:DS}{u v:Value}(h:cJ s=some (u,v,s2)): ∃all i o l k x y tm,s.fr.mode= .run∧s.fr.todo= .ops all i (o::l)::k∧s.fr.kind≠ .early∧Aj s.fr all o=some true∧o.op= .send x y∧AQ s.H.ng s.fr x=some u∧AQ s.H.ng s.fr y=some v∧s.d=0∧By s.fr o.dst undef=some tm∧
  (s.cs.all fun pf=>At pf.todo)=true∧s2=⟨{s.fr with tmps:=tm,todo:= .ops all (i+1) l::k},s.cs,⟨0,.nil,0,.nil⟩,0⟩:=by
 obtain⟨fr,cs,H,d⟩:=s;unfold cJ at h;simp only at h;cases e0:(Nat.beq d 0&&cs.all fun pf=>At pf.todo)with
 |false=>rw[e0]at h; cases h
 |true =>
  rw[e0]at h;rw[AF]at e0;simp only[AG]at h;split at h
  ·rename_i hm;split at h
   ·rename_i all i o l k ht;cases hk:Ae fr.kind with
    |false=>rw[hk]at h; cases h
    |true =>
     rw[hk]at h;simp only[AG]at h;split at h
     ·rename_i hw;split at h
      ·rename_i x y A5;split at h
       ·rename_i u' ex;split at h
        ·rename_i v' ey;split at h
         ·rename_i tm ep;simp only[AE,AR]at h;obtain⟨rfl,rfl,rfl⟩:=h;exact⟨all,i,o,l,k,x,y,tm,hm,ht,(fun e=>by rw[e]at hk; cases hk),hw,A5,ex,ey,AJ e0.1,ep,e0.2,rfl⟩
         ·cases h
        ·cases h
       ·cases h
      ·cases h
     ·cases h
   ·cases h
  ·cases h
section
variable{C:CB}{xs:T XK}{ks:T (List AM)}{ty:TypeId}{Post:Value→World→Prop}
theorem V7(hC:An C)(Au:C9 C.P xs){j:Nat}{pg:PG}{H:PH}{s2:DS}(h:Tb C xs ty j pg H s2=true) :
  (pg.wg=none∧gF C.P s2)∨∃a φ,pg.wg=some (a,φ)∧(∃t es own ok D4,H.t.get a=some (.cells t 2 ty es own 0 ok D4))∧Nh C.P ty Post a .cnt s2:=by
 unfold Tb at h;split at h
 ·rename_i e;exact .inl ⟨e,LM hC Au h⟩
 ·rename_i a φ e;simp only[AF]at h;obtain⟨h1,h2,h3⟩:=h;refine .inr ⟨a,φ,e, ?_,Uy hC Au (AH h1) h3⟩;split at h2
  ·rename_i e2;have:=AJ h2;subst this;exact⟨_,_,_,_,_,e2⟩
  ·cases h2
theorem TX(hC:An C)(Au:C9 C.P xs)(Fw:Ez C ty Post false ks){j:Nat}{p:Nat→Bool}{pl:List Nat}(Yk: ∀y,p y=true→y∈pl){pg:PG}{s0:DS}{kv:KV}(h:TY C xs ks ty j p pl pg s0=some kv):JA C.P ty Post p pg kv s0∧∀x∈kv.low,p x=true:=by
 have hr:Cm C.P ty Post false s0 (Hb C xs ks j s0):=FX (E:=⟨some (0,⟨fun _ _ _=>True,fun _ _ _ _ _ _=>trivial⟩),none,none,none,[],fun _=>False,fun _=>False,default,fun _=>none,fun _=>False,default⟩) hC Au Fw (.inr (by simp)) j s0;unfold TY at h;split at h
 ·cases h
 rename_i BW;generalize Hb C xs ks j s0=s1 at h hr;obtain⟨fr,cs,H,d⟩:=s1;simp only at h;split at h
 ·rename_i ch v s2 e1;cases ec:(Nat.beq ch pg.ch&&(bh pl (RP p s0.H.next H v) H&&Tb C xs ty j pg H s2))with
  |false=>rw[ec]at h; cases h
  |true =>
   rw[ec]at h;simp only[AF]at ec;obtain⟨ec,eb,ef⟩:=ec;have ec:=AJ ec;subst ec;simp only[AG,AE]at h;subst h;obtain⟨all,i,o,l,k,x,y,tm,g1,g2,g3,g4,g5,g6,g7,g8,g9,g10,rfl⟩:=Xd e1;obtain⟨zD,zC,kv3⟩:=Ry p s0.H.next H v;exact⟨JA.send BW hr g1 g2 g3 g4 g5 g6 (by rw[zD]; exact g7) g8 g9 g10 (XU Yk eb) (V7 hC Au ef),fun z hz=>(B8.1 (by rw[kv3]at hz; exact hz)).2⟩
 ·cases h
def ZP(C:CB)(xs:T XK)(ks:T (List AM))(ty j:Nat)(pg:PG)(H H':PH)(L S:List Nat)(d:Deferred):Option KV :=
 cond (nA H L&&(rY H S&&(nC (IM H'.ng L) H' L&&((match d with
  |⟨.fn (.func _) ys,AAe⟩=>AAe.toList.all (Zj (IM H'.ng L) 6)&&ys.toList.all (Zj (IM H'.ng L) 6)
  |_=>false)&&(IM H'.ng L pg.ch&&(match pg.wg with
   |none=>true
   |some (a,_)=>IM H'.ng L a)))))) (TY C xs ks ty j (IM H'.ng L) (List.range H'.ng++L) pg (QJ C.P d H')) none
def Xc(C:CB)(xs:T XK)(ks:T (List AM))(ty j:Nat)(pg:PG)(s:DS):Option Dm :=
 match s with
 |⟨fr,cs,H,d⟩=>cond (Nat.beq d 0&&(!pg.closed&&(Nat.beq pg.cap 0||Nat.blt pg.kids.length pg.cap))) (match fr.mode with
  | .run=>match fr.todo with
   | .ops all i (o::l)::k=>cond (Ae fr.kind) (match Aj fr all o with
    |some true=>match o.op with
     | .go c=>match EM H.ng fr o c with
      |some df=>match By fr o.dst undef with
       |some tm=>match XM pg.wg with
        |some Je=>match EO H (I5 df)with
         |L=>match Lo H L with
          |S=>match H.Ho (CC S H.t)with
           |H'=>match ZP C xs ks ty j pg H H' L S df with
            |some kv=>some ⟨.AP {pg with kids:=pg.kids++ [kv],wg:=Je},⟨fr.up tm (.ops all (i+1) l::k),cs,H',d⟩⟩
            |none=>none
        |none=>none
       |none=>none
      |none=>none
     |_=>none
    |_=>none) none
   |_=>none
  |_=>none) none
theorem Ay{α:Type}{b:Bool}{x:Option α}{y:α}(h:cond b x none=some y):b=true∧x=some y:=by
 cases b with
 |true=>exact⟨rfl,h⟩
 |false=>cases h
theorem OE{ρ:Ah}{d d':Deferred}(h:SN ρ d d'): ∀x∈I5 d,∃B,ρ x=some B:=by
 intro x hx;cases h with
 |mk ht Hp =>
  rename_i t t' xs xs';cases ht with
  |fn hf hy =>
   rename_i f f' ys Ij;cases hf with
   |func g =>
    unfold I5 at hx;simp only[DY,List.mem_flatMap]at hx;have look: ∀{l l':List Value},CE ρ l l'→(∃a∈l,x∈DK 6 a)→∃B,ρ x=some B:=fun hl ⟨a,ha,hxa⟩=>by
     obtain⟨q,hq⟩:=List.getElem?_of_mem ha;obtain⟨v',_,hv⟩:=hl.get q a hq;exact Ej 6 hv x hxa
    exact hx.elim (look Hp) (look hy)
   |_=>cases hx
  |_=>cases hx
theorem Sn{main:Bool}(hC:An C)(Au:C9 C.P xs)(Fw:Ez C ty Post false ks){j:Nat}{pg:PG}{s:DS}{y:Dm}(h:Xc C xs ks ty j pg s=some y):AU C.P ty Post main ⟨.AP pg,s⟩ [y]:=by
 obtain⟨fr,cs,H,d⟩:=s;unfold Xc at h;simp only at h;cases e0:(Nat.beq d 0&&(!pg.closed&&(Nat.beq pg.cap 0||Nat.blt pg.kids.length pg.cap)))with
 |false=>rw[e0]at h; cases h
 |true =>
  rw[e0]at h;simp only[AF,DX,BI]at e0;obtain⟨hd,Dq,A2⟩:=e0;simp only[AG]at h;split at h
  ·rename_i hm;split at h
   ·rename_i all i o l k ht;cases hk:Ae fr.kind with
    |false=>rw[hk]at h; cases h
    |true =>
     rw[hk]at h;simp only[AG]at h;split at h
     ·rename_i hw;split at h
      ·rename_i c A5;split at h
       ·rename_i df ed;split at h
        ·rename_i tm ep;split at h
         ·rename_i Je ewg;split at h
          ·rename_i kv XF;simp only[AE]at h;subst h;unfold ZP at XF;obtain⟨e1,XF⟩:=Ay XF
           ·simp only[AF]at e1;obtain⟨g0,g1,g2,g3,g4,g5⟩:=e1;obtain⟨hK,DJ⟩:=R2 g2;have El:(H.Ho (CC (Lo H (EO H (I5 df))) H.t)).ng=H.ng:=by cases H; rfl
            obtain⟨WQ,QU⟩:=TX (Post:=Post) hC Au Fw (fun y hy=>DY.2 ((DJ y hy).imp (fun h=>Cq.2 h) id)) XF;refine AU.spawn (s:=⟨fr,cs,H,d⟩) hm ht (fun e=>by rw[e]at hk; cases hk) hw A5 ed ep (AJ hd) Dq (A2.imp (fun h=>AJ h) fun h=>AH h) ewg (Qd g1) hK ?_ g4 ?_ ?_ (.inr ?_) QU ?_ WQ
            ·unfold jJ;split at g3
             ·simp only[AF]at g3;exact g3
             ·cases g3
            ·intro a φ e;rw[e]at g5;exact g5
            ·intro k ek;unfold TY at XF;rw[ek]at XF;cases XF
            ·intro x t size elem es own fam ok D4 hx hg he;have:=AX.1 g0 x (DY.2 ((DJ x hx).imp (fun h=>Cq.2 (by rw[← El]; exact h)) id));have hg:H.t.get x=_:=hg;rw[hg,he]at this;simp[C2]at this
            ·intro ρ c' w hH d' Oz x hx;rcases DJ x (QU x hx)with h|h
             ·obtain⟨B,hB,_⟩:=hH.EK x (by rw[← El]; exact h);exact⟨B,hB⟩
             ·exact GF hH IJ _ _ _ (OE Oz) (fun x hx=>by cases hx) x h
          ·cases h
         ·cases h
        ·cases h
       ·cases h
      ·cases h
     ·cases h
   ·cases h
  ·cases h
end
end Go.Gd
namespace Go.Gd
open Go Go.Gw Go.Conc
def Z1(base:List Frame)(ρ:Ah)(l:List PF)(m:List Frame):Prop:= ∃m',m=m'++base∧Q8 ρ l m' []
def ZD(base:List Frame)(ρ:Ah)(s:DS)(g:Goroutine):Prop:= ∃fr cs,g=G fr cs∧Br ρ s.fr fr []∧Z1 base ρ s.cs cs
theorem Z1.nil{base:List Frame}{ρ:Ah}:Z1 base ρ [] base:=⟨[],rfl,.nil⟩
theorem Z1.push{base:List Frame}{ρ:Ah}{l:List PF}{m:List Frame}(h:Z1 base ρ l m){pf:PF}{fr:Frame}(hf:Br ρ pf fr []):Z1 base ρ (pf::l) (fr::m):=by
 obtain⟨m',rfl,h⟩:=h;exact⟨fr::m',rfl,.cons (pd:= []) (pds:= []) hf h⟩
theorem Z1.cons_inv{base:List Frame}{ρ:Ah}{pf:PF}{l:List PF}{m:List Frame}(h:Z1 base ρ (pf::l) m): ∃fr m',m=fr::m'∧Br ρ pf fr []∧Z1 base ρ l m':=by
 obtain⟨m',rfl,h⟩:=h;generalize hz:([]:List Nat)=z at h;cases h with
 |cons h1 ht =>
  obtain⟨zy,zx⟩:=List.append_eq_nil_iff.1 hz.symm;subst zy zx;exact⟨_,_,rfl,h1,_,rfl,ht⟩
theorem Z1.Co{base:List Frame}{ρ:Ah}{m:List Frame}(h:Z1 base ρ [] m):m=base:=by
 obtain⟨m',rfl,h⟩:=h;generalize hz:([]:List Nat)=z at h;cases h;rfl
def pE(P:Program)(base:List Frame)(s s':DS):Prop:= ∀ρ g,ZD base ρ s g→∃g' es,ZD base ρ s' g'∧g.status= .running∧g'.status= .running∧(∀e∈es,Event.mute e=true)∧(∀w,stepG P false g w= .go g' w es)∧deafBehind s.d es=s'.d
def gE(P:Program)(ty:TypeId)(sz a:Nat)(base:List Frame)(s s':DS):Prop:= ∀ρ g w,ZD base ρ s g→(∃B,ρ a=some B∧w.shape? B.blk=some (ty,sz))→∃g' es,ZD base ρ s' g'∧g.status= .running∧g'.status= .running∧(∀e∈es,(MemAct.ofEvent e).touch?=none∧∀a,MemAct.ofEvent e≠ .mark (.release a))∧stepG P false g w= .go g' w es∧deafBehind s.d es=s'.d
section
variable{P:Program}{C:CB}{xs:T XK}{ty:TypeId}{ρ:Ah}{base:List Frame}
theorem pE.q{s s':DS}{sz a:Nat}(h:pE P base s s'):gE P ty sz a base s s':=fun ρ g w hg _=>by
 obtain⟨g',es,h1,h2,WX,h3,h4,h5⟩:=h ρ g hg;refine⟨g',es,h1,h2,WX,fun e he=> ?_,h4 w,h5⟩;have:=h3 e he;unfold Event.mute at this;split at this
 ·exact⟨rfl,by simp[MemAct.ofEvent]⟩
 ·exact⟨rfl,by simp[MemAct.ofEvent]⟩
 ·cases this
theorem TR{C:CB}(hC:An C){xs:T XK}(Au:C9 C.P xs){s s':DS}(hp:N1 C xs s=some s'):pE C.P base s s':=by
 obtain⟨fr,cs,H,d⟩:=s;rintro ρ g ⟨rf,Mt,rfl,hf,hc⟩;replace hf:Br ρ fr rf []:=hf;replace hc:Z1 base ρ cs Mt:=hc;unfold N1 at hp;simp only at hp;split at hp
 ·rename_i hm;split at hp
  ·rename_i all i o l k ht;cases hk:Ae fr.kind with
   |false=>rw[hk]at hp; cases hp
   |true =>
    rw[hk]at hp;simp only[AG]at hp;have CP:rf.kind≠ .early:=fun e=>by rw[hf.kind]at e; rw[e]at hk; cases hk
    obtain⟨Dj,ho,A9,rest,m,e,E0,Ky⟩:=hf.ops ht;split at hp
    ·cases hp
    ·rename_i hw;split at hp
     ·rename_i tm e1;cases hp;exact⟨_,#[],⟨_,_,rfl,hf.put ht e1 (.tuple .nil),hc⟩,rfl,rfl,by simp,fun w=>FE (Br.run hf hm) e ho (BE (fun _ _ t v _ _ hv=>A9 t v hv) hw),rfl⟩
     ·cases hp
    ·rename_i hw;split at hp
     ·rename_i v e1;split at hp
      ·rename_i tm e2;cases hp;obtain⟨D7,v',h1,h2⟩:=Vz (CJ.zero A9 o) e1;refine⟨_,#[],⟨_,_,rfl,hf.put ht e2 h1,hc⟩,rfl,rfl,by simp,fun w=> ?_,rfl⟩;have:=Cv (P:=C.P) (main:=false) (cs:=Mt) (Br.run hf hm) e ho (BE (fun _ _ t v _ _ hv=>A9 t v hv) hw) CP (fun c hc=>absurd hc (D7 c)) (.inl (h2 w));rw[seen_none]at this;exact this
      ·cases hp
     ·cases hp
  ·split at hp
   ·rename_i pf e1;cases hp;obtain⟨IC,h1,h2⟩:=NX (P:=C.P) (main:=false) e1 hf;exact⟨_,#[],⟨IC,Mt,rfl,h1,hc⟩,rfl,rfl,by simp,fun w=>h2 Mt w,rfl⟩
   ·cases hp
 ·rename_i hm;have R6:fr.mode≠ .run:=fun e=>hm e;have eI:=hf.mode.La R6;split at hp
  ·rename_i f ys AAe ds ed;have G2:=hf.defers;rw[ed]at G2;obtain⟨d',XG,e1,IX,Ys⟩:=G2.cons_inv;cases IX with
   |mk Zl hx =>
    rename_i t' xs';cases Zl with
    |fn Gv Li =>
     rename_i NS Ij;cases Gv;have eV:Br ρ (fr.OO ds) {rf with defers:=XG} []:=hf.IG Ys;split at hp
     ·rename_i ek;cases hp;refine⟨_,#[⟨.mark .enable,false,true⟩],⟨_,_,rfl,eV,hc⟩,rfl,rfl,by simp[Event.mute],fun w=> ?_,rfl⟩;exact Fj (Au f _ ek) eI e1 (v:=undef) (es:= #[⟨.mark .enable,false,true⟩]) rfl (by simp)
     ·rename_i ek;cases hp;refine⟨_,#[⟨.mark .disable,false,true⟩],⟨_,_,rfl,eV,hc⟩,rfl,rfl,by simp[Event.mute],fun w=> ?_,rfl⟩;exact Fj (Au f _ ek) eI e1 (v:=undef) (es:= #[⟨.mark .disable,false,true⟩]) rfl (by simp)
     ·cases hp
  ·rename_i ed;split at hp
   ·rename_i eC;cases JG:At fr.todo with
    |false=>rw[JG]at hp; cases hp
    |true =>
     rw[JG]at hp;simp only[AG]at hp;split at hp
     ·rename_i pc cs';split at hp
      ·rename_i fn e1;split at hp
       ·rename_i vs e2;obtain⟨B4,BD,rfl,E1,Oc⟩:=hc.cons_inv;obtain⟨_,_,A9⟩:=hf.Dl JG;obtain⟨v',q1,q2⟩:=M1 (P:=C.P) A9 e2;have Dp:rf.mode= .returning:=hf.mode.MG.2 eC;have I1:rf.defers= []:=by
         have:=hf.defers;rw[ed]at this;exact this.Co
        have Aq: ∀w,stepG C.P false (G rf (B4::BD)) w=doReturn C.P false rf (B4::BD) none v' w:=fun w=>by
         have:=Er (P:=C.P) (main:=false) (cs:=B4::BD) Dp I1 (by rw[hf.fn]; exact hC.fns _ _ e1) (q2 w);rw[seen_none]at this;rw[this];cases doReturn C.P false rf (B4::BD) none v' w<;>simp[GStep.after]
        split at hp
        ·rename_i ek;split at hp
         ·rename_i m e3;cases hp;obtain⟨m',r1,r2⟩:=Na E1.mode e3;refine⟨G {B4 with mode:=m'} BD,#[],⟨_,_,rfl,⟨E1.fn,E1.size,E1.todo,E1.defers,r1,E1.kind,E1.round⟩,Oc⟩,rfl,rfl,by simp,fun w=> ?_,rfl⟩;rw[Aq w];have KZ:rf.kind= .deferred:=by rw[hf.kind]; exact ek
          have:=r2 B4 rfl;simp only[doReturn,KZ,G];exact congrArg (fun f:Frame=>GStep.go ({frame:=f,callers:=BD,status:= .running,dying:=none}:Goroutine) w) this
         ·cases hp
        ·rename_i ek;split at hp
         ·rename_i all i o l k et;split at hp
          ·rename_i tm e3;cases hp;refine⟨G (B4.finish v') BD,#[],⟨_,_,rfl,E1.put et e3 q1,Oc⟩,rfl,rfl,by simp,fun w=> ?_,rfl⟩;rw[Aq w];have KZ:rf.kind= .normal:=by rw[hf.kind]; exact ek
           simp[doReturn,KZ,G]
          ·cases hp
         ·cases hp
        ·cases hp
       ·cases hp
      ·cases hp
     ·cases hp
   ·cases hp
  ·cases hp
def cF(C:CB)(sz a:Nat)(pf:PF)(o:Oper):Option Value :=
 match o.op with
 | .fieldAddr t x k=>match AQ 0 pf x with
  |some (.pointer (some b))=>LL C.ty t k b
  |_=>none
 | .convert s t x=>match AQ 0 pf x with
  |some (.pointer (some b))=>HX C.ty ⟨0,T.nil.set a (.cells .nil sz 0 0 false 0 false false),0,.nil⟩ s t b
  |_=>none
 |_=>none
theorem aB(hC:An C){sz a:Nat}{pf:PF}{fr:Frame}{o:Oper}(h:CJ 0 ρ pf fr o){v:Value}(hp:cF C sz a pf o=some v){w:World}(hs: ∃B,ρ a=some B∧w.shape? B.blk=some (ty,sz))(ha:a<2^T.deep):(∀c,o.op≠ .defer c)∧∃v',VR ρ v v'∧(execOp fr.eval o).runT C.P w #[]=(.ok (.value v') w,#[]):=by
 unfold cF at hp;split at hp
 ·rename_i t x k ho;refine⟨(fun c e=>by rw[ho]at e; cases e), ?_⟩;split at hp
  ·rename_i b hx;have hv:=h x (by simp[ho,Op.operands]) _ hx;unfold LL at hp;split at hp
   ·rename_i ti fs e1;split at hp
    ·rename_i f e2;split at hp
     ·rename_i n e3;cases e4:Nat.beq n 0 with
      |true=>rw[e4]at hp; cases hp
      |false =>
       rw[e4]at hp;simp only[Av,AE]at hp;subst hp;generalize C6:fr.eval x=u' at hv;cases hv with
       |ptr hB =>
        rename_i B;refine⟨_,VR.ML hB f.offset, ?_⟩;have vp:(fieldPlace {b with block:=B.blk} f).runT C.P w #[]=(.ok (({b with block:=B.blk}:Addr).add f.offset) w,#[]):=by
         show((sizeOf f.type).bind fun n=>if n=0 then partAt {b with block:=B.blk} f.offset f.byteOffset else pure (({b with block:=B.blk}:Addr).add f.offset)).runT C.P w #[]=_;rw[AB (Ef hC.ty e3 _),AA (Bl e4)];rfl
        have AT:(Instr.fieldAt t (.pointer (some {b with block:=B.blk})) k).runT C.P w #[]=(.ok (.pointer (some (({b with block:=B.blk}:Addr).add f.offset))) w,#[]):=by
         unfold Instr.fieldAt;refine(AB (s:=underlying t) (Aa (hC.ty _ _ e1).2)).trans ?_;have e2':fs[k]? =some f:=by rw[← CQ]; exact e2
         simp only[e2'];refine(AB (s:=Instr.sureAddr (.pointer (some {b with block:=B.blk}))) (a:={b with block:=B.blk}) (w':=w) (es':= #[]) rfl).trans ?_;show((fieldPlace {b with block:=B.blk} f).bind fun p=>pure (Value.pointer (some p))).runT C.P w #[]=_;rw[AB vp];rfl
        have BB:execOp fr.eval o=(Instr.fieldAt t (.pointer (some {b with block:=B.blk})) k).bind fun r=>Sem.pure (Next.value r):=by
         unfold execOp; rw[ho]; show(Instr.fieldAt t (fr.eval x) k).bind _=_; rw[C6]; rfl
        rw[BB,AB AT];rfl
     ·cases hp
    ·cases hp
   ·cases hp
  ·cases hp
 ·rename_i s t x ho;refine⟨(fun c e=>by rw[ho]at e; cases e), ?_⟩;split at hp
  ·rename_i b hx;have h1:=h x (by simp[ho,Op.operands]) _ hx;unfold HX at hp;split at hp
   ·rename_i si e e1;split at hp
    ·rename_i ti td e2;obtain⟨eu,He⟩:=upT_cond hp;replace hp:=He;cases td<;>first|exact(Bool.false_ne_true eu).elim|skip
     split at hp
     ·rename_i n e3;split at hp
      ·rename_i e4;split at hp
       ·rename_i tr size el es own fam ok D4 e5;replace e5:(T.nil.set a (.cells .nil sz 0 0 false 0 false false)).get b.block=some (AI.cells tr size el es own fam ok D4):=e5;rw[T.AW _ _ _ _ ha]at e5;by_cases eb:b.block=a
        ·rw[AD eb]at e5;cases e5;cases e6:(!Nat.beq n 0&&Nat.blt b.off sz)with
         |false=>rw[e6]at hp; cases hp
         |true =>
          rw[e6]at hp;simp only[AG,AE]at hp;subst hp;simp only[AF,BI]at e6;have c1:=Bl e6.1;have c2:b.off<sz:=AH e6.2;generalize C6:fr.eval x=u at h1;cases h1 with
          |ptr hB =>
           rename_i B;obtain⟨B',O0,nQ⟩:=hs;rw[eb,O0]at hB;cases hB;refine⟨_,.ptr (a:=b) (B:=B) (by rw[eb]; exact O0), ?_⟩;have Yi: ∀es,(shape B.blk).runT C.P w es=(.ok (some (ty,sz)) w,es):=fun es=>by
            show(Sem.shape B.blk .pure).runT C.P w es=_;simp only[Sem.runT,nQ]
           have WB: ∀es,(viewAt B.blk).runT C.P w es=(.ok none w,es):=fun es=>by
            unfold viewAt;refine(AB (Yi es)).trans ?_;rfl
           have WH: ∀es,(Conv.seenAt {b with block:=B.blk}).runT C.P w es=(.ok {b with block:=B.blk} w,es):=fun es=>by
            unfold Conv.seenAt;refine(AB (WB es)).trans ?_;rfl
           have QY: ∀es,(_root_.Go.cellsIn B.blk).runT C.P w es=(.ok (some sz) w,es):=fun es=>by
            unfold _root_.Go.cellsIn;refine(AB (Yi es)).trans ?_;rfl
           have AT:(Go.convert s t (.pointer (some {b with block:=B.blk}))).runT C.P w #[]=(.ok (.pointer (some {b with block:=B.blk})) w,#[]):=by
            unfold Go.convert;refine(AB (s:=underlying s) (Aa (hC.ty _ _ e1).2)).trans ?_;refine(AB (s:=underlying t) (Aa (hC.ty _ _ e2).2)).trans ?_;refine(AB (s:=underlying s) (Aa (hC.ty _ _ e1).2)).trans ?_;refine(AB (s:=underlying t) (Aa (hC.ty _ _ e2).2)).trans ?_;refine(AB (WH _)).trans ?_;refine(AB (QY _)).trans ?_;refine(AB (Ef hC.ty e3 _)).trans ?_;have bD:(decide (b.off≥sz)&&b.spot.isNone)=false:=by
             have: ¬b.off≥sz:=by omega
             simp[this]
            simp only[bD];rw[AA (by simp; exact c1)];rfl
           have BB:execOp fr.eval o=(Go.convert s t (.pointer (some {b with block:=B.blk}))).bind fun r=>Sem.pure (Next.value r):=by
            unfold execOp; rw[ho]; simp only[C6]; rfl
           rw[BB,AB AT];rfl
        ·rw[AA eb]at e5; cases e5
       ·cases hp
      ·cases hp
     ·cases hp
    ·cases hp
   ·cases hp
  ·cases hp
 ·cases hp
def jq(C:CB)(xs:T XK)(sz a:Nat)(fr:PF)(cs:List PF)(H:PH)(d:Nat)(all:Array Oper)(i:Nat)(o:Oper)(l:List Oper)(k:List Ab):Option DS :=
 match LO xs 0 fr o with
 |some (x,vs)=>match Uc x vs d with
  |some (v,d')=>match By fr o.dst v with
   |some tm=>some ⟨fr.up tm (.ops all (i+1) l::k),cs,H,d'⟩
   |none=>none
  |none=>none
 |none=>match cF C sz a fr o with
  |some v=>match By fr o.dst v with
   |some tm=>some ⟨fr.up tm (.ops all (i+1) l::k),cs,H,d⟩
   |none=>none
  |none=>match o.op with
   | .call c=>match Oj C fr c with
    |some (g,fn,body,args)=>some ⟨CN g fn body args .normal,fr::cs,H,d⟩
    |none=>none
   | .defer c=>match fr.round with
    |none=>match EM 0 fr o c with
     |some df=>match By fr o.dst undef with
      |some tm=>some ⟨fr.x7 tm (.ops all (i+1) l::k) df,cs,H,d⟩
      |none=>none
     |none=>none
    |_=>none
   |_=>none
def M6(C:CB)(xs:T XK)(sz a:Nat)(s:DS):Option DS :=
 match N1 C xs s with
 |some s'=>some s'
 |none=>match s with
  |⟨fr,cs,H,d⟩=>match fr.mode with
   | .run=>match fr.todo with
    | .ops all i (o::l)::k=>cond (Ae fr.kind) (match Aj fr all o with
     |some true=>jq C xs sz a fr cs H d all i o l k
     |_=>none) none
    |_=>none
   |_=>match fr.defers with
    |⟨.fn (.func f) ys,AAe⟩::ds=>match C.fns.get f with
     |some fn=>match fn.body with
      |some body=>cond (A4 fn&&Nat.ble (AAe.toList.length+ys.toList.length) (2^T.deep)) (some ⟨CN f fn body (AAe.toList++ys.toList) .deferred,fr.OO ds::cs,H,d⟩) none
      |none=>none
     |none=>none
    |_=>none
theorem Im(hC:An C)(Au:C9 C.P xs){sz a:Nat}(ha:a<2^T.deep){s s':DS}(hp:M6 C xs sz a s=some s'):gE C.P ty sz a base s s':=by
 unfold M6 at hp;split at hp
 ·rename_i gL e;cases hp;exact(TR hC Au e).q
 ·obtain⟨fr,cs,H,d⟩:=s;rintro ρ g w ⟨rf,Mt,rfl,hf,hc⟩ Yi;replace hf:Br ρ fr rf []:=hf;replace hc:Z1 base ρ cs Mt:=hc;simp only at hp;split at hp
  ·rename_i hm;split at hp
   ·rename_i all i o l k ht;cases hk:Ae fr.kind with
    |false=>rw[hk]at hp; cases hp
    |true =>
     rw[hk]at hp;simp only[AG]at hp;have CP:rf.kind≠ .early:=fun e=>by rw[hf.kind]at e; rw[e]at hk; cases hk
     have NL:fr.kind≠ .early:=fun e=>by rw[e]at hk; cases hk
     obtain⟨Dj,ho,A9,rest,m,e,E0,Ky⟩:=hf.ops ht;split at hp
     ·rename_i hw;have N4:=BE (fun _ _ t v _ _ hv=>A9 t v hv) hw;unfold jq at hp;split at hp
      ·rename_i x vs ex;split at hp
       ·rename_i v d' ev;split at hp
        ·rename_i tm ep;cases hp
         let s0:DS:=⟨fr,cs,⟨0,.nil,0,.nil⟩,d⟩
         have Bg:Kd xs s0 x vs (fun v=>(By fr o.dst v).map fun tm=>{fr with tmps:=tm,todo:= .ops all (i+1) l::k}):=⟨all,i,o,l,k,hm,ht,NL,hw,ex,rfl⟩;obtain⟨f,Ap,_,hx,BO,Bh,_⟩:=Bg.step Au hf (fun o A9=>CJ.zero A9 o);obtain⟨es,q1,q2,q3,q4,q5⟩:=Rh (P:=C.P) (f:=f) hx ev;refine⟨_,es,⟨_,_,rfl,BO v v {fr with tmps:=tm,todo:= .ops all (i+1) l::k} (by simp only[ep]; rfl) q1,hc⟩,rfl,rfl,q3,Bh false Mt w v w es (q2 w) q4,q5⟩
        ·cases hp
       ·cases hp
      ·split at hp
       ·rename_i v ev;split at hp
        ·rename_i tm ep;cases hp;obtain⟨D7,v',h1,h2⟩:=aB (ty:=ty) hC (CJ.zero A9 o) ev Yi ha;refine⟨_,#[],⟨_,_,rfl,hf.put ht ep h1,hc⟩,rfl,rfl,by simp, ?_,rfl⟩;have:=Cv (P:=C.P) (main:=false) (cs:=Mt) (Br.run hf hm) e ho N4 CP (fun c hc=>absurd hc (D7 c)) (.inl h2);rw[seen_none]at this;exact this
        ·cases hp
       ·split at hp
        ·rename_i cl eo;split at hp
         ·rename_i g fn body args ec;cases hp;unfold Oj at ec;obtain⟨callee,AAe,EY⟩:=cl;simp only at ec;split at ec
          ·rename_i fo;split at ec
           ·rename_i g' xs' ys e1;split at ec
            ·rename_i vs e2;split at ec
             ·rename_i NS e3;split at ec
              ·rename_i fv e4;cases e5:A4 NS&&Nat.ble (xs'.toList++vs++ys.toList).length (2^T.deep)with
               |false=>rw[e5]at ec; cases ec
               |true =>
                rw[e5]at ec;simp only[AG,AE,AR]at ec;obtain⟨rfl,rfl,rfl,rfl⟩:=ec;obtain⟨q1,q2⟩:=Bj.1 e5;obtain⟨Ap,a1,a2⟩:=H5 (w:=w) (P:=C.P) (H:=⟨0,.nil,0,.nil⟩) (CJ.zero A9 o) eo e1 (hC.fns _ _ e3) q1 e2;have Aq:=Fi (P:=C.P) (main:=false) (cs:=Mt) ((Br.run hf) hm) e ho N4 CP (fun c hc=>by rw[eo]at hc; cases hc) a2;rw[seen_none]at Aq;exact⟨_,#[],⟨_,_,rfl,Br.enter (hC.fns _ _ e3) e4 a1 (AH q2) .normal,hc.push hf⟩,rfl,rfl,by simp,Aq,rfl⟩
              ·cases ec
             ·cases ec
            ·cases ec
           ·cases ec
          ·cases ec
         ·cases hp
        ·rename_i cl eo;split at hp
         ·rename_i Tg;split at hp
          ·rename_i df ed;split at hp
           ·rename_i tm ep;cases hp;obtain⟨jK,d1,d2⟩:=HD (P:=C.P) (w:=w) (H:=⟨0,.nil,0,.nil⟩) (CJ.zero A9 o) eo ed;have I0:rf.roundOf=none:=by
             have:=hf.round;rw[Tg]at this;generalize rf.roundOf=b at this;cases this; rfl
            have BO:=hf.put ht ep (v':=undef) (.tuple .nil);have vr:Br ρ {fr with tmps:=tm,todo:= .ops all (i+1) l::k,defers:=df::fr.defers} (({rf with defers:=jK::rf.defers}:Frame).finish undef) []:=by
             have e1:({rf with defers:=jK::rf.defers}:Frame).finish undef={rf.finish undef with defers:=jK::rf.defers}:=by
              rw[BV (fr:={rf with defers:=jK::rf.defers}) e ho,BV e ho]
             rw[e1];exact⟨BO.fn,BO.size,BO.todo,.cons d1 hf.defers,BO.mode,BO.kind,BO.round⟩
            refine⟨_,#[],⟨_,Mt,rfl,vr,hc⟩,rfl,rfl,by simp, ?_,rfl⟩;rw[D6 (Br.run hf hm) e ho N4 (fun _ _=>I0)];unfold stepG.apply;have Hs:(rf.kind==CallKind.early)=false:=by simpa using CP
            simp only[Ad,d2,Hs];rfl
           ·cases hp
          ·cases hp
         ·cases hp
        ·cases hp
     ·cases hp
   ·cases hp
  ·rename_i hm;have R6:fr.mode≠ .run:=fun e=>hm e;split at hp
   ·rename_i f ys AAe ds ed;split at hp
    ·rename_i fn e1;split at hp
     ·rename_i body e2;cases e3:A4 fn&&Nat.ble (AAe.toList.length+ys.toList.length) (2^T.deep)with
      |false=>rw[e3]at hp; cases hp
      |true =>
       rw[e3]at hp;simp only[AG,AE]at hp;subst hp;obtain⟨q1,q2⟩:=Bj.1 e3;have q2:=AH q2;have G2:=hf.defers;rw[ed]at G2;obtain⟨d',XG,e4,IX,Ys⟩:=G2.cons_inv;cases IX with
       |mk Zl hx =>
        rename_i t' xs';cases Zl with
        |fn Gv Li =>
         rename_i NS Ij;cases Gv;refine⟨G (Frame.enter C.P f (xs'++Ij) .deferred) ({rf with defers:=XG}::Mt),#[],⟨_,_,rfl,Br.enter (hC.fns _ _ e1) e2 (by simpa using hx.append Li) (by simpa using q2) .deferred,hc.push (hf.IG Ys)⟩,rfl,rfl,by simp, ?_,rfl⟩;rw[DZ (hf.mode.La R6)];unfold unwind;simp only[e4];unfold Go.callDeferred;have hinv:invoke (.fn (.func f) Ij) xs'=callFunc f (xs'++Ij):=rfl;rw[hinv,EA (hC.fns _ _ e1) q1];rfl
     ·cases hp
    ·cases hp
   ·cases hp
end
open Go.Gm (Bo Ct LP MW Ow Tr Si Ng Ib Bz)
section
variable{P:Program}{w:World}{b o:Nat}{f:FuncId}{st:Int}
structure Hl(w:World)(b o:Nat)(k:IntKind)(st:Int):Prop where
 cell:w.cell? ⟨b,o,none⟩=some (.int k st)
 thaw:w.frozen? ⟨b,o,none⟩=false
theorem Hl.ba{k:IntKind}(h:Hl w b o k st):(w.shape? b).isSome=true:=by
 have:=h.cell;unfold World.cell? at this;unfold World.shape?;simp only at this;split at this
 ·rfl
 ·cases this
theorem Zz{k:IntKind}(h:Hl w b o k st)(es:Array Event):(Extern.Atomic.read (.int k) ⟨b,o,none⟩).runT P w es=(.ok (.int k st) w,es.push ⟨.cell ⟨b,o,none⟩,false,true⟩):=by
 unfold Extern.Atomic.read;refine(AB (FL h.cell _)).trans ?_;simp only[Ad];rfl
theorem pA(h:Hl w b o .i32 st)(ky:IntKind)(y:Int):((XK.add .i32).Di #[.pointer (some ⟨b,o,none⟩),.int ky y]).runT P w #[EZ f] =
  (.ok (.int .i32 (IntKind.i32.wrap (st+y))) (w.setCell ⟨b,o,none⟩ (.int .i32 (IntKind.i32.wrap (st+y)))),#[EZ f]++ #[⟨.cell ⟨b,o,none⟩,false,true⟩,⟨.cell ⟨b,o,none⟩,true,true⟩]):=by
 show(Extern.Atomic.read (.int .i32) ⟨b,o,none⟩ >>= fun old=>do
  let new ← Op.intArith .add .i32 (← asInt old) (← asInt (.int ky y))
  store ⟨b,o,none⟩ new .atomic
  pure (if true=true then new else old)).runT P w _=_
 refine(AB (Zz h _)).trans ?_;show(do
  store ⟨b,o,none⟩ (.int .i32 (IntKind.i32.wrap (st+y))) .atomic
  pure (Value.int .i32 (IntKind.i32.wrap (st+y))):Sem Value).runT P w _=_
 exact(AB (Cb h.cell h.thaw rfl _)).trans rfl
theorem oz(h:Hl w b o .i32 st)(ky kz:IntKind)(y z:Int):((XK.Lv .i32).Di #[.pointer (some ⟨b,o,none⟩),.int ky y,.int kz z]).runT P w #[EZ f] =
  if(st==y)=true then(.ok (.bool true) (w.setCell ⟨b,o,none⟩ (.int kz z)),#[EZ f]++ #[⟨.cell ⟨b,o,none⟩,false,true⟩,⟨.cell ⟨b,o,none⟩,true,true⟩])else(.ok (.bool false) w,#[EZ f]++ #[⟨.cell ⟨b,o,none⟩,false,true⟩]):=by
 have G4:((XK.Lv .i32).Di #[.pointer (some ⟨b,o,none⟩),.int ky y,.int kz z]).runT P w #[EZ f]=(do
   if(st==y)=true then Go.store ⟨b,o,none⟩ (.int kz z) .atomic
   pure (.bool (st==y)):Sem Value).runT P w (#[EZ f].push ⟨.cell ⟨b,o,none⟩,false,true⟩):=by
  show(Extern.Atomic.touchesFrozen ⟨b,o,none⟩ >>= fun z=>_).runT P w _=_;refine(AB (PT h.ba h.thaw _)).trans ?_;show(Extern.Atomic.read (.int .i32) ⟨b,o,none⟩ >>= fun old=>_).runT P w _=_;exact(AB (Zz h _)).trans rfl
 rw[G4];cases rI:(st==y)with
 |true =>
  simp only[Ad];exact(AB (Cb h.cell h.thaw rfl _)).trans rfl
 |false=>rfl
theorem Qt(h:Hl w b o .u32 st)(t:List Value)(es:Array Event):(Extern.Sync.count (.pointer (some ⟨b,o,none⟩)::t).toArray).runT P w es=(.ok (⟨b,o,none⟩,st) w,es.push ⟨.cell ⟨b,o,none⟩,false,true⟩):=by
 unfold Extern.Sync.count;have:((Value.pointer (some ⟨b,o,none⟩)::t).toArray)[0]? =some (.pointer (some ⟨b,o,none⟩)):=by simp
 rw[this];refine(AB (FL h.cell _)).trans ?_;rfl
def Jf(a:Addr):Array Event:= #[⟨.mark .disable,false,true⟩,⟨.cell a,false,true⟩,⟨.cell a,true,true⟩,⟨.mark .enable,false,true⟩]
theorem an{s:Nat}(h:Hl w b o .u32 (s+1:Nat))(t:List Value):(XK.EN.Di (.pointer (some ⟨b,o,none⟩)::t).toArray).runT P w #[EZ f]=(.ok undef (w.setCell ⟨b,o,none⟩ (.int .u32 s)),#[EZ f]++Jf ⟨b,o,none⟩):=by
 show(Extern.Sync.semacquire _).runT P w _=_;unfold Extern.Sync.semacquire;refine(AB (HI _ _ _)).trans ?_;refine(AB (Qt h t _)).trans ?_;show((if((s+1:Nat):Int)=0 then Sem.halt .blocked else store ⟨b,o,none⟩ (.int .u32 (((s+1:Nat):Int)-1)) .atomic >>= fun _=>mark .enable >>= fun _=>pure Extern.Sync.none_:Sem Value)).runT P w _=_;rw[AA (by omega),show((s+1:Nat):Int)-1=s by omega];refine(AB (Cb h.cell h.thaw rfl _)).trans ?_;rfl
theorem Y9(h:Hl w b o .u32 0)(t:List Value): ∃es,(XK.EN.Di (.pointer (some ⟨b,o,none⟩)::t).toArray).runT P w #[EZ f]=(.halt .blocked w,es):=by
 refine⟨(#[EZ f].push ⟨.mark .disable,false,true⟩).push ⟨.cell ⟨b,o,none⟩,false,true⟩, ?_⟩;show(Extern.Sync.semacquire _).runT P w _=_;unfold Extern.Sync.semacquire;refine(AB (HI _ _ _)).trans ?_;refine(AB (Qt h t _)).trans ?_;rfl
theorem ak{s:Nat}(hs:s≤2)(h:Hl w b o .u32 s)(t:List Value):(XK.FJ.Di (.pointer (some ⟨b,o,none⟩)::t).toArray).runT P w #[EZ f]=(.ok undef (w.setCell ⟨b,o,none⟩ (.int .u32 (s+1:Nat))),#[EZ f]++Jf ⟨b,o,none⟩):=by
 show(Extern.Sync.semrelease _).runT P w _=_;unfold Extern.Sync.semrelease;refine(AB (HI _ _ _)).trans ?_;refine(AB (Qt h t _)).trans ?_;show(store ⟨b,o,none⟩ (.int .u32 (IntKind.u32.wrap (s+1))) .atomic >>= fun _=>mark .enable >>= fun _=>pure Extern.Sync.none_:Sem Value).runT P w _=_;have:IntKind.u32.wrap ((s:Int)+1)=((s+1:Nat):Int):=by
  have:s=0∨s=1∨s=2:=by omega
  rcases this with rfl|rfl|rfl<;>rfl
 rw[this];refine(AB (Cb h.cell h.thaw rfl _)).trans ?_;rfl
end
theorem Bz.SR{C:Bo}{w:World}{m:MW}{s:Nat}(h:Bz C w m s):Hl w C.lb C.lo .i32 m.val:=⟨h.word,h.th _⟩
theorem Bz.semAt{C:Bo}{w:World}{m:MW}{s:Nat}(h:Bz C w m s):Hl w C.lb (C.lo+1) .u32 s:=⟨h.sema,h.th _⟩
theorem Bz.unique{C:Bo}{w:World}{m m':MW}{s s':Nat}(h:Bz C w m s)(h':Bz C w m' s'):m=m'∧s=s':=by
 have a:=h.word;have b:=h.sema;rw[h'.word]at a;rw[h'.sema]at b;simp only[AE,Value.int.injEq,true_and]at a b;exact⟨Gm.MW.val_inj a.symm,by omega⟩
theorem H6{a:Addr}{es:Array Event}(h: ∀e∈es,(∃wr,e=⟨.cell a,wr,true⟩)∨e=⟨.mark .disable,false,true⟩∨e=⟨.mark .enable,false,true⟩):Gs a es:=by
 refine⟨fun e he b hb=> ?_,fun e he x hx=> ?_⟩
 ·rcases h e he with⟨wr,rfl⟩|rfl|rfl<;>simp[MemAct.ofEvent]at hb
 ·rcases h e he with⟨wr,rfl⟩|rfl|rfl
  ·cases wr<;>cases hx<;>exact⟨rfl,rfl⟩
  ·cases hx
  ·cases hx
theorem Qr(a:Addr):Gs a #[]:=H6 fun e he=>by simp at he
theorem Nq(a:Addr):Gs a (Jf a):=H6 fun e he=>by
 simp[Jf]at he;rcases he with rfl|rfl|rfl|rfl
 ·exact .inr (.inl rfl)
 ·exact .inl ⟨_,rfl⟩
 ·exact .inl ⟨_,rfl⟩
 ·exact .inr (.inr rfl)
theorem Np(a:Addr)(d:Nat):deafBehind d (Jf a)=d:=by
 simp[Jf,deafBehind]
theorem No(a:Addr): ∀e∈Jf a,e.sync=true∧∀g,e.loc≠ .mark (.extern g):=by simp[Jf]
section
variable{P:Program}{ty:TypeId}{Post:Value→World→Prop}{n:Nat}{c:Ctx}{g:Goroutine}{w:World}
theorem W.fW{x:Jb}(hs:g.status= .running)(hx:c.AL=some x)
  (h: ∀w₁,AS c w w₁→∀m s,m.q≤5→Ng x.μ m→Bz x.C w₁ m s→∃g' w' es lp' m',stepG P false g w₁= .go g' w' es∧g'.status= .running∧Gs x.C.wa es∧deafBehind c.d es=c.d∧Qx x m lp' m' w₁ w'∧
   (AS c w₁ w'→∀φ',Q4 x.μ m m' φ'→W P ty Post false n {c with AL:=some {x with μ:={x.μ with lp:=lp',φ:=φ',sn:=some m'}}} g' w')):W P ty Post false (n+1) c g w:=by
 obtain⟨N,hN⟩:=CD (α:=MW×Nat) (Q:=fun w₁ v=>AS c w w₁∧v.1.q≤5∧Ng x.μ v.1∧Bz x.C w₁ v.1 v.2)
  (F:=fun w₁ v N=>stepG P false g w₁= .go N.g N.w N.es∧N.g.status= .running∧Gs x.C.wa N.es∧deafBehind c.d N.es=c.d∧Qx x v.1 N.lp N.m w₁ N.w∧
   (AS c w₁ N.w→∀φ',Q4 x.μ v.1 N.m φ'→W P ty Post false n {c with AL:=some {x with μ:={x.μ with lp:=N.lp,φ:=φ',sn:=some N.m}}} N.g N.w))
  (fun w₁ v v' h1 h2=>by
   obtain⟨e1,e2⟩:=Bz.unique h1.2.2.2 h2.2.2.2;exact Prod.ext e1 e2) (fun w₁ v hv=>by
   obtain⟨g',w',es,lp',m',h1⟩:=h w₁ hv.1 v.1 v.2 hv.2.1 hv.2.2.1 hv.2.2.2;exact⟨{g:=g',w:=w',es:=es,lp:=lp',m:=m'},h1⟩)
 exact .Vv N hs hx (fun w₁ r m s hq IU hl=>let⟨a,b,c,d,e,_⟩:=hN w₁ (m,s) ⟨r,hq,IU,hl⟩; ⟨a,b,c,d,e⟩) fun w₁ r m s hq IU hl hr φ' hf=>(hN w₁ (m,s) ⟨r,hq,IU,hl⟩).2.2.2.2.2 hr φ' hf
theorem W.we{x:Jb}(hs:g.status= .running)(hx:c.AL=some x)(hl:x.μ.lp= .Cs)(ho:g.offers=none)
  (h0: ∀w₁,AS c w w₁→∀m,Bz x.C w₁ m 0→stepG P false g w₁= .go {g with status:= .blocked} w₁ #[])
  (h: ∀w₁,AS c w w₁→∀m s,s≤2→Bz x.C w₁ m (s+1)→∃g' es,stepG P false g w₁= .go g' (w₁.setCell x.C.sa (.int .u32 s)) es∧g'.status= .running∧Gs x.C.sa es∧deafBehind c.d es=c.d∧
   (AS c w₁ (w₁.setCell x.C.sa (.int .u32 s))→W P ty Post false n {c with AL:=some {x with μ:={x.μ with lp:= .up,sn:=none}}} g' (w₁.setCell x.C.sa (.int .u32 s)))):W P ty Post false (n+1) c g w:=by
 obtain⟨N,hN⟩:=CD (α:=MW×Nat) (Q:=fun w₁ v=>AS c w w₁∧v.2≤2∧Bz x.C w₁ v.1 (v.2+1))
  (F:=fun w₁ v N=>stepG P false g w₁= .go N.g (w₁.setCell x.C.sa (.int .u32 v.2)) N.es∧N.g.status= .running∧Gs x.C.sa N.es∧deafBehind c.d N.es=c.d∧
   (AS c w₁ (w₁.setCell x.C.sa (.int .u32 v.2))→W P ty Post false n {c with AL:=some {x with μ:={x.μ with lp:= .up,sn:=none}}} N.g (w₁.setCell x.C.sa (.int .u32 v.2))))
  (fun w₁ v v' h1 h2=>by
   obtain⟨e1,e2⟩:=Bz.unique h1.2.2 h2.2.2;exact Prod.ext e1 (by omega)) (fun w₁ v hv=>by
   obtain⟨g',es,h1⟩:=h w₁ hv.1 v.1 v.2 hv.2.1 hv.2.2;exact⟨{g:=g',w:=w₁,es:=es},h1⟩)
 exact .aJ N hs hx hl ho h0 (fun w₁ r m s hq hl=>let⟨a,b,c,d,_⟩:=hN w₁ (m,s) ⟨r,hq,hl⟩; ⟨a,b,c,d⟩) fun w₁ r m s hq hl hr=>(hN w₁ (m,s) ⟨r,hq,hl⟩).2.2.2.2 hr
theorem W.jI{x:Jb}(hs:g.status= .running)(hx:c.AL=some x)(hl:x.μ.lp= .rel)(hw:mayWake P g=true)
  (h: ∀w₁,AS c w w₁→∀m s,s≤2→Bz x.C w₁ m s→∃g' es,stepG P false g w₁= .go g' (w₁.setCell x.C.sa (.int .u32 (s+1:Nat))) es∧g'.status= .running∧Gs x.C.sa es∧deafBehind c.d es=c.d∧
   (AS c w₁ (w₁.setCell x.C.sa (.int .u32 (s+1:Nat)))→W P ty Post false n {c with AL:=some {x with μ:={x.μ with lp:= .fin,sn:=none}}} g' (w₁.setCell x.C.sa (.int .u32 (s+1:Nat))))):W P ty Post false (n+1) c g w:=by
 obtain⟨N,hN⟩:=CD (α:=MW×Nat) (Q:=fun w₁ v=>AS c w w₁∧v.2≤2∧Bz x.C w₁ v.1 v.2)
  (F:=fun w₁ v N=>stepG P false g w₁= .go N.g (w₁.setCell x.C.sa (.int .u32 (v.2+1:Nat))) N.es∧N.g.status= .running∧Gs x.C.sa N.es∧deafBehind c.d N.es=c.d∧
   (AS c w₁ (w₁.setCell x.C.sa (.int .u32 (v.2+1:Nat)))→W P ty Post false n {c with AL:=some {x with μ:={x.μ with lp:= .fin,sn:=none}}} N.g (w₁.setCell x.C.sa (.int .u32 (v.2+1:Nat)))))
  (fun w₁ v v' h1 h2=>by
   obtain⟨e1,e2⟩:=Bz.unique h1.2.2 h2.2.2;exact Prod.ext e1 e2) (fun w₁ v hv=>by
   obtain⟨g',es,h1⟩:=h w₁ hv.1 v.1 v.2 hv.2.1 hv.2.2;exact⟨{g:=g',w:=w₁,es:=es},h1⟩)
 exact .P6 N hs hx hl hw (fun w₁ r s hq ⟨m,hl⟩=>let⟨a,b,c,d,_⟩:=hN w₁ (m,s) ⟨r,hq,hl⟩; ⟨a,b,c,d⟩) fun w₁ r s hq ⟨m,hl⟩ hr=>(hN w₁ (m,s) ⟨r,hq,hl⟩).2.2.2.2 hr
end
end Go.Gd
namespace Go.Gd
open Go Go.Gw Go.Conc
open Go.Gm (Bo Ct LP MW Ow Tr Si Ng Ib Bz JQ)
def JR(B:RB):Ah:=fun x=>if x=0 then some B else none
theorem Sj(B:RB):JR B 0=some B:=rfl
inductive Hm where
 |lock|unlock
def KOw:Hm→Ow→Prop
 | .lock,.no=>True
 | .unlock,.put _=>True
 |_,_=>False
def lG(k:Hm)(lp:LP):Prop:= ∀ow,KOw k ow→Ib lp ow
theorem IT{lp:LP}(h:Ib lp .no):lG .lock lp:=fun ow ho=>by cases ow<;>first|exact h|exact ho.elim
theorem FM{lp:LP}(h: ∀v,Ib lp (.put v)):lG .unlock lp:=fun ow ho=>by cases ow<;>first|exact h _|exact ho.elim
def W5(P:Program)(ty:TypeId)(Post:Value→World→Prop)(k:Hm)(c0:Ctx)(C:Bo)(ow:Ow)(tk:Nat)(B4:Frame)(rest:List Frame)(w:World)(m0:Nat):Prop :=
 match k with
 | .lock=> ∀w₁ σ φ' Z5,φ'≤Gm.Hi→AS c0 w w₁→C.J σ w₁→σ tk=none→(∀b,C.P b→b<w₁.heap.size∧Apart c0 b)→W P ty Post false m0 {c0 with d:=0,M:=fun b=>c0.M b∨C.P b,AL:=some ⟨C,⟨.hold,.own w₁,φ',Z5,tk⟩⟩} (G (B4.finish undef) rest) w₁
 | .unlock=> ∀w₁ φ' Z5,AS c0 w w₁→W P ty Post false m0 {c0 with d:=0,AL:=some ⟨C,⟨.fin,ow,φ',Z5,tk⟩⟩} (G (B4.finish undef) rest) w₁
section
variable{P:Program}{ty:TypeId}{Post:Value→World→Prop}{k:Hm}{c0:Ctx}{C:Bo}{ow:Ow}{tk:Nat}{B4:Frame}{rest:List Frame}{w w':World}{m0:Nat}
theorem W5.rely(h:W5 P ty Post k c0 C ow tk B4 rest w m0)(r:AS c0 w w'):W5 P ty Post k c0 C ow tk B4 rest w' m0:=by
 cases k with
 |lock=>exact fun w₁ σ φ' Z5 hφ r₁=>h w₁ σ φ' Z5 hφ (r.trans r₁)
 |unlock=>exact fun w₁ φ' Z5 r₁=>h w₁ φ' Z5 (r.trans r₁)
theorem CU{c c':Ctx}(h:AS c w w')(hM:c'.M=c.M)(hR:c'.R=c.R):AS c' w w':=h.sub (fun b hb=>by rw[← hM]; exact hb) fun a ha=>by rw[← hR]; exact ha
end
def BZ(P:Program)(ty:TypeId)(Post:Value→World→Prop)(k:Hm)(lty sz lo n φ:Nat)(lp:LP)(sn:Option MW)(s:DS):Prop :=
 ∀(c0:Ctx) (C:Bo) (ow:Ow) (tk:Nat) (B:RB) (B4:Frame) (rest:List Frame) (φ1:Nat) (g:Goroutine) (w:World) (m0:Nat),
  C.lb=B.blk→C.lo=lo→KOw k ow→φ1≤φ∧φ1≤Gm.Hi→c0.send≠none→CK c0 w→w.shape? B.blk=some (lty,sz)→ZD (B4::rest) (JR B) s g→W5 P ty Post k c0 C ow tk B4 rest w m0→
  W P ty Post false (m0+n) {c0 with d:=s.d,AL:=some ⟨C,⟨lp,ow,φ1,sn,tk⟩⟩} g w
def UZ(P:Program)(ty:TypeId)(Post:Value→World→Prop)(lty sz n:Nat)(s:DS):Prop :=
 ∀(c:Ctx) (B:RB) (B4:Frame) (rest:List Frame) (g:Goroutine) (w:World) (m0:Nat),c.d=s.d→c.send≠none→CK c w→w.shape? B.blk=some (lty,sz)→ZD (B4::rest) (JR B) s g→
  (∀w₁,AS c w w₁→W P ty Post false m0 {c with d:=0} (G (B4.finish undef) rest) w₁)→W P ty Post false (m0+n) c g w
section
variable{P:Program}{ty:TypeId}{Post:Value→World→Prop}{k:Hm}{lty sz lo n φ:Nat}{lp:LP}{sn:Option MW}{s s':DS}
theorem BZ.more(j:Nat)(h:BZ P ty Post k lty sz lo n φ lp sn s):BZ P ty Post k lty sz lo (n+j) φ lp sn s:=fun c0 C ow tk B B4 rest φ1 g w m0 h1 h2 h3 h4 h5 h6 h7 h8 h9=>by
 rw[← Bf]; exact W.Zb (h c0 C ow tk B B4 rest φ1 g w m0 h1 h2 h3 h4 h5 h6 h7 h8 h9)
theorem BZ.le{m:Nat}(h:BZ P ty Post k lty sz lo n φ lp sn s)(hm:n≤m):BZ P ty Post k lty sz lo m φ lp sn s:=by
 have:=h.more (m-n)
 rwa [Nat.add_sub_cancel' hm]at this
theorem BZ.fuel{ψ:Nat}(h:BZ P ty Post k lty sz lo n φ lp sn s)(hm:ψ≤φ):BZ P ty Post k lty sz lo n ψ lp sn s:=fun c0 C ow tk B B4 rest φ1 g w m0 h1 h2 h3 h4=>h c0 C ow tk B B4 rest φ1 g w m0 h1 h2 h3 ⟨A1 h4.1 hm,h4.2⟩
theorem BQ.mute{c:Ctx}{w:World}{es:Array Event}(h: ∀e∈es,(MemAct.ofEvent e).touch?=none∧∀a,MemAct.ofEvent e≠ .mark (.release a)):BQ c w w es :=
 ⟨fun e he=>(h e he).2,fun e he x hx=>by rw[(h e he).1]at hx; cases hx⟩
theorem W.Rw{c:Ctx}{g:Goroutine}{w:World}(hs:g.status= .running)(hsend:c.send≠none)(AO:CK c w)(h: ∀w₁,AS c w w₁→∃g' es,stepG P false g w₁= .go g' w₁ es∧g'.status= .running∧(∀e∈es,(MemAct.ofEvent e).touch?=none∧∀a,MemAct.ofEvent e≠ .mark (.release a))∧
  W P ty Post false n {c with d:=deafBehind c.d es} g' w₁):W P ty Post false (n+1) c g w :=
 W.GA hs (.inr hsend) fun w₁ r=>by
  obtain⟨g',es,h1,h2,h3,h4⟩:=h w₁ r;exact⟨g',w₁,es,c.M,c.R,h1,h2,Ca.refl (AO.rely r),BQ.mute h3,h4⟩
theorem BZ.MN(h: ∀base,gE P lty sz 0 base s s')(hn:BZ P ty Post k lty sz lo n φ lp sn s'):BZ P ty Post k lty sz lo (n+1) φ lp sn s:=by
 intro c0 C ow tk B B4 rest φ1 g w m0 h1 h2 h3 h4 h5 h6 h7 h8 h9;obtain⟨_,_,_,AT,_⟩:=h (B4::rest) (JR B) g w h8 ⟨B,rfl,h7⟩;rw[← Bf];refine W.Rw AT h5 (h6.ctx rfl rfl) fun w₁ r=> ?_;have r0:AS c0 w w₁:=CU r rfl rfl;have IB:=(r0.shape _ (Ai h7)).trans h7;obtain⟨g',es,q1,_,q2,q3,q4,q5⟩:=h (B4::rest) (JR B) g w₁ h8 ⟨B,rfl,IB⟩;refine⟨g',es,q4,q2,q3, ?_⟩;have:=hn c0 C ow tk B B4 rest φ1 g' w₁ m0 h1 h2 h3 h4 h5 (h6.rely r0) IB q1 (h9.rely r0);rw[← q5]at this;exact this
theorem UZ.MN(h: ∀base,gE P lty sz 0 base s s')(hn:UZ P ty Post lty sz n s'):UZ P ty Post lty sz (n+1) s:=by
 intro c B B4 rest g w m0 hd h5 h6 h7 h8 h9;obtain⟨_,_,_,AT,_⟩:=h (B4::rest) (JR B) g w h8 ⟨B,rfl,h7⟩;rw[← Bf];refine W.Rw AT h5 h6 fun w₁ r=> ?_;have IB:=(r.shape _ (Ai h7)).trans h7;obtain⟨g',es,q1,_,q2,q3,q4,q5⟩:=h (B4::rest) (JR B) g w₁ h8 ⟨B,rfl,IB⟩;refine⟨g',es,q4,q2,q3, ?_⟩;exact hn {c with d:=deafBehind c.d es} B B4 rest g' w₁ m0 (by show deafBehind c.d es=_; rw[hd]; exact q5) h5 ((h6.rely r).ctx rfl rfl) IB q1 fun w₂ r₂=>h9 w₂ (r.trans (CU r₂ rfl rfl))
theorem UZ.fin(h:UZ P ty Post lty sz n s):BZ P ty Post .unlock lty sz lo n φ .fin sn s:=by
 intro c0 C ow tk B B4 rest φ1 g w m0 h1 h2 h3 h4 h5 h6 h7 h8 h9;exact h {c0 with d:=s.d,AL:=some ⟨C,⟨.fin,ow,φ1,sn,tk⟩⟩} B B4 rest g w m0 rfl h5 (h6.ctx rfl rfl) h7 h8 fun w₁ r=>h9 w₁ φ1 sn (CU r rfl rfl)
theorem UZ.ret{Cf:CB}(hC:An Cf){pf:PF}{H:PH}(hm:pf.mode= .returning)(G2:pf.defers= [])(JG:At pf.todo=true)(hk:pf.kind= .normal){fn:Func}(hf:Cf.fns.get pf.fn=some fn)(hv:fn.results.toList= []):UZ Cf.P ty Post lty sz 1 ⟨pf,[],H,0⟩:=by
 intro c B B4 rest g w m0 hd h5 h6 h7 h8 h9;obtain⟨rf,Mt,rfl,Ff,hc⟩:=h8;replace Ff:Br (JR B) pf rf []:=Ff;have:=hc.Co;subst this;obtain⟨_,_,A9⟩:=Ff.Dl JG;obtain⟨v',q1,q2⟩:=M1 (P:=Cf.P) A9 (show dV pf.tmps fn.results.toList=some [] by rw[hv]; rfl);have Dp:rf.mode= .returning:=Ff.mode.MG.2 hm;have I1:rf.defers= []:=by
  have:=Ff.defers;rw[G2]at this;exact this.Co
 have UX:v'=undef:=by
  have q1:VR (JR B) (.tuple #[]) v':=q1;cases q1 with
  |tuple hl =>
   rename_i xs;have hl:=hl.length;simp only[List.length_nil,FC]at hl;rw[Eo hl.symm]; rfl
 subst UX;refine W.Rw rfl h5 h6 fun w₁ r=>⟨G (B4.finish undef) rest,#[], ?_,rfl,by simp, ?_⟩
 ·have Aq:=Er (P:=Cf.P) (main:=false) (cs:=B4::rest) Dp I1 (by rw[Ff.fn]; exact hC.fns _ _ hf) (q2 w₁);rw[seen_none]at Aq;rw[Aq];have KZ:rf.kind= .normal:=by rw[Ff.kind]; exact hk
  simp[doReturn,KZ,G,GStep.after]
 ·have:=h9 w₁ r;have e:deafBehind c.d #[]=0:=hd;rw[e];exact this
end
def SI(lp:LP)(sn:Option MW)(m:MW):Prop:=JQ lp m∧(lp= .up→∀m',sn=some m'→m'.sv=true→m.sv=true∧m'.q≤m.q)
def gG(P:Program)(ty:TypeId)(Post:Value→World→Prop)(k:Hm)(lty sz lo n φ:Nat)(sn:Option MW)(m:MW)(lp':LP)(m':MW)(s':DS):Prop :=
 BZ P ty Post k lty sz lo n φ lp' (some m') s'∨((m'≠m∨∃m₀,sn=some m₀∧m₀≠m)∧(0<φ→BZ P ty Post k lty sz lo n (φ-1) lp' (some m') s'))
section
variable{P:Program}{ty:TypeId}{Post:Value→World→Prop}{k:Hm}{lty sz lo n φ:Nat}{lp:LP}{sn:Option MW}{s s':DS}
theorem BZ.word(AT: ∀base ρ g,ZD base ρ s g→g.status= .running)
  (h: ∀(base:List Frame) (B:RB) (g:Goroutine) (w:World) (C:Bo) (m:MW) (q:Nat),ZD base (JR B) s g→C.lb=B.blk→C.lo=lo→m.q≤5→SI lp sn m→Bz C w m q→
   ∃g' s' w' es lp' m',ZD base (JR B) s' g'∧stepG P false g w= .go g' w' es∧g'.status= .running∧Gs C.wa es∧(∀d,deafBehind d es=d)∧s'.d=s.d∧lG k lp'∧((Tr lp m lp' m'∧w'=w.setCell C.wa (.int .i32 m'.val))∨(Si lp m lp'∧m'=m∧w'=w))∧
    gG P ty Post k lty sz lo n φ sn m lp' m' s'):BZ P ty Post k lty sz lo (n+1) φ lp sn s:=by
 intro c0 C ow tk B B4 rest φ1 g w m0 h1 h2 h3 h4 h5 h6 h7 h8 h9;rw[← Bf];refine W.fW (x:=⟨C,⟨lp,ow,φ1,sn,tk⟩⟩) (AT _ _ _ h8) rfl fun w₁ r m q hq IU hl=> ?_;have r0:AS c0 w w₁:=CU r rfl rfl;have IB:=(r0.shape _ (Ai h7)).trans h7;obtain⟨g',s',w',es,lp',m',e1,e2,e3,e4,e5,e6,e7,e8,e9⟩:=h (B4::rest) B g w₁ C m q h8 h1 h2 hq IU hl;refine⟨g',w',es,lp',m',e2,e3,e4,e5 _,⟨e7 _ h3,e8⟩,fun hr φ' hf=> ?_⟩;have WI:AS c0 w₁ w':=CU hr rfl rfl;have gQ:=(WI.shape _ (Ai IB)).trans IB;obtain⟨f1,f2⟩:=hf;have f1:φ'≤φ1:=f1;have f2:(m'≠m∨∃m₀,sn=some m₀∧m₀≠m)→φ'<φ1:=f2;have key:BZ P ty Post k lty sz lo n φ' lp' (some m') s':=by
  rcases e9 with e9|⟨d1,d2⟩
  ·exact e9.fuel (A1 f1 h4.1)
  ·have:=f2 d1;have h41:=h4.1;exact(d2 (by omega)).fuel (by omega)
 have:=key c0 C ow tk B B4 rest φ' g' w' m0 h1 h2 h3 ⟨AN _,A1 f1 h4.2⟩ h5 ((h6.rely r0).rely WI) gQ e1 ((h9.rely r0).rely WI);rw[e6]at this;exact this
theorem aD{B:RB}{o:Nat}{t Ap:List Value}(h:CE (JR B) (.pointer (some ⟨0,o,none⟩)::t) Ap): ∃t',Ap= .pointer (some ⟨B.blk,o,none⟩)::t'∧CE (JR B) t t':=NZ (Sj B) h
theorem Kd.run{xs:T XK}{s:DS}{kx:XK}{vs:List Value}{put:Value→Option PF}(_Bg:Kd xs s kx vs put){base:List Frame}{ρ:Ah}{g:Goroutine}(h:ZD base ρ s g):g.status= .running:=by
 obtain⟨fr,cs,rfl,_,_⟩:=h;rfl
theorem LD{a:Addr}{es:Array Event}(h:es= #[⟨.cell a,false,true⟩,⟨.cell a,true,true⟩]∨es= #[⟨.cell a,false,true⟩]):(∀e∈es,e.sync=true∧∀g,e.loc≠ .mark (.extern g))∧Gs a es∧∀d,deafBehind d es=d:=by
 rcases h with rfl|rfl
 ·refine⟨by simp,H6 fun e he=> ?_,fun d=>by simp[deafBehind]⟩;simp at he;rcases he with rfl|rfl<;>exact .inl ⟨_,rfl⟩
 ·refine⟨by simp,H6 fun e he=> ?_,fun d=>by simp[deafBehind]⟩;simp at he;subst he;exact .inl ⟨_,rfl⟩
theorem BZ.Lv{xs:T XK}(Au:C9 P xs)(El:s.H.ng=0){put:Value→Option PF}{ky kz:IntKind}{y z:Int}(Bg:Kd xs s (.Lv .i32) [.pointer (some ⟨0,lo,none⟩),.int ky y,.int kz z] put)(hkz:kz= .i32)
  (h1: ∀m:MW,m.q≤5→SI lp sn m→m.val=y→∃lp' m' BU,Tr lp m lp' m'∧m'.val=z∧lG k lp'∧put (.bool true)=some BU∧gG P ty Post k lty sz lo n φ sn m lp' m' ⟨BU,s.cs,s.H,s.d⟩)
  (h2: ∀m:MW,m.q≤5→SI lp sn m→m.val≠y→∃lp' BU,Si lp m lp'∧lG k lp'∧put (.bool false)=some BU∧gG P ty Post k lty sz lo n φ sn m lp' m ⟨BU,s.cs,s.H,s.d⟩):BZ P ty Post k lty sz lo (n+1) φ lp sn s:=by
 subst hkz;refine BZ.word (fun base ρ g hq=>Bg.run hq) fun base B g w C m q hq Hr Mw rQ IU hl=> ?_;obtain⟨fr,cs,rfl,hf,hc⟩:=hq;obtain⟨f,Ap,_,hx,BO,Bh,_⟩:=Bg.step Au hf (fun o A9=>by rw[El]; exact CJ.zero A9 o);obtain⟨t',rfl,ht⟩:=aD hx;cases ht with
 |cons h ht=>cases h; cases ht with
  |cons h ht =>
   cases h; cases ht;have hw:=Bz.SR hl;rw[Hr,Mw]at hw;have Hq:C.wa=⟨B.blk,lo,none⟩:=by unfold Gm.Bo.wa; rw[Hr,Mw]
   have AT:=oz (P:=P) (f:=f) hw ky .i32 y z;by_cases e:m.val=y
   ·rw[AD (by simpa using e)]at AT;obtain⟨lp',m',BU,a1,a2,a3,a4,a5⟩:=h1 m rQ IU e;obtain⟨b1,b2,b3⟩:=LD (a:=⟨B.blk,lo,none⟩) (es:= #[⟨.cell ⟨B.blk,lo,none⟩,false,true⟩,⟨.cell ⟨B.blk,lo,none⟩,true,true⟩]) (.inl rfl);exact⟨_,⟨BU,s.cs,s.H,s.d⟩,_,_,lp',m',⟨_,_,rfl,BO _ _ _ a4 (.bool _),hc⟩,Bh false cs w _ _ _ AT b1,rfl,by rw[Hq]; exact b2,b3,rfl,a3,.inl ⟨a1,by rw[Hq,a2]⟩,a5⟩
   ·rw[AA (by simpa using e)]at AT;obtain⟨lp',BU,a1,a3,a4,a5⟩:=h2 m rQ IU e;obtain⟨b1,b2,b3⟩:=LD (a:=⟨B.blk,lo,none⟩) (es:= #[⟨.cell ⟨B.blk,lo,none⟩,false,true⟩]) (.inr rfl);exact⟨_,⟨BU,s.cs,s.H,s.d⟩,_,_,lp',m,⟨_,_,rfl,BO _ _ _ a4 (.bool _),hc⟩,Bh false cs w _ _ _ AT b1,rfl,by rw[Hq]; exact b2,b3,rfl,a3,.inr ⟨a1,rfl,rfl⟩,a5⟩
theorem BZ.add{xs:T XK}(Au:C9 P xs)(El:s.H.ng=0){put:Value→Option PF}{ky:IntKind}{y:Int}(Bg:Kd xs s (.add .i32) [.pointer (some ⟨0,lo,none⟩),.int ky y] put)
  (h1: ∀m:MW,m.q≤5→SI lp sn m→∃lp' m' BU,Tr lp m lp' m'∧m'.val=IntKind.i32.wrap (m.val+y)∧lG k lp'∧put (.int .i32 m'.val)=some BU∧gG P ty Post k lty sz lo n φ sn m lp' m' ⟨BU,s.cs,s.H,s.d⟩):BZ P ty Post k lty sz lo (n+1) φ lp sn s:=by
 refine BZ.word (fun base ρ g hq=>Bg.run hq) fun base B g w C m q hq Hr Mw rQ IU hl=> ?_;obtain⟨fr,cs,rfl,hf,hc⟩:=hq;obtain⟨f,Ap,_,hx,BO,Bh,_⟩:=Bg.step Au hf (fun o A9=>by rw[El]; exact CJ.zero A9 o);obtain⟨t',rfl,ht⟩:=aD hx;cases ht with
 |cons h ht =>
  cases h; cases ht;have hw:=Bz.SR hl;rw[Hr,Mw]at hw;have Hq:C.wa=⟨B.blk,lo,none⟩:=by unfold Gm.Bo.wa; rw[Hr,Mw]
  have AT:=pA (P:=P) (f:=f) hw ky y;obtain⟨lp',m',BU,a1,a2,a3,a4,a5⟩:=h1 m rQ IU;rw[← a2]at AT;obtain⟨b1,b2,b3⟩:=LD (a:=⟨B.blk,lo,none⟩) (es:= #[⟨.cell ⟨B.blk,lo,none⟩,false,true⟩,⟨.cell ⟨B.blk,lo,none⟩,true,true⟩]) (.inl rfl);exact⟨_,⟨BU,s.cs,s.H,s.d⟩,_,_,lp',m',⟨_,_,rfl,BO _ _ _ a4 (.int _ _),hc⟩,Bh false cs w _ _ _ AT b1,rfl,by rw[Hq]; exact b2,b3,rfl,a3,.inl ⟨a1,by rw[Hq]⟩,a5⟩
def rD(C:CB)(s:DS):Option Addr :=
 match s with
 |⟨fr,_,_,_⟩=>match fr.mode with
  | .run=>match fr.todo with
   | .ops all _ (o::_)::_=>cond (Ae fr.kind) (match Aj fr all o with
    |some true=>match o.op with
     | .load t x=>match AQ 0 fr x with
      |some (.pointer (some a))=>match C.ty.get t with
       |some (_,td)=>match C.fns.get fr.fn with
        |some fn=>cond (!UK td&&fn.norace) (some a) none
        |none=>none
       |none=>none
      |_=>none
     |_=>none
    |_=>none) none
   |_=>none
  |_=>none
theorem Uo{fn:FuncId}{fx:Func}(hf:P.funcs[fn]? =some fx)(hn:fx.norace=true)(a:Addr)(b:Bool):seen P fn #[⟨.cell a,b,false⟩]= #[]:=by
 rw[seen_def];simp[seenStep,hf,hn]
theorem V4{Cf:CB}(hC:An Cf){a:Addr}(h:rD Cf s=some a){ρ:Ah}{fr:Frame}{pd:List Nat}(hf:Br ρ s.fr fr pd){B:RB}(hB:ρ a.block=some B){v':Value}{w:World}(hw:w.cell? {a with block:=B.blk}=some v'){v:Value}{BU:PF}(hp:IF s v=some BU)(hv:VR ρ v v') :
  Br ρ BU (fr.finish v') []∧∀main cs,stepG Cf.P main (G fr cs) w= .go (G (fr.finish v') cs) w #[]:=by
 obtain⟨pf,gY,H,d⟩:=s;replace hf:Br ρ pf fr pd:=hf;unfold rD at h;simp only at h;split at h
 ·rename_i hm;split at h
  ·rename_i all i o l kk ht;cases hk:Ae pf.kind with
   |false=>rw[hk]at h; cases h
   |true =>
    rw[hk]at h;simp only[AG]at h;have NL:fr.kind≠ .early:=fun e=>by rw[hf.kind]at e; rw[e]at hk; cases hk
    split at h
    ·rename_i iQ;split at h
     ·rename_i t x A5;split at h
      ·rename_i b hx;split at h
       ·rename_i ti td e1;split at h
        ·rename_i fn e2;cases e3:(!UK td&&fn.norace)with
         |false=>rw[e3]at h; cases h
         |true =>
          rw[e3]at h;simp only[AG,AE]at h;subst h;simp only[AF,BI]at e3;obtain⟨Dj,ho,A9,rest,m,e,E0,Ky⟩:=hf.ops ht;have N4:=BE (fun _ _ t v _ _ hv=>A9 t v hv) iQ;have C6:=CJ.zero A9 o x (by simp[A5,Op.operands]) _ hx;generalize hu:fr.eval x=u at C6;cases C6 with
          |ptr O0 =>
           rename_i B';rw[hB]at O0;cases O0;have AT:(execOp fr.eval o).runT Cf.P w #[]=(.ok (.value v') w,#[⟨.cell {b with block:=B.blk},false,false⟩]):=by
            unfold execOp;rw[A5];show((Instr.loadAt t (fr.eval x)).bind fun r=>Sem.pure (Next.value r)).runT Cf.P w #[]=_;rw[hu];have hl:(loadVar t {b with block:=B.blk}).runT Cf.P w #[]=(.ok v' w,#[⟨.cell {b with block:=B.blk},false,false⟩]):=by
             show((isAgg t).bind fun b=>if b=true then _ else _).runT Cf.P w #[]=_;rw[AB (LI (hC.ty _ _ e1).2),e3.1];show(Sem.load .plain {b with block:=B.blk} .pure).runT Cf.P w #[]=_;simp only[Sem.runT,hw];rfl
            show(((Instr.sureAddr (.pointer (some {b with block:=B.blk}))).bind fun b=>loadVar t b).bind fun r=>Sem.pure (Next.value r)).runT Cf.P w #[]=_;rw[AB (s:=(Instr.sureAddr (.pointer (some {b with block:=B.blk}))).bind fun b=>loadVar t b) (a:=v') (w':=w) (es':= #[⟨.cell {b with block:=B.blk},false,false⟩]) hl];rfl
           refine⟨?_,fun main cs=> ?_⟩
           ·unfold IF at hp;simp only[ht]at hp;split at hp
            ·rename_i tm etm;cases hp;exact hf.put ht etm hv
            ·cases hp
           ·have:=Cv (P:=Cf.P) (main:=main) (cs:=cs) (Br.run hf hm) e ho N4 NL (fun c hc=>by rw[A5]at hc; cases hc) (.inl AT);rw[hf.fn,Uo (hC.fns _ _ e2) e3.2]at this;exact this
        ·cases h
       ·cases h
      ·cases h
     ·cases h
    ·cases h
  ·cases h
 ·cases h
theorem BZ.load{Cf:CB}(hC:An Cf)(Bg:rD Cf s=some ⟨0,lo,none⟩)
  (h1: ∀m:MW,m.q≤5→SI lp sn m→∃lp' BU,Si lp m lp'∧lG k lp'∧IF s (.int .i32 m.val)=some BU∧gG Cf.P ty Post k lty sz lo n φ sn m lp' m ⟨BU,s.cs,s.H,s.d⟩):BZ Cf.P ty Post k lty sz lo (n+1) φ lp sn s:=by
 refine BZ.word (fun base ρ g hq=>by obtain⟨fr,cs,rfl,_,_⟩:=hq; rfl) fun base B g w C m q hq Hr Mw rQ IU hl=> ?_;obtain⟨fr,cs,rfl,hf,hc⟩:=hq;obtain⟨lp',BU,a1,a3,a4,a5⟩:=h1 m rQ IU;have hw:=(Bz.SR hl).cell;rw[Hr,Mw]at hw;obtain⟨q1,q2⟩:=V4 hC Bg hf (Sj B) hw a4 (.int _ _);exact⟨_,⟨BU,s.cs,s.H,s.d⟩,w,_,lp',m,⟨_,_,rfl,q1,hc⟩,q2 false cs,rfl,Qr _,fun d=>rfl,rfl,a3,.inr ⟨a1,rfl,rfl⟩,a5⟩
theorem BZ.Di{xs:T XK}(Au:C9 P xs)(El:s.H.ng=0){put:Value→Option PF}{t:List Value}(Bg:Kd xs s .EN (.pointer (some ⟨0,lo+1,none⟩)::t) put)
  {BU:PF} (hp:put undef=some BU) (hn:BZ P ty Post k lty sz lo n φ .up none ⟨BU,s.cs,s.H,s.d⟩):BZ P ty Post k lty sz lo (n+1) φ .Cs sn s:=by
 intro c0 C ow tk B B4 rest φ1 g w m0 h1 h2 h3 h4 h5 h6 h7 h8 h9;obtain⟨fr,cs,rfl,hf,hc⟩:=h8;obtain⟨f,Ap,_,hx,BO,Bh,Bn⟩:=Bg.step Au hf (fun o A9=>by rw[El]; exact CJ.zero A9 o);obtain⟨t',rfl,ht⟩:=aD hx;have nT:C.sa=⟨B.blk,lo+1,none⟩:=by unfold Gm.Bo.sa; rw[h1,h2]
 rw[← Bf];refine W.we (x:=⟨C,⟨.Cs,ow,φ1,sn,tk⟩⟩) rfl rfl rfl rfl (fun w₁ r m hl=> ?_) fun w₁ r m q hq hl=> ?_
 ·have hw:=Bz.semAt hl;rw[h1,h2]at hw;obtain⟨es,he⟩:=Y9 (P:=P) (f:=f) hw t';exact Bn false cs w₁ w₁ es he
 ·have hw:=Bz.semAt hl;rw[h1,h2]at hw;have AT:=an (P:=P) (f:=f) hw t';have r0:AS c0 w w₁:=CU r rfl rfl;have IB:=(r0.shape _ (Ai h7)).trans h7;refine⟨_,_,by show stepG P false (G fr cs) w₁= .go _ (w₁.setCell C.sa _) _; rw[nT]; exact Bh false cs w₁ _ _ _ AT (No _),rfl,by show Gs C.sa _; rw[nT]; exact Nq _,Np _ _,fun hr=> ?_⟩;have WI:AS c0 w₁ (w₁.setCell C.sa (.int .u32 q)):=CU hr rfl rfl;exact hn c0 C ow tk B B4 rest φ1 _ _ m0 h1 h2 h3 h4 h5 ((h6.rely r0).rely WI) ((WI.shape _ (Ai IB)).trans IB) ⟨_,_,rfl,BO _ _ _ hp (.tuple .nil),hc⟩ ((h9.rely r0).rely WI)
theorem BZ.raise{xs:T XK}(Au:C9 P xs)(El:s.H.ng=0){put:Value→Option PF}{t:List Value}(Bg:Kd xs s .FJ (.pointer (some ⟨0,lo+1,none⟩)::t) put)
  {BU:PF} (hp:put undef=some BU) (hn:BZ P ty Post k lty sz lo n φ .fin none ⟨BU,s.cs,s.H,s.d⟩):BZ P ty Post k lty sz lo (n+1) φ .rel sn s:=by
 intro c0 C ow tk B B4 rest φ1 g w m0 h1 h2 h3 h4 h5 h6 h7 h8 h9;obtain⟨fr,cs,rfl,hf,hc⟩:=h8;obtain⟨f,Ap,_,hx,BO,Bh,_⟩:=Bg.step Au hf (fun o A9=>by rw[El]; exact CJ.zero A9 o);obtain⟨t',rfl,ht⟩:=aD hx;have nT:C.sa=⟨B.blk,lo+1,none⟩:=by unfold Gm.Bo.sa; rw[h1,h2]
 rw[← Bf];refine W.jI (x:=⟨C,⟨.rel,ow,φ1,sn,tk⟩⟩) rfl rfl rfl (Bg.Z2 Au hf El cs) fun w₁ r m q hq hl=> ?_;have hw:=Bz.semAt hl;rw[h1,h2]at hw;have AT:=ak (P:=P) (f:=f) hq hw t';have r0:AS c0 w w₁:=CU r rfl rfl;have IB:=(r0.shape _ (Ai h7)).trans h7;refine⟨_,_,by show stepG P false (G fr cs) w₁= .go _ (w₁.setCell C.sa _) _; rw[nT]; exact Bh false cs w₁ _ _ _ AT (No _),rfl,by show Gs C.sa _; rw[nT]; exact Nq _,Np _ _,fun hr=> ?_⟩;have WI:AS c0 w₁ (w₁.setCell C.sa (.int .u32 (q+1:Nat))):=CU hr rfl rfl;exact hn c0 C ow tk B B4 rest φ1 _ _ m0 h1 h2 h3 h4 h5 ((h6.rely r0).rely WI) ((WI.shape _ (Ai IB)).trans IB) ⟨_,_,rfl,BO _ _ _ hp (.tuple .nil),hc⟩ ((h9.rely r0).rely WI)
end
section
variable{P:Program}{ty:TypeId}{Post:Value→World→Prop}{k:Hm}{lty sz lo n φ:Nat}{lp:LP}{sn:Option MW}{s s':DS}
theorem Kd.sL{xs:T XK}(Au:C9 P xs){s:DS}{k:XK}{vs:List Value}{put:Value→Option PF}(h:Kd xs s k vs put){ρ:Ah}{fr:Frame}{pd:List Nat}(hf:Br ρ s.fr fr pd)(hE: ∀o,(∀k v,s.fr.tmps.get k=some v→∃v',fr.tmps[k]? =some v'∧VR ρ v v')→CJ s.H.ng ρ s.fr fr o) :
  ∃f Ap,xs.get f=some k∧pd= []∧CE ρ vs Ap∧(∀v v' BU,put v=some BU→VR ρ v v'→Br ρ BU (fr.finish v') [])∧
   (∀main cs w v' w' es,(k.Di Ap.toArray).runT P w #[EZ f]=(.ok v' w',#[EZ f]++es)→stepG P main (G fr cs) w= .go (G (fr.finish v') cs) w' (seen P fr.fn (#[EZ f]++es))):=by
 obtain⟨all,i,o,l,kk,hm,ht,hk,hw,hx,BO⟩:=h;obtain⟨Dj,ho,A9,rest,m,e,E0,Ky⟩:=hf.ops ht;have C6:=hE o A9;unfold LO at hx;split at hx
 ·rename_i cl A5;obtain⟨callee,AAe,EY⟩:=cl;simp only at hx;split at hx
  ·rename_i fo;split at hx
   ·rename_i g bJ bs' e1;split at hx
    ·rename_i e2 e3;split at hx
     ·rename_i k' e4;split at hx
      ·rename_i Of e5;cases hx;have h1:=C6 fo (by simp[A5,Op.operands,Call.operands]) _ e1;have h2:=DO C6 (fun z hz=>by rw[A5]; simp[Op.operands,Call.operands]at hz ⊢; exact .inr hz) e5;have Gz:fr.eval fo= .func (.func g) #[] #[]:=by
        generalize fr.eval fo=u at h1;cases h1 with
        |func Gv Au Li =>
         cases Gv;rw[e2]at Au;rw[e3]at Li;have l1:=Au.length;have l2:=Li.length;simp only[List.length_nil,FC]at l1 l2;rw[Eo l1.symm,Eo l2.symm]
       have BB:execOp fr.eval o=callFunc g (AAe.map fr.eval):=by
        unfold execOp;rw[A5];simp only[resolve,Gz];show callFunc g ((#[]++AAe.map fr.eval)++ #[])=_;rw[Array.empty_append,DF]
       have WT:(AAe.map fr.eval).toList.toArray=AAe.map fr.eval:=E3;have N4:=BE (fun _ _ t v _ _ hv=>A9 t v hv) hw;refine⟨g,(AAe.map fr.eval).toList,e4,Dj,by simpa using h2,fun v v' BU hp hv=> ?_,fun main cs w v' w' es AT=> ?_⟩
       ·rw[BO]at hp;obtain⟨tm,h1,h2⟩:=CL.1 hp;subst h2;exact hf.put ht h1 hv
       ·rw[WT]at AT;exact Cv (P:=P) (main:=main) (cs:=cs) ((Br.run hf) hm) e ho N4 (by rw[hf.kind]; exact hk) (fun c hc=>by rw[A5]at hc; cases hc) (.inl (by rw[BB]; exact KJ (Au g _ e4) AT))
      ·cases hx
     ·cases hx
    ·cases hx
   ·cases hx
  ·cases hx
 ·cases hx
structure ON(w w':World):Prop where
 heap:w'.heap=w.heap
 tape:w'.tape=w.tape
 os:Z0 w.os w'.os
 output:w'.output=w.output
theorem ON.rely{c:Ctx}{w w':World}(h:ON w w'):AS c w w' :=
 ⟨h.tape,h.os,h.output,by rw[h.heap]; exact AN _,fun b _=>by simp only[World.shape?,h.heap],fun b _=>by rw[h.heap],fun a _=> .of (by rw[h.heap])⟩
theorem ON.RZ{c:Ctx}{w w':World}(h:ON w w')(AO:CK c w):Ca c c.M c.R w w' :=
 ⟨h.tape,h.os,h.output,by rw[h.heap]; exact AN _,fun b _=>by simp only[World.shape?,h.heap],fun b _ _=>by rw[h.heap],fun b hb=>⟨by rw[h.heap]; exact AO.ml b hb,.inl hb⟩,fun _ h=>h,fun _ h=> .inl h⟩
theorem bo{fn f:FuncId}(hq:(P.funcs[f]?).any (·.norace)=true){es:Array Event}(h:es= #[]∨es= #[⟨.output,true,false⟩]):seen P fn (#[EZ f]++es)= #[]:=by
 rcases h with rfl|rfl
 ·rw[DF]; exact KI fn f #[] (by simp) |> fun h=>by simpa using h
 ·exact seen_entry_out fn f hq
theorem BZ.pure{xs:T XK}(Au:C9 P xs)(El:s.H.ng=0)(hq: ∀f S,xs.get f=some (.Cn S)→(P.funcs[f]?).any (·.norace)=true){S:Array Value→Sem Value}{vs:List Value}{put:Value→Option PF}(Bg:Kd xs s (.Cn S) vs put)
  (h: ∀(B:RB) (Ap:List Value) (w:World) (f:FuncId),CE (JR B) vs Ap→∃v w' es,(S Ap.toArray).runT P w #[EZ f]=(.ok v w',#[EZ f]++es)∧ON w w'∧(es= #[]∨es= #[⟨.output,true,false⟩])∧(∀ρ,VR ρ v v)∧∃BU,put v=some BU∧BZ P ty Post k lty sz lo n φ lp sn ⟨BU,s.cs,s.H,s.d⟩) :
  BZ P ty Post k lty sz lo (n+1) φ lp sn s:=by
 intro c0 C ow tk B B4 rest φ1 g w m0 h1 h2 h3 h4 h5 h6 h7 h8 h9;obtain⟨fr,cs,rfl,hf,hc⟩:=h8;obtain⟨f,Ap,xf,_,hx,BO,Bh⟩:=Bg.sL Au hf (fun o A9=>by rw[El]; exact CJ.zero A9 o);rw[← Bf];refine W.GA rfl (.inr h5) fun w₁ r=> ?_;have r0:AS c0 w w₁:=CU r rfl rfl;have IB:=(r0.shape _ (Ai h7)).trans h7;obtain⟨v,w',es,e1,e2,e3,e4,BU,e5,e6⟩:=h B Ap w₁ f hx;have Aq:=Bh false cs w₁ v w' es e1;rw[bo (hq f S xf) e3]at Aq;have WI:AS c0 w₁ w':=e2.rely;refine⟨_,w',#[],c0.M,c0.R,Aq,rfl,e2.RZ ((h6.rely r0).ctx rfl rfl),⟨fun e he=>by simp at he,fun e he=>by simp at he⟩, ?_⟩;exact e6 c0 C ow tk B B4 rest φ1 _ w' m0 h1 h2 h3 h4 h5 ((h6.rely r0).rely WI) ((WI.shape _ (Ai IB)).trans IB) ⟨_,_,rfl,BO _ _ _ e5 (e4 _),hc⟩ ((h9.rely r0).rely WI)
theorem bu(args:Array Value)(w:World)(f:FuncId):(Extern.OsHooks.nano args).runT P w #[EZ f]=(.ok (.int .i64 ((w.os.mono+w.tick:Nat):Int)) w.later,#[EZ f]++ #[⟨.output,true,false⟩]):=rfl
theorem V5(w:World):ON w w.later:=⟨rfl,rfl,⟨w.tick,rfl⟩,rfl⟩
theorem V6(w:World):ON w w.asked:=⟨rfl,rfl,.refl _,rfl⟩
theorem QE(w:World):ON w w:=⟨rfl,rfl,.refl _,rfl⟩
theorem BZ.nano{xs:T XK}(Au:C9 P xs)(El:s.H.ng=0)(hq: ∀f S,xs.get f=some (.Cn S)→(P.funcs[f]?).any (·.norace)=true){vs:List Value}{put:Value→Option PF}(Bg:Kd xs s (.Cn Extern.OsHooks.nano) vs put)
  (h: ∀t:Int,∃BU,put (.int .i64 t)=some BU∧BZ P ty Post k lty sz lo n φ lp sn ⟨BU,s.cs,s.H,s.d⟩):BZ P ty Post k lty sz lo (n+1) φ lp sn s :=
 BZ.pure Au El hq Bg fun _B _Ap w f _=>⟨_,_,_,bu _ w f,V5 w,.inr rfl,fun _ρ=> .int _ _,h _⟩
theorem BZ.nothing{xs:T XK}(Au:C9 P xs)(El:s.H.ng=0)(hq: ∀f S,xs.get f=some (.Cn S)→(P.funcs[f]?).any (·.norace)=true){vs:List Value}{put:Value→Option PF}(Bg:Kd xs s (.Cn Extern.Atomic.nothing) vs put)
  (h: ∃BU,put undef=some BU∧BZ P ty Post k lty sz lo n φ lp sn ⟨BU,s.cs,s.H,s.d⟩):BZ P ty Post k lty sz lo (n+1) φ lp sn s :=
 BZ.pure Au El hq Bg fun _B _Ap w _f _=>⟨undef,w,#[],rfl,QE w,.inl rfl,fun _ρ=> .tuple .nil,h⟩
theorem BZ.Z4{xs:T XK}(Au:C9 P xs)(El:s.H.ng=0)(hq: ∀f S,xs.get f=some (.Cn S)→(P.funcs[f]?).any (·.norace)=true){ky:IntKind}{i:Int}{put:Value→Option PF}(Bg:Kd xs s (.Cn Extern.Sync.canSpin) [.int ky i] put)
  (h0: ∃BU,put (.bool false)=some BU∧BZ P ty Post k lty sz lo n φ lp sn ⟨BU,s.cs,s.H,s.d⟩) (h1:i<4→∃BU,put (.bool true)=some BU∧BZ P ty Post k lty sz lo n φ lp sn ⟨BU,s.cs,s.H,s.d⟩):BZ P ty Post k lty sz lo (n+1) φ lp sn s :=
 BZ.pure Au El hq Bg fun B Ap w f hx=>by
  cases hx with
  |cons h ht =>
   cases h; cases ht;by_cases h4:i≥4
   ·exact⟨.bool false,w,#[],by rw[show[Value.int ky i].toArray= #[.int ky i]from rfl,canSpin_eq,AD h4]; rfl,QE w,.inl rfl,fun ρ=> .bool _,h0⟩
   ·refine⟨.bool w.spins,w.asked,#[],by rw[show[Value.int ky i].toArray= #[.int ky i]from rfl,canSpin_eq,AA h4]; rfl,V6 w,.inl rfl,fun ρ=> .bool _, ?_⟩;cases w.spins with
    |true=>exact h1 (by omega)
    |false=>exact h0
theorem BZ.acq{xs:T XK}(Au:C9 P xs)(El:s.H.ng=0){put:Value→Option PF}{t:List Value}(Bg:Kd xs s .acquire (.pointer (some ⟨0,lo,none⟩)::t) put)(hd:s.d=0)
  {BU:PF} (hp:put undef=some BU) (hn:UZ P ty Post lty sz n ⟨BU,s.cs,s.H,0⟩):BZ P ty Post .lock lty sz lo (n+1) φ .hold sn s:=by
 intro c0 C ow tk B B4 rest φ1 g w m0 h1 h2 h3 h4 h5 h6 h7 h8 h9;obtain⟨fr,cs,rfl,hf,hc⟩:=h8;have nZ:ow= .no:=by cases ow<;>first|rfl|exact h3.elim
 subst nZ;obtain⟨f,Ap,_,hx,BO,Bh,_⟩:=Bg.step Au hf (fun o A9=>by rw[El]; exact CJ.zero A9 o);obtain⟨t',rfl,ht⟩:=aD hx;have Hq:C.wa=⟨B.blk,lo,none⟩:=by unfold Gm.Bo.wa; rw[h1,h2]
 rw[hd, ← Bf];refine W.YY (x:=⟨C,⟨.hold,.no,φ1,sn,tk⟩⟩) (fun w₁=>{g:=G (fr.finish undef) cs,w:=w₁,es:= #[⟨.mark (.acquire ⟨B.blk,lo,none⟩),false,true⟩]}) rfl rfl rfl rfl rfl (fun w₁ r=>⟨Bh false cs w₁ undef w₁ #[⟨.mark (.acquire ⟨B.blk,lo,none⟩),false,true⟩] rfl (by simp),rfl, ?_⟩) fun w₁ r σ hJ hσ hP=> ?_
 ·show Array.map MemAct.ofEvent #[⟨.mark (.acquire ⟨B.blk,lo,none⟩),false,true⟩]= #[.mark (.acquire C.wa)];rw[Hq]; simp[MemAct.ofEvent]
 ·have r0:AS c0 w w₁:=CU r rfl rfl;have IB:=(r0.shape _ (Ai h7)).trans h7;have hP0: ∀b,C.P b→b<w₁.heap.size∧Apart c0 b:=fun b hb=>hP b hb;have BY:=h6.rely r0;refine hn {c0 with d:=0,M:=fun b=>c0.M b∨C.P b,AL:=some ⟨C,⟨.hold,.own w₁,φ1,sn,tk⟩⟩} B B4 rest _ w₁ m0 rfl h5 ⟨fun b hb=>hb.elim (BY.ml b) fun hb=>(hP0 b hb).1,BY.rl,fun a ha hb=>hb.elim (BY.rm a ha) fun hb=>(hP0 _ hb).2.2 a ha rfl⟩ IB ⟨_,_,rfl,BO _ _ _ hp (.tuple .nil),hc⟩ fun w₂ r₂=> ?_;exact(h9 w₁ σ φ1 sn h4.2 r0 hJ hσ hP0).rely (CU r₂ rfl rfl)
def SK(P:Program)(ty:TypeId)(Post:Value→World→Prop)(lty sz lo n φ:Nat)(s:DS):Prop :=
 ∀(c0:Ctx) (C:Bo) (tk:Nat) (B:RB) (B4:Frame) (rest:List Frame) (φ1:Nat) (sn:Option MW) (wa:World) (v:Value) (g:Goroutine) (w:World) (m0:Nat),
  C.lb=B.blk→C.lo=lo→φ1≤φ∧φ1≤Gm.Hi→c0.send≠none→CK c0 w→w.shape? B.blk=some (lty,sz)→ZD (B4::rest) (JR B) s g→(∀b,C.P b→c0.M b)→(∀w₁,AS c0 w w₁→∀σ,C.J σ wa→σ tk=none→C.J (ConcN.upd σ tk (some v)) w₁)→
  W5 P ty Post .unlock {c0 with M:=fun b=>c0.M b∧¬C.P b} C (.put v) tk B4 rest w m0→W P ty Post false (m0+n) {c0 with d:=s.d,AL:=some ⟨C,⟨.hold,.own wa,φ1,sn,tk⟩⟩} g w
theorem M5{c c':Ctx}{w w':World}(h:AS c w w')(hM: ∀b,c'.M b→c.M b)(hR:c'.R=c.R):AS c' w w':=h.sub hM fun a ha=>by rw[← hR]; exact ha
theorem SK.MN(h: ∀base,gE P lty sz 0 base s s')(hn:SK P ty Post lty sz lo n φ s'):SK P ty Post lty sz lo (n+1) φ s:=by
 intro c0 C tk B B4 rest φ1 sn wa v g w m0 h1 h2 h4 h5 h6 h7 h8 hP hJ h9;obtain⟨_,_,_,AT,_⟩:=h (B4::rest) (JR B) g w h8 ⟨B,rfl,h7⟩;rw[← Bf];refine W.Rw AT h5 (h6.ctx rfl rfl) fun w₁ r=> ?_;have r0:AS c0 w w₁:=CU r rfl rfl;have IB:=(r0.shape _ (Ai h7)).trans h7;obtain⟨g',es,q1,_,q2,q3,q4,q5⟩:=h (B4::rest) (JR B) g w₁ h8 ⟨B,rfl,IB⟩;refine⟨g',es,q4,q2,q3, ?_⟩;have:=hn c0 C tk B B4 rest φ1 sn wa v g' w₁ m0 h1 h2 h4 h5 (h6.rely r0) IB q1 hP (fun w₂ r₂=>hJ w₂ (r0.trans r₂)) (h9.rely (M5 r0 (fun b hb=>hb.1) rfl));rw[← q5]at this;exact this
theorem SK.load{Cf:CB}(hC:An Cf)(Bg:rD Cf s=some ⟨0,lo,none⟩)
  (h1: ∀m:MW,m.q≤5→m.l=true→∃BU,IF s (.int .i32 m.val)=some BU∧SK Cf.P ty Post lty sz lo n φ ⟨BU,s.cs,s.H,s.d⟩):SK Cf.P ty Post lty sz lo (n+1) φ s:=by
 intro c0 C tk B B4 rest φ1 sn wa v g w m0 e1 e2 h4 h5 h6 h7 h8 hP hJ h9;obtain⟨fr,cs,rfl,hf,hc⟩:=h8;rw[← Bf];refine W.fW (x:=⟨C,⟨.hold,.own wa,φ1,sn,tk⟩⟩) rfl rfl fun w₁ r m q hq IU hl=> ?_;have r0:AS c0 w w₁:=CU r rfl rfl;have IB:=(r0.shape _ (Ai h7)).trans h7;obtain⟨BU,a1,a2⟩:=h1 m hq IU.1;have hw:=(Bz.SR hl).cell;rw[e1,e2]at hw;obtain⟨q1,q2⟩:=V4 hC Bg hf (Sj B) hw a1 (.int _ _);refine⟨_,w₁,#[],.hold,m,q2 false cs,rfl,Qr _,rfl,⟨trivial,.inr ⟨.same,rfl,rfl⟩⟩,fun hr φ' D8=> ?_⟩;exact a2 c0 C tk B B4 rest φ' (some m) wa v _ w₁ m0 e1 e2 ⟨A1 D8.1 h4.1,A1 D8.1 h4.2⟩ h5 (h6.rely r0) IB ⟨_,_,rfl,q1,hc⟩ hP (fun w₂ r₂=>hJ w₂ (r0.trans r₂)) (h9.rely (M5 r0 (fun b hb=>hb.1) rfl))
theorem SK.rel{xs:T XK}(Au:C9 P xs)(El:s.H.ng=0){put:Value→Option PF}{t:List Value}(Bg:Kd xs s .Dw (.pointer (some ⟨0,lo,none⟩)::t) put)(hd:s.d=0)
  {BU:PF} (hp:put undef=some BU) (hn: ∀sn,BZ P ty Post .unlock lty sz lo n φ .hold sn ⟨BU,s.cs,s.H,0⟩):SK P ty Post lty sz lo (n+1) φ s:=by
 intro c0 C tk B B4 rest φ1 sn wa v g w m0 h1 h2 h4 h5 h6 h7 h8 hP hJ h9;obtain⟨fr,cs,rfl,hf,hc⟩:=h8;obtain⟨f,Ap,_,hx,BO,Bh,_⟩:=Bg.step Au hf (fun o A9=>by rw[El]; exact CJ.zero A9 o);obtain⟨t',rfl,ht⟩:=aD hx;have Hq:C.wa=⟨B.blk,lo,none⟩:=by unfold Gm.Bo.wa; rw[h1,h2]
 rw[hd, ← Bf];refine W.YU (x:=⟨C,⟨.hold,.own wa,φ1,sn,tk⟩⟩) (wa:=wa) (fun w₁=>{g:=G (fr.finish undef) cs,w:=w₁,es:= #[⟨.mark (.releaseMerge ⟨B.blk,lo,none⟩),false,true⟩],v:=v}) rfl rfl rfl rfl hP (fun w₁ r=>⟨Bh false cs w₁ undef w₁ #[⟨.mark (.releaseMerge ⟨B.blk,lo,none⟩),false,true⟩] rfl (by simp),rfl, ?_,hJ w₁ (CU r rfl rfl)⟩) fun w₁ r=> ?_
 ·show Array.map MemAct.ofEvent #[⟨.mark (.releaseMerge ⟨B.blk,lo,none⟩),false,true⟩]= #[.mark (.releaseMerge C.wa)];rw[Hq]; simp[MemAct.ofEvent]
 ·have r0:AS c0 w w₁:=CU r rfl rfl;have IB:=(r0.shape _ (Ai h7)).trans h7;have BY:=h6.rely r0;exact hn sn {c0 with M:=fun b=>c0.M b∧¬C.P b} C (.put v) tk B B4 rest φ1 _ w₁ m0 h1 h2 trivial h4 h5 ⟨fun b hb=>BY.ml b hb.1,BY.rl,fun a ha hb=>BY.rm a ha hb.1⟩ IB ⟨_,_,rfl,BO _ _ _ hp (.tuple .nil),hc⟩ (h9.rely (M5 r0 (fun b hb=>hb.1) rfl))
end
structure Bm where
 C:CB
 xl:T XK
 xq:T XK
 sz:Nat
 lo:Nat
 j:Nat
 fl:FuncId
 fu:FuncId
 fs:FuncId
 fus:FuncId
def dX(C:CB)(xq:T XK)(sz k:Nat):DS→DS :=
 Nat.rec (motive:=fun _=>DS→DS) (fun s=>match M6 C xq sz 0 s with|some s'=>s'|none=>s) (fun _ ih s=>DS.casesOn (ih s) fun a b c d=>ih ⟨a,b,c,d⟩) k
def Bm.it(K:Bm)(s:DS):DS:=dX K.C K.xq K.sz K.j s
def Bu(s:DS)(v:Value):DS:=match IF s v with
 |some pf=>⟨pf,s.cs,s.H,s.d⟩
 |none=>s
def CF(s:DS):Bool:=Nat.beq s.H.ng 0&&(IF s undef).isSome
def iK(l:List Nat)(t:T Value):T Value :=
 List.rec (motive:=fun _=>T Value→T Value) (fun a=>a) (fun k _ ih a=>ih (match t.get k with|some v=>a.set k v|none=>a)) l .nil
def Be(l:List Nat)(s:DS):DS:=DS.casesOn s fun fr cs H d=>cond (At fr.todo&&l.all fun k=>Nat.blt k (2^T.deep)) ⟨fr.up (iK l fr.tmps) fr.todo,cs,H,d⟩ ⟨fr,cs,H,d⟩
def fj(k:Nat)(s:DS):Bool:=match s.fr.tmps.get k with
 |some (.bool b)=>b
 |_=>false
def xG:PH:=⟨0,.nil,0,.nil⟩
def Bm.start(K:Bm)(f:FuncId):DS:=match K.C.fns.get f with
 |some fn=>match fn.body with
  |some body=>⟨CN f fn body [.pointer (some ⟨0,K.lo,none⟩)] .normal,[],xG,0⟩
  |none=>⟨CN 0 default .skip [] .normal,[],xG,0⟩
 |none=>⟨CN 0 default .skip [] .normal,[],xG,0⟩
def Bm.P0(K:Bm):Value:= .pointer (some ⟨0,K.lo,none⟩)
def Bm.P1(K:Bm):Value:= .pointer (some ⟨0,K.lo+1,none⟩)
def Bm.MJ(K:Bm)(s:DS):Bool:=match s with
 |⟨pf,cs,_,d⟩=>Nat.beq d 0&&((match cs with| []=>true|_=>false)&&((match pf.mode with| .returning=>true|_=>false)&&((match pf.defers with| []=>true|_=>false)&&(At pf.todo&&((match pf.kind with| .normal=>true|_=>false)&&(match K.C.fns.get pf.fn with|some fn=>fn.results.toList.isEmpty|none=>false))))))
def Bm.OL(K:Bm)(s:DS):Bool:=CF s&&(Nat.beq s.d 0&&((match I7 K.xl s with
 |some (.acquire,p::_)=>XH 0 K.lo p
 |_=>false)&&K.MJ (K.it (Bu s undef))))
def Bm.Le(K:Bm)(s:DS):Bool:=CF s&&(match rD K.C s with
 |some ⟨b,o,none⟩=>Nat.beq b 0&&Nat.beq o K.lo
 |_=>false)
def words:List MW:= [false,true].flatMap fun l=> [false,true].flatMap fun wk=> [false,true].flatMap fun sv=>(List.range 6).map fun q=>⟨l,wk,sv,q⟩
theorem Rj(m:MW)(h:m.q≤5):m∈words:=by
 obtain⟨l,wk,sv,q⟩:=m;simp only[words,List.mem_flatMap,Bd,Cq];exact⟨l,by cases l<;>simp,wk,by cases wk<;>simp,sv,by cases sv<;>simp,q,by simp only at h; omega,rfl⟩
def okW(aw:Bool)(m:MW):Bool:= !aw||(m.wk&& !m.sv)
def AK(p:MW→Bool):List MW:=words.filter p
theorem Nk{p:MW→Bool}{m:MW}(h:m.q≤5)(hp:p m=true):m∈AK p:=B8.2 ⟨Rj m h,hp⟩
def wv(m:MW):Value:= .int .i32 m.val
def gN(m:MW)(aw st:Bool):MW:=if !m.l&& !m.sv then⟨true,m.wk&& !aw,false,m.q⟩else⟨m.l,m.wk&& !aw,m.sv||(st&&m.l),m.q+1⟩
def xn(m:MW)(b:Bool):Int:=if b&& !(m.q==1)then -7 else -11
def zF:List Nat:= [0,2,3,4,5,6,17,18]
def iO:List Nat:= [0,2,3,4,5,6,77,78,79]
def R3:List Nat:= [0,2,3,4,5,47]
def dh:List Nat:= [0,2,3,4,5,133]
def Td:List Nat:= [0,2,3,91,92]
def aQ:List Nat:= [0,2,3,103]
def Bm.Qp(K:Bm)(s:DS):DS:=match I7 K.xl s with
 |some (.Lv _,_)=>Be iO s
 |_=>Be zF s
def dj(i:Int):Int:=IntKind.i64.wrap (i+1)
def Bm.st(K:Bm)(cs:List PF)(todo:List Ab)(tm:List (Nat×Value)):DS:=⟨⟨K.fs,Ag tm .nil,139,todo,[],.run,.normal,none⟩,cs,xG,1⟩
def Bm.S1(K:Bm):DS:=K.it (K.start K.fl)
def Bm.S2(K:Bm):DS:=K.it (Bu K.S1 (.bool true))
def Bm.S4(K:Bm):DS:=K.it (Bu K.S1 (.bool false))
def Bm.tSP(K:Bm):List Ab:=(K.it (Bu K.S4 (wv ⟨true,false,false,0⟩))).fr.todo
def Bm.tCA(K:Bm):List Ab:=(K.it (Bu K.S4 (wv ⟨false,false,false,0⟩))).fr.todo
def Bm.SP(K:Bm)(m:MW)(aw st:Bool)(ws i:Int):DS:=K.st K.S4.cs K.tSP [(0,K.P0),(2,.int .i64 ws),(3,.bool st),(4,.bool aw),(5,.int .i64 i),(6,wv m),(17,.bool true),(18,.int .i64 i)]
def Bm.CA(K:Bm)(m:MW)(aw st:Bool)(ws i:Int):DS:=K.st K.S4.cs K.tCA [(0,K.P0),(2,.int .i64 ws),(3,.bool st),(4,.bool aw),(5,.int .i64 i),(6,wv m),(77,K.P0),(78,wv m),(79,wv (gN m aw st))]
def Bm.N(K:Bm)(m:MW)(aw st:Bool)(ws i:Int):DS:=cond (m.l&& !m.sv) (K.SP m aw st ws i) (K.CA m aw st ws i)
def Bm.yC(K:Bm):List Ab:=(K.it (Bu (K.it (Bu (K.SP ⟨true,false,false,0⟩ false false 0 0) (.bool true))) undef)).fr.todo
def Bm.yA(K:Bm):List Ab:=(K.it (Bu (K.CA ⟨false,false,false,0⟩ false false 0 0) (.bool false))).fr.todo
def Bm.tSM(K:Bm):List Ab:=(K.it (Bu (K.CA ⟨true,false,false,0⟩ false false 1 0) (.bool true))).fr.todo
def Bm.lF(K:Bm)(aw st:Bool)(ws i:Int):DS:=K.st K.S4.cs K.yC [(0,K.P0),(2,.int .i64 ws),(3,.bool st),(4,.bool aw),(5,.int .i64 i),(47,K.P0)]
def Bm.rh(K:Bm)(aw st:Bool)(ws i:Int):DS:=K.st K.S4.cs K.yA [(0,K.P0),(2,.int .i64 ws),(3,.bool st),(4,.bool aw),(5,.int .i64 i),(133,K.P0)]
def Bm.SM(K:Bm)(st:Bool)(ws:Int)(ql:Bool):DS:=K.st K.S4.cs K.tSM [(0,K.P0),(2,.int .i64 ws),(3,.bool st),(91,K.P1),(92,.bool ql)]
def Bm.yB(K:Bm):List Ab:=(K.it (Bu (K.SM true 1 false) undef)).fr.todo
def Bm.gd(K:Bm)(b:Bool)(ws:Int):DS:=K.st K.S4.cs K.yB [(0,K.P0),(2,.int .i64 ws),(3,.bool b),(103,K.P0)]
def Bm.R1(K:Bm)(ws:Int)(ql:Bool):DS:=K.it (Bu (K.SM false ws ql) undef)
def Bm.Q1(K:Bm)(m:MW)(aw st:Bool)(ws i:Int):DS:=K.it (Bu (K.CA m aw st ws i) (.bool true))
def Bm.SC(K:Bm)(m:MW)(aw st:Bool)(ws i:Int):DS:=K.it (Bu (K.SP m aw st ws i) (.bool true))
def Eb(m:MW):Bool:=m.l&& !m.sv&& !m.wk&& !(m.q==0)
def TU(m:MW):Bool:=m.l&& !m.sv
def K2(m:MW):Bool:=m.sv&& !m.l&& !m.wk&& !(m.q==0)
def Bm.U1(K:Bm)(m:MW)(b:Bool)(ws:Int):DS:=K.it (Bu (K.gd b ws) (wv m))
structure Mp(K:Bm):Prop where
 a1:I7 K.xl K.S1=some (.Lv .i32,[K.P0,.int .i32 0,.int .i32 1])
 o1:CF K.S1=true
 a2:K.OL K.S2=true
 a4:K.Le K.S4=true
 b4:words.map (fun m=>K.Qp (K.it (Bu K.S4 (wv m))))=words.map fun m=>K.N m false false 0 0
 c5: ∀aw st ws i,(AK fun m=>TU m&&okW aw m).map (fun m=>(I7 K.xl (K.SP m aw st ws i),CF (K.SP m aw st ws i)))=(AK fun m=>TU m&&okW aw m).map fun _=>(some (.Cn Extern.Sync.canSpin,[.int .i64 i]),true)
 d5: ∀aw st ws i,(AK fun m=>TU m&&okW aw m).map (fun m=>Be iO (K.it (Bu (K.SP m aw st ws i) (.bool false))))=(AK fun m=>TU m&&okW aw m).map fun m=>K.CA m aw st ws i
 e6: ∀ws i,(AK Eb).map (fun m=>(I7 K.xl (K.SC m false false ws i),CF (K.SC m false false ws i)))=(AK Eb).map fun m=>(some (.Lv .i32,[K.P0,wv m,wv {m with wk:=true}]),true)
 e6b: ∀b ws i,(AK Eb).map (fun m=>(I7 K.xl (K.it (Bu (K.SC m false false ws i) (.bool b))),CF (K.it (Bu (K.SC m false false ws i) (.bool b)))))=(AK Eb).map fun _=>(some (.Cn Extern.Atomic.nothing,[]),true)
 e6c: ∀b ws i,(AK Eb).map (fun m=>Be R3 (K.it (Bu (K.it (Bu (K.SC m false false ws i) (.bool b))) undef)))=(AK Eb).map fun _=>K.lF b false ws (dj i)
 g6: ∀aw st ws i,(AK fun m=>TU m&&okW aw m&& !(!aw&&Eb m)).map (fun m=>(I7 K.xl (K.SC m aw st ws i),CF (K.SC m aw st ws i)))=(AK fun m=>TU m&&okW aw m&& !(!aw&&Eb m)).map fun _=>(some (.Cn Extern.Atomic.nothing,[]),true)
 g6b: ∀aw st ws i,(AK fun m=>TU m&&okW aw m&& !(!aw&&Eb m)).map (fun m=>Be R3 (K.it (Bu (K.SC m aw st ws i) undef)))=(AK fun m=>TU m&&okW aw m&& !(!aw&&Eb m)).map fun _=>K.lF aw st ws (dj i)
 h10: ∀aw st ws i,K.Le (K.lF aw st ws i)=true
 wP: ∀aw st ws i,(AK (okW aw)).map (fun m=>K.Qp (K.it (Bu (K.lF aw st ws i) (wv m))))=(AK (okW aw)).map fun m=>K.N m aw st ws i
 k7: ∀aw st ws i,(AK (okW aw)).map (fun m=>(I7 K.xl (K.CA m aw st ws i),CF (K.CA m aw st ws i)))=(AK (okW aw)).map fun m=>(some (.Lv .i32,[K.P0,wv m,wv (gN m aw st)]),true)
 l7: ∀aw st ws i,(AK (okW aw)).map (fun m=>Be dh (K.it (Bu (K.CA m aw st ws i) (.bool false))))=(AK (okW aw)).map fun _=>K.rh aw st ws i
 m39: ∀aw st ws i,K.Le (K.rh aw st ws i)=true
 y8: ∀aw st ws i,(AK (okW aw)).map (fun m=>K.Qp (K.it (Bu (K.rh aw st ws i) (wv m))))=(AK (okW aw)).map fun m=>K.N m aw st ws i
 t7: ∀aw st ws i,(AK fun m=>okW aw m&&(!m.l&& !m.sv)).map (fun m=>K.OL (K.Q1 m aw st ws i))=(AK fun m=>okW aw m&&(!m.l&& !m.sv)).map fun _=>true
 z7: ∀aw st i,(AK fun m=>okW aw m&& !(!m.l&& !m.sv)).map (fun m=>(I7 K.xl (K.Q1 m aw st 0 i),CF (K.Q1 m aw st 0 i)))=(AK fun m=>okW aw m&& !(!m.l&& !m.sv)).map fun _=>(some (.Cn Extern.OsHooks.nano,[]),true)
 z7b: ∀aw st i t,(AK fun m=>okW aw m&& !(!m.l&& !m.sv)).map (fun m=>Be Td (K.it (Bu (K.Q1 m aw st 0 i) (.int .i64 t))))=(AK fun m=>okW aw m&& !(!m.l&& !m.sv)).map fun _=>K.SM st t false
 y7: ∀aw st i,∀k:Nat,(AK fun m=>okW aw m&& !(!m.l&& !m.sv)).map (fun m=>Be Td (K.Q1 m aw st (.ofNat (k+1)) i))=(AK fun m=>okW aw m&& !(!m.l&& !m.sv)).map fun _=>K.SM st (.ofNat (k+1)) true
 y7b: ∀aw st i,∀k:Nat,(AK fun m=>okW aw m&& !(!m.l&& !m.sv)).map (fun m=>Be Td (K.Q1 m aw st (.negSucc k) i))=(AK fun m=>okW aw m&& !(!m.l&& !m.sv)).map fun _=>K.SM st (.negSucc k) true
 s8: ∀st ws ql,I7 K.xl (K.SM st ws ql)=some (.EN,[K.P1,.bool ql,.int .i64 2])∧CF (K.SM st ws ql)=true
 s8t: ∀ws ql,Be aQ (K.it (Bu (K.SM true ws ql) undef))=K.gd true ws
 s8f: ∀ws ql,I7 K.xl (K.R1 ws ql)=some (.Cn Extern.OsHooks.nano,[])∧CF (K.R1 ws ql)=true
 s8g: ∀ws ql t,Be aQ (K.it (Bu (K.R1 ws ql) (.int .i64 t)))=K.gd (fj 3 (K.it (Bu (K.R1 ws ql) (.int .i64 t)))) ws
 u9: ∀b ws,K.Le (K.gd b ws)=true
 u9b: ∀b ws,(AK (okW true)).map (fun m=>K.Qp (K.it (Bu (K.gd b ws) (wv m))))=(AK (okW true)).map fun m=>K.N m true b ws 0
 v9: ∀b ws,(AK K2).map (fun m=>(I7 K.xl (K.U1 m b ws),CF (K.U1 m b ws)))=(AK K2).map fun m=>(some (.add .i32,[K.P0,.int .i32 (xn m b)]),true)
 v9b: ∀b ws z,(AK K2).map (fun m=>K.OL (K.it (Bu (K.U1 m b ws) (.int .i32 z))))=(AK K2).map fun _=>true
section
variable{C:CB}{xq:T XK}{ty:TypeId}{Post:Value→World→Prop}{k:Hm}{lty sz lo n φ:Nat}{lp:LP}{sn:Option MW}{s s':DS}
theorem NH(hC:An C)(D5:C9 C.P xq): ∀(j:Nat) {n:Nat} {s:DS},BZ C.P ty Post k lty sz lo n φ lp sn (dX C xq sz j s)→BZ C.P ty Post k lty sz lo (n+2^j) φ lp sn s
 |0,n,s,h=>by
  have h:BZ C.P ty Post k lty sz lo n φ lp sn (match M6 C xq sz 0 s with|some s'=>s'|none=>s):=h;split at h
  ·rename_i s' e;exact h.MN fun base=>Im hC D5 (by decide) e
  ·exact h.le (Nat.le_add_right _ _)
 |j+1,n,s,h=>by
  have h:BZ C.P ty Post k lty sz lo n φ lp sn (dX C xq sz j (dX C xq sz j s)):=h;have:=NH hC D5 j (NH hC D5 j h);rw[show n+2^(j+1)=n+2^j+2^j by rw[Nat.pow_succ]; omega];exact this
theorem UZ.le{P:Program}{m:Nat}(h:UZ P ty Post lty sz n s)(hm:n≤m):UZ P ty Post lty sz m s:=fun c B B4 rest g w m0 h1 h2 h3 h4 h5 h6=>by
 have:=W.Zb (k:=m-n) (h c B B4 rest g w m0 h1 h2 h3 h4 h5 h6)
 rwa [Bf,Nat.add_sub_cancel' hm]at this
theorem Ld(hC:An C)(D5:C9 C.P xq): ∀(j:Nat) {n:Nat} {s:DS},UZ C.P ty Post lty sz n (dX C xq sz j s)→UZ C.P ty Post lty sz (n+2^j) s
 |0,n,s,h=>by
  have h:UZ C.P ty Post lty sz n (match M6 C xq sz 0 s with|some s'=>s'|none=>s):=h;split at h
  ·rename_i s' e;exact h.MN fun base=>Im hC D5 (by decide) e
  ·exact h.le (Nat.le_add_right _ _)
 |j+1,n,s,h=>by
  have h:UZ C.P ty Post lty sz n (dX C xq sz j (dX C xq sz j s)):=h;have:=Ld hC D5 j (Ld hC D5 j h);rw[show n+2^(j+1)=n+2^j+2^j by rw[Nat.pow_succ]; omega];exact this
theorem Iy(hC:An C)(D5:C9 C.P xq): ∀(j:Nat) {n:Nat} {s:DS},SK C.P ty Post lty sz lo n φ (dX C xq sz j s)→SK C.P ty Post lty sz lo (n+2^j) φ s
 |0,n,s,h=>by
  have h:SK C.P ty Post lty sz lo n φ (match M6 C xq sz 0 s with|some s'=>s'|none=>s):=h;split at h
  ·rename_i s' e;exact h.MN fun base=>Im hC D5 (by decide) e
  ·intro c0 C0 tk B B4 rest φ1 sn wa v g w m0 h1 h2 h4 h5 h6 h7 h8 hP hJ h9;rw[← Bf];exact W.Zb (h c0 C0 tk B B4 rest φ1 sn wa v g w m0 h1 h2 h4 h5 h6 h7 h8 hP hJ h9)
 |j+1,n,s,h=>by
  have h:SK C.P ty Post lty sz lo n φ (dX C xq sz j (dX C xq sz j s)):=h;have:=Iy hC D5 j (Iy hC D5 j h);rw[show n+2^(j+1)=n+2^j+2^j by rw[Nat.pow_succ]; omega];exact this
theorem N2{t:T Value}: ∀{l:List Nat} {a:T Value} {k:Nat} {v:Value},(∀x∈l,x<2^T.deep)→(∀k v,a.get k=some v→t.get k=some v)→
  (List.rec (motive:=fun _=>T Value→T Value) (fun a=>a) (fun k _ ih a=>ih (match t.get k with|some v=>a.set k v|none=>a)) l a:T Value).get k=some v→t.get k=some v
 | [],a,k,v,_,ha,h=>ha k v h
 |x::l,a,k,v,hl,ha,h=>by
  refine N2 (l:=l) (a:=match t.get x with|some v=>a.set x v|none=>a) (fun y hy=>hl y (by simp[hy])) (fun k v hk=> ?_) h;split at hk
  ·rename_i u e;rw[T.AW _ _ _ _ (hl x (by simp))]at hk;by_cases ek:k=x
   ·rw[AD ek]at hk; cases hk; rw[ek]; exact e
   ·rw[AA ek]at hk; exact ha k v hk
  ·exact ha k v hk
theorem Br.wS{ρ:Ah}{pf:PF}{fr:Frame}{pd:List Nat}(h:Br ρ pf fr pd)(JG:At pf.todo=true){tm:T Value}(hk: ∀k v,tm.get k=some v→pf.tmps.get k=some v):Br ρ (pf.up tm pf.todo) fr []:=by
 obtain⟨_,h2,h3⟩:=h.Dl JG;exact⟨h.fn,h.size,⟨_,.plain h2,fun k v bF _=>h3 k v (hk k v bF)⟩,h.defers,h.mode,h.kind,h.round⟩
theorem ZD.keep{base:List Frame}{ρ:Ah}{l:List Nat}{g:Goroutine}(h:ZD base ρ s g):ZD base ρ (Be l s) g:=by
 obtain⟨pf,cs,H,d⟩:=s;obtain⟨fr,Mt,rfl,hf,hc⟩:=h;unfold Be;simp only
 cases e:(At pf.todo&&l.all fun k=>Nat.blt k (2^T.deep))with
 |false=>exact⟨fr,Mt,rfl,hf,hc⟩
 |true =>
  rw[AF]at e;replace hf:Br ρ pf fr []:=hf;exact⟨fr,Mt,rfl,hf.wS e.1 fun k v hk=>N2 (fun x hx=>AH (AX.1 e.2 x hx)) (fun k v hk=>by cases hk) hk,hc⟩
theorem V3(l:List Nat)(s:DS):(Be l s).d=s.d:=by
 obtain⟨pf,cs,H,d⟩:=s;unfold Be;simp only
 cases(At pf.todo&&l.all fun k=>Nat.blt k (2^T.deep))<;>rfl
theorem BZ.keep{P:Program}{l:List Nat}(h:BZ P ty Post k lty sz lo n φ lp sn (Be l s)):BZ P ty Post k lty sz lo n φ lp sn s:=by
 intro c0 C ow tk B B4 rest φ1 g w m0 h1 h2 h3 h4 h5 h6 h7 h8 h9;have:=h c0 C ow tk B B4 rest φ1 g w m0 h1 h2 h3 h4 h5 h6 h7 h8.keep h9;rw[V3]at this;exact this
theorem SK.keep{P:Program}{l:List Nat}(h:SK P ty Post lty sz lo n φ (Be l s)):SK P ty Post lty sz lo n φ s:=by
 intro c0 C tk B B4 rest φ1 sn wa v g w m0 h1 h2 h4 h5 h6 h7 h8 hP hJ h9;have:=h c0 C tk B B4 rest φ1 sn wa v g w m0 h1 h2 h4 h5 h6 h7 h8.keep hP hJ h9;rw[V3]at this;exact this
theorem BG(h:CF s=true):s.H.ng=0∧∀v,∃pf,IF s v=some pf∧Bu s v=⟨pf,s.cs,s.H,s.d⟩:=by
 unfold CF at h;rw[AF]at h;refine⟨AJ h.1,fun v=> ?_⟩;have: ∃pf,IF s v=some pf:=by
  have h:=h.2;obtain⟨pf,cs,H,d⟩:=s;unfold IF at h ⊢;simp only at h ⊢;split at h
  ·rename_i all i o l kk ht;split at h
   ·rename_i tm e;unfold By at e ⊢;cases hd:o.dst with
    |none=>simp
    |some t =>
     rw[hd]at e;simp only at e ⊢;cases e1:Nat.blt t pf.nt with
     |false=>rw[e1]at e; cases e
     |true =>
      rw[e1]at e;cases e2:Nat.blt t (2^T.deep)with
      |false=>rw[e2]at e; cases e
      |true=>simp
   ·cases h
  ·cases h
 obtain⟨pf,hp⟩:=this;exact⟨pf,hp,by unfold Bu; rw[hp]⟩
end
section
variable{K:Bm}{ty:TypeId}{Post:Value→World→Prop}{lty n φ:Nat}{lp:LP}{sn:Option MW}{s s':DS}{k:Hm}
theorem Bm.Mu(hC:An K.C)(D5:C9 K.C.P K.xq)(h:BZ K.C.P ty Post k lty K.sz K.lo n φ lp sn (K.it s)):BZ K.C.P ty Post k lty K.sz K.lo (n+2^K.j) φ lp sn s:=NH hC D5 K.j h
theorem Bm.wx(h:BZ K.C.P ty Post k lty K.sz K.lo n φ lp sn (K.Qp s)):BZ K.C.P ty Post k lty K.sz K.lo n φ lp sn s:=by
 unfold Bm.Qp at h;split at h<;>exact h.keep
theorem Bm.TV(h:K.Le s=true):CF s=true∧rD K.C s=some ⟨0,K.lo,none⟩:=by
 unfold Bm.Le at h;rw[AF]at h;refine⟨h.1, ?_⟩;have h:=h.2;split at h
 ·rename_i b o e;rw[AF]at h;rw[e,AJ h.1,AJ h.2]
 ·cases h
theorem Bm.ZL(hC:An K.C)(h:K.MJ s=true):UZ K.C.P ty Post lty K.sz 1 s:=by
 obtain⟨pf,cs,H,d⟩:=s;unfold Bm.MJ at h;simp only[AF]at h;obtain⟨h1,h2,h3,h4,h5,h6,h7⟩:=h;have h1:=AJ h1;subst h1;have e2:cs= []:=by cases cs<;>first|rfl|cases h2
 subst e2;have e3:pf.mode= .returning:=by
  generalize pf.mode=m at h3;cases m<;>first|rfl|cases h3
 have e4:pf.defers= []:=by
  generalize pf.defers=m at h4;cases m<;>first|rfl|cases h4
 have e6:pf.kind= .normal:=by
  generalize pf.kind=m at h6;cases m<;>first|rfl|cases h6
 split at h7
 ·rename_i fn e7;exact UZ.ret hC e3 e4 h5 e6 e7 (List.isEmpty_iff.1 h7)
 ·cases h7
theorem Bm.UN(hC:An K.C)(Fc:C9 K.C.P K.xl)(D5:C9 K.C.P K.xq)(h:K.OL s=true):BZ K.C.P ty Post .lock lty K.sz K.lo (2^K.j+2) φ .hold sn s:=by
 unfold Bm.OL at h;simp only[AF]at h;obtain⟨h1,h2,h3,h4⟩:=h;have h2:=AJ h2;obtain⟨El,hp⟩:=BG h1;obtain⟨pf,p1,p2⟩:=hp undef;split at h3
 ·rename_i p t e;have hp:=Dg h3;subst hp;have ht:UZ K.C.P ty Post lty K.sz (1+2^K.j) (Bu s undef):=Ld hC D5 K.j (K.ZL hC h4);rw[p2,h2]at ht;have:=BZ.acq (Post:=Post) (ty:=ty) (lty:=lty) (sz:=K.sz) (φ:=φ) (sn:=sn) Fc El (DI e) h2 p1 ht;exact this.le (by omega)
 ·cases h3
theorem Af{α:Type}{p:MW→Bool}{f g:MW→α}(h:(AK p).map f=(AK p).map g){m:MW}(hm:m.q≤5)(hp:p m=true):f m=g m:=List.map_inj_left.1 h m (Nk hm hp)
theorem Zi{i:Int}(h0:0≤i)(h4:i<4):dj i=i+1:=by
 have:i=0∨i=1∨i=2∨i=3:=by omega
 rcases this with rfl|rfl|rfl|rfl<;>rfl
theorem cS{aw:Bool}{sn:Option MW}{m:MW}(h:SI (.loop aw) sn m):okW aw m=true:=by
 cases aw with
 |false=>rfl
 |true =>
  have:m.wk=true∧m.sv=false:=h.1;simp[okW,this.1,this.2]
theorem IS{aw:Bool}:lG .lock (.loop aw):=IT trivial
def ax(K:Bm)(ty:TypeId)(Post:Value→World→Prop)(lty φ n:Nat):Prop :=
 ∀(i:Int) (m:MW) (aw st:Bool) (ws:Int),0≤i→i≤4→m.q≤5→okW aw m=true→(st=true→aw=true)→BZ K.C.P ty Post .lock lty K.sz K.lo n φ (.loop aw) (some m) (K.N m aw st ws i)
variable(hC:An K.C)(Fc:C9 K.C.P K.xl)(D5:C9 K.C.P K.xq)(F:Mp K)(Ki: ∀f S,K.xl.get f=some (.Cn S)→(K.C.P.funcs[f]?).any (·.norace)=true)
include hC Fc D5 F Ki
omit Fc F Ki in
theorem Ov{aw st:Bool}{ws i:Int}{sn:Option MW}(hA: ∀m:MW,m.q≤5→okW aw m=true→BZ K.C.P ty Post .lock lty K.sz K.lo n φ (.loop aw) (some m) (K.N m aw st ws i)){s:DS}(hld:K.Le s=true)(hN: ∀m:MW,m.q≤5→okW aw m=true→K.Qp (K.it (Bu s (wv m)))=K.N m aw st ws i) :
  BZ K.C.P ty Post .lock lty K.sz K.lo (n+2^K.j+1) φ (.loop aw) sn s:=by
 obtain⟨ho,hl⟩:=K.TV hld;obtain⟨El,hp⟩:=BG ho;refine BZ.load hC hl fun m hq IU=> ?_;obtain⟨pf,p1,p2⟩:=hp (wv m);refine⟨.loop aw,pf,.same,IS,p1,.inl ?_⟩;rw[← p2];have AO:=cS IU;refine Bm.Mu hC D5 (Bm.wx ?_);rw[hN m hq AO];exact hA m hq AO
omit Ki in
theorem dY{b:Bool}{ws:Int}(hA:ax K ty Post lty φ n):BZ K.C.P ty Post .lock lty K.sz K.lo (n+4*2^K.j+8) φ .up none (K.gd b ws):=by
 obtain⟨ho,hl⟩:=K.TV (F.u9 b ws);obtain⟨El,hp⟩:=BG ho;refine BZ.le (BZ.load (n:=n+4*2^K.j+7) hC hl fun m hq IU=> ?_) (AN _);obtain⟨pf,p1,p2⟩:=hp (wv m);obtain⟨⟨IB,gQ⟩,_⟩:=IU;cases dx:m.sv with
 |false =>
  refine⟨.loop true,pf,.back dx,IS,p1,.inl ?_⟩;rw[← p2];have AO:okW true m=true:=by simp[okW,dx,gQ dx]
  refine BZ.le (Bm.Mu hC D5 (Bm.wx ?_)) (show n+2^K.j≤_ by omega);rw[Af (F.u9b b ws) hq AO];exact hA 0 m true b ws (by omega) (by omega) hq AO (fun _=>rfl)
 |true =>
  refine⟨.up,pf,.same,IT trivial,p1,.inl ?_⟩;rw[← p2];obtain⟨g1,g2,g3⟩:=IB dx;have hg:K2 m=true:=by
   simp only[K2,dx,g1,g2,Bool.not_false,Bool.and_self,Bool.true_and];simp; omega
  have e:=Af (F.v9 b ws) hq hg;simp only[AR]at e;obtain⟨e1,e2⟩:=e;obtain⟨RS,He⟩:=BG e2;refine BZ.le (Bm.Mu hC D5 (n:=2*2^K.j+3) ?_) (by omega);show BZ _ _ _ _ _ _ _ _ _ _ _ (K.U1 m b ws);refine BZ.le (BZ.add (n:=2^K.j+2+2^K.j) Fc RS (DI e1) fun m1 Ti Tf=> ?_) (by omega);obtain⟨⟨t1,t2⟩,t3⟩:=Tf;obtain⟨v1,v2⟩:=t3 rfl m rfl dx;obtain⟨w1,w2,w3⟩:=t1 v1;obtain⟨l1,k1,s1,q1⟩:=m1;simp only at v1 v2 w1 w2 w3 Ti;subst v1 w1 w2;obtain⟨q,rfl⟩: ∃q,q1=q+1:=⟨q1-1,by omega⟩
  let keep:Bool:=b&& !(m.q==1)
  have QS:(⟨true,false,keep,q⟩:MW).val=IntKind.i32.wrap ((⟨false,false,true,q+1⟩:MW).val+xn m b):=by
   have iT:q=0∨q=1∨q=2∨q=3∨q=4:=by omega
   cases Bv:(b&& !(m.q==1))<;>simp only[keep,xn,Bv,Bq,BS,Ad]<;>rcases iT with rfl|rfl|rfl|rfl|rfl<;>rfl
  obtain⟨BU,ZW,ZV⟩:=He (.int .i32 (⟨true,false,keep,q⟩:MW).val);refine⟨.hold,⟨true,false,keep,q⟩,BU,.fH fun hk=> ?_,QS,IT trivial,ZW,.inl ?_⟩
  ·simp only[keep,AF,BI,beq_eq_false_iff_ne]at hk;omega
  ·rw[← ZV];exact Bm.Mu hC D5 (K.UN hC Fc D5 (Af (F.v9b b ws _) hq hg))
theorem jw{st ql:Bool}{ws:Int}{sn:Option MW}(hA:ax K ty Post lty φ n):BZ K.C.P ty Post .lock lty K.sz K.lo (n+6*2^K.j+10) φ .Cs sn (K.SM st ws ql):=by
 obtain⟨e1,e2⟩:=F.s8 st ws ql;obtain⟨El,hp⟩:=BG e2;obtain⟨pf,p1,p2⟩:=hp undef;refine BZ.le (BZ.Di (n:=n+6*2^K.j+9) Fc El (DI e1) p1 ?_) (AN _);rw[← p2];cases st with
 |true =>
  refine BZ.le (Bm.Mu hC D5 (BZ.keep (l:=aQ) ?_)) (show n+4*2^K.j+8+2^K.j≤_ by omega);rw[F.s8t ws ql];exact dY hC Fc D5 F hA
 |false =>
  obtain⟨r1,r2⟩:=F.s8f ws ql;obtain⟨RS,He⟩:=BG r2;refine BZ.le (Bm.Mu hC D5 (n:=n+5*2^K.j+9) ?_) (by omega);show BZ _ _ _ _ _ _ _ _ _ _ _ (K.R1 ws ql);refine BZ.le (BZ.nano (n:=n+4*2^K.j+8+2^K.j) Fc RS Ki (DI r1) fun t=> ?_) (by omega);obtain⟨BU,ZW,ZV⟩:=He (.int .i64 t);refine⟨BU,ZW, ?_⟩;rw[← ZV];refine Bm.Mu hC D5 (BZ.keep (l:=aQ) ?_);rw[F.s8g ws ql t];exact dY hC Fc D5 F hA
theorem jx{aw st:Bool}{ws i:Int}{m:MW}(hA:0<φ→ax K ty Post lty (φ-1) n)(h0:0≤i)(h4:i≤4)(hq:m.q≤5)(AO:okW aw m=true)(Aq:st=true→aw=true) :
  BZ K.C.P ty Post .lock lty K.sz K.lo (n+9*2^K.j+14) φ (.loop aw) (some m) (K.CA m aw st ws i):=by
 have e:=Af (F.k7 aw st ws i) hq AO;simp only[AR]at e;obtain⟨e1,e2⟩:=e;obtain⟨El,hp⟩:=BG e2;refine BZ.le (BZ.Lv (n:=n+9*2^K.j+13) Fc El (DI e1) rfl (fun m1 Ti Tf hv=> ?_) fun m1 Ti Tf hv=> ?_) (by omega)
 ·have:=Gm.MW.val_inj hv;subst this;obtain⟨pf,p1,p2⟩:=hp (.bool true);cases JI:(!m1.l&& !m1.sv)with
  |true =>
   refine⟨.hold,gN m1 aw st,pf, ?_,rfl,IT trivial,p1,.inr ⟨.inl ?_,fun _=> ?_⟩⟩
   ·obtain⟨l,wk,sv,q⟩:=m1;simp only[AF,BI]at JI;obtain⟨rfl,rfl⟩:=JI;exact .take
   ·intro e;have:=congrArg MW.l e;simp only[gN,JI,Ad]at this;simp only[AF,BI]at JI;rw[JI.1]at this; cases this
   ·rw[← p2];refine BZ.le (Bm.Mu hC D5 (n:=2^K.j+2) ?_) (by omega);exact K.UN hC Fc D5 (Af (F.t7 aw st ws i) Ti (by simp only[AO,JI,Bool.and_self]))
  |false =>
   have gR:(okW aw m1&& !(!m1.l&& !m1.sv))=true:=by simp only[AO,JI,Bool.not_false,Bool.and_self]
   have hls:m1.l=true∨m1.sv=true:=by
    cases hl:m1.l<;>cases hs:m1.sv<;>simp[hl,hs]at JI<;>simp
   refine⟨.Cs,gN m1 aw st,pf, ?_,rfl,IT trivial,p1,.inr ⟨.inl ?_,fun hφ=> ?_⟩⟩
   ·obtain⟨l,wk,sv,q⟩:=m1;have e:gN ⟨l,wk,sv,q⟩ aw st=⟨l,wk&& !aw,sv||(st&&l),q+1⟩:=by
     have JI:(!l&& !sv)=false:=JI;simp only[gN,JI,Bq,BS]
    rw[e];exact .BX hls fun h=>by
     rw[AF]at h;exact⟨Aq h.1,h.2⟩
   ·intro e;have:=congrArg MW.q e;simp only[gN,JI,Bq,BS]at this;omega
   ·rw[← p2];have hA':=hA hφ;refine BZ.le (Bm.Mu hC D5 (n:=n+8*2^K.j+13) ?_) (by omega);show BZ _ _ _ _ _ _ _ _ _ _ _ (K.Q1 m1 aw st ws i);have HN: ∀{s:DS} {ws':Int} {ql:Bool},Be Td s=K.SM st ws' ql→BZ K.C.P ty Post .lock lty K.sz K.lo (n+8*2^K.j+13) (φ-1) .Cs (some (gN m1 aw st)) s:=fun {s ws' ql} h=>by
     refine BZ.le (BZ.keep (l:=Td) ?_) (show n+6*2^K.j+10≤_ by omega);rw[h];exact jw hC Fc D5 F Ki hA'
    cases ws with
    |ofNat k =>
     cases k with
     |zero =>
      have e:=Af (F.z7 aw st i) Ti gR;simp only[AR]at e;obtain⟨r1,r2⟩:=e;obtain⟨RS,He⟩:=BG r2;show BZ _ _ _ _ _ _ _ _ _ _ _ (K.Q1 m1 aw st 0 i);refine BZ.le (BZ.nano (n:=n+6*2^K.j+10+2^K.j) Fc RS Ki (DI r1) fun t=> ?_) (by omega);obtain⟨BU,ZW,ZV⟩:=He (.int .i64 t);refine⟨BU,ZW, ?_⟩;rw[← ZV];refine Bm.Mu hC D5 (BZ.keep (l:=Td) ?_);rw[Af (F.z7b aw st i t) Ti gR];exact jw hC Fc D5 F Ki hA'
     |succ k=>exact HN (Af (F.y7 aw st i k) Ti gR)
    |negSucc k=>exact HN (Af (F.y7b aw st i k) Ti gR)
 ·obtain⟨pf,p1,p2⟩:=hp (.bool false);refine⟨.loop aw,pf,.same,IS,p1,.inr ⟨.inr ⟨m,rfl,fun e=>hv (by rw[e])⟩,fun hφ=> ?_⟩⟩;rw[← p2];refine BZ.le (Bm.Mu hC D5 (BZ.keep (l:=dh) ?_)) (show n+2^K.j+1+2^K.j≤_ by omega);rw[Af (F.l7 aw st ws i) hq AO];exact Ov hC D5 (fun m2 Yj FA=>hA hφ i m2 aw st ws h0 h4 Yj FA Aq) (F.m39 aw st ws i) fun m2 Yj FA=>Af (F.y8 aw st ws i) Yj FA
theorem uw{aw st:Bool}{ws i:Int}{m:MW}{n2:Nat}(hA:0<φ→ax K ty Post lty (φ-1) n)(h0:0≤i)(h4:i≤4)(hq:m.q≤5)(AO:okW aw m=true)(Aq:st=true→aw=true)(Oa:TU m=true)
  (hS:i<4→∀(m:MW) (aw st:Bool) (ws:Int),m.q≤5→okW aw m=true→(st=true→aw=true)→BZ K.C.P ty Post .lock lty K.sz K.lo n2 φ (.loop aw) (some m) (K.N m aw st ws (i+1))) :
  BZ K.C.P ty Post .lock lty K.sz K.lo (n+n2+12*2^K.j+20) φ (.loop aw) (some m) (K.SP m aw st ws i):=by
 have gR:(TU m&&okW aw m)=true:=by rw[Oa,AO]; rfl
 have e:=Af (F.c5 aw st ws i) hq gR;simp only[AR]at e;obtain⟨e1,e2⟩:=e;obtain⟨El,hp⟩:=BG e2;refine BZ.le (BZ.Z4 (n:=n+n2+12*2^K.j+19) Fc El Ki (DI e1) ?_ fun hi=> ?_) (by omega)
 ·obtain⟨pf,p1,p2⟩:=hp (.bool false);refine⟨pf,p1, ?_⟩;rw[← p2];refine BZ.le (Bm.Mu hC D5 (BZ.keep (l:=iO) ?_)) (show n+9*2^K.j+14+2^K.j≤_ by omega);rw[Af (F.d5 aw st ws i) hq gR];exact jx hC Fc D5 F Ki hA h0 h4 hq AO Aq
 ·obtain⟨pf,p1,p2⟩:=hp (.bool true);refine⟨pf,p1, ?_⟩;rw[← p2];refine BZ.le (Bm.Mu hC D5 (n:=n+n2+8*2^K.j+10) ?_) (by omega);show BZ _ _ _ _ _ _ _ _ _ _ _ (K.SC m aw st ws i);cases Kw:(!aw&&Eb m)with
  |true =>
   rw[AF,BI]at Kw;obtain⟨rfl,vK⟩:=Kw;have WE:st=false:=by cases st<;>first|rfl|exact absurd (Aq rfl) (by simp)
   subst WE;have e:=Af (F.e6 ws i) hq vK;simp only[AR]at e;obtain⟨r1,r2⟩:=e;obtain⟨RS,He⟩:=BG r2;have tail: ∀(b:Bool) (m1:MW) (sn:Option MW),0<φ→BZ K.C.P ty Post .lock lty K.sz K.lo (n+7*2^K.j+9) (φ-1) (.loop b) sn (Bu (K.SC m false false ws i) (.bool b)):=fun b m1 sn hφ=>by
    have e:=Af (F.e6b b ws i) hq vK;simp only[AR]at e;obtain⟨s1,s2⟩:=e;obtain⟨nk,Yl⟩:=BG s2;refine BZ.le (Bm.Mu hC D5 (n:=n+3*2^K.j+4) ?_) (by omega);obtain⟨ZS,q1,q2⟩:=Yl undef;refine BZ.le (BZ.nothing (n:=n+2^K.j+1+2^K.j) Fc nk Ki (DI s1) ⟨ZS,q1, ?_⟩) (by omega);rw[← q2];refine Bm.Mu hC D5 (BZ.keep (l:=R3) ?_);rw[Af (F.e6c b ws i) hq vK,Zi h0 hi];exact Ov hC D5 (fun m2 Yj FA=>hA hφ (i+1) m2 b false ws (by omega) (by omega) Yj FA (fun h=>by cases h)) (F.h10 b false ws (i+1)) fun m2 Yj FA=>Af (F.wP b false ws (i+1)) Yj FA
   refine BZ.le (BZ.Lv (n:=n+7*2^K.j+9) Fc RS (DI r1) rfl (fun m1 Ti Tf hv=> ?_) fun m1 Ti Tf hv=> ?_) (by omega)
   ·have:=Gm.MW.val_inj hv;subst this;obtain⟨BU,ZW,ZV⟩:=He (.bool true);obtain⟨l,wk,sv,q⟩:=m1;simp only[Eb,AF,BI]at vK;obtain⟨⟨⟨rfl,rfl⟩,rfl⟩,_⟩:=vK;refine⟨.loop true,⟨true,true,false,q⟩,BU,.Z4,rfl,IS,ZW,.inr ⟨.inl (fun e=>by cases e),fun hφ=> ?_⟩⟩;rw[← ZV];exact tail true ⟨true,true,false,q⟩ _ hφ
   ·obtain⟨BU,ZW,ZV⟩:=He (.bool false);refine⟨.loop false,BU,.same,IS,ZW,.inr ⟨.inr ⟨m,rfl,fun e=>hv (by rw[e])⟩,fun hφ=> ?_⟩⟩;rw[← ZV];exact tail false m1 _ hφ
  |false =>
   have vQ:(TU m&&okW aw m&& !(!aw&&Eb m))=true:=by rw[gR,Kw]; rfl
   have e:=Af (F.g6 aw st ws i) hq vQ;simp only[AR]at e;obtain⟨r1,r2⟩:=e;obtain⟨RS,He⟩:=BG r2;obtain⟨BU,ZW,ZV⟩:=He undef;refine BZ.le (BZ.nothing (n:=n2+2^K.j+1+2^K.j) Fc RS Ki (DI r1) ⟨BU,ZW, ?_⟩) (by omega);rw[← ZV];refine Bm.Mu hC D5 (BZ.keep (l:=R3) ?_);rw[Af (F.g6b aw st ws i) hq vQ,Zi h0 hi];exact Ov hC D5 (fun m2 Yj FA=>hS hi m2 aw st ws Yj FA Aq) (F.h10 aw st ws (i+1)) fun m2 Yj FA=>Af (F.wP aw st ws (i+1)) Yj FA
theorem uz(hA:0<φ→ax K ty Post lty (φ-1) n): ∀d:Nat,d≤4→∃n2,∀(i:Int) (m:MW) (aw st:Bool) (ws:Int),4-d≤i→i≤4→m.q≤5→okW aw m=true→(st=true→aw=true)→BZ K.C.P ty Post .lock lty K.sz K.lo n2 φ (.loop aw) (some m) (K.N m aw st ws i):=by
 have one: ∀(n2:Nat) (i:Int),0≤i→i≤4→(i<4→∀(m:MW) (aw st:Bool) (ws:Int),m.q≤5→okW aw m=true→(st=true→aw=true)→BZ K.C.P ty Post .lock lty K.sz K.lo n2 φ (.loop aw) (some m) (K.N m aw st ws (i+1)))→
   ∀(m:MW) (aw st:Bool) (ws:Int),m.q≤5→okW aw m=true→(st=true→aw=true)→BZ K.C.P ty Post .lock lty K.sz K.lo (n+n2+12*2^K.j+20) φ (.loop aw) (some m) (K.N m aw st ws i):=fun n2 i h0 h4 hS m aw st ws hq AO Aq=>by
  unfold Bm.N;cases Oa:(m.l&& !m.sv)with
  |true=>exact uw hC Fc D5 F Ki hA h0 h4 hq AO Aq Oa hS
  |false=>exact(jx hC Fc D5 F Ki hA h0 h4 hq AO Aq).le (by omega)
 intro d;induction d with
 |zero=>exact fun _=>⟨n+0+12*2^K.j+20,fun i m aw st ws h1 h2=>one 0 i (by omega) h2 (fun hi=>by omega) m aw st ws⟩
 |succ d ih =>
  intro hd;obtain⟨n2,h⟩:=ih (by omega);refine⟨n+n2+12*2^K.j+20+n2,fun i m aw st ws h1 h2 hq AO Aq=> ?_⟩;by_cases e:4-(d:Int)≤i
  ·exact(h i m aw st ws e h2 hq AO Aq).le (by omega)
  ·exact(one n2 i (by omega) h2 (fun hi m aw st ws=>h (i+1) m aw st ws (by omega) (by omega)) m aw st ws hq AO Aq).le (by omega)
theorem m9(ty:TypeId)(Post:Value→World→Prop)(lty:Nat): ∀φ:Nat,∃n,ax K ty Post lty φ n:=by
 intro φ;induction φ with
 |zero =>
  obtain⟨n2,h⟩:=uz (φ:=0) (n:=0) (ty:=ty) (Post:=Post) (lty:=lty) hC Fc D5 F Ki (fun h=>by omega) 4 (AN _);exact⟨n2,fun i m aw st ws h0 h4=>h i m aw st ws (by omega) h4⟩
 |succ φ ih =>
  obtain⟨n,hn⟩:=ih;obtain⟨n2,h⟩:=uz (φ:=φ+1) (n:=n) (ty:=ty) (Post:=Post) (lty:=lty) hC Fc D5 F Ki (fun _=>hn) 4 (AN _);exact⟨n2,fun i m aw st ws h0 h4=>h i m aw st ws (by omega) h4⟩
theorem iI(ty:TypeId)(Post:Value→World→Prop)(lty φ:Nat): ∃n,BZ K.C.P ty Post .lock lty K.sz K.lo n φ .out none (K.start K.fl):=by
 obtain⟨n,hA⟩:=m9 hC Fc D5 F Ki ty Post lty φ;refine⟨n+3*2^K.j+10+2^K.j,Bm.Mu hC D5 ?_⟩;show BZ _ _ _ _ _ _ _ _ _ _ _ K.S1;obtain⟨El,hp⟩:=BG F.o1;refine BZ.le (BZ.Lv (n:=n+2*2^K.j+8+2^K.j) Fc El (DI F.a1) rfl (fun m1 Ti Tf hv=> ?_) fun m1 Ti Tf hv=> ?_) (by omega)
 ·have:m1=⟨false,false,false,0⟩:=Gm.MW.val_inj (hv.trans rfl);subst this;obtain⟨pf,p1,p2⟩:=hp (.bool true);refine⟨.hold,⟨true,false,false,0⟩,pf,.jC,rfl,IT trivial,p1,.inl ?_⟩;rw[← p2];refine Bm.Mu hC D5 (BZ.le ?_ (show 2^K.j+2≤_ by omega));exact K.UN hC Fc D5 F.a2
 ·obtain⟨pf,p1,p2⟩:=hp (.bool false);refine⟨.loop false,pf,.tp hv,IS,p1,.inl ?_⟩;rw[← p2];refine Bm.Mu hC D5 (BZ.le ?_ (show n+2^K.j+1≤_ by omega));show BZ _ _ _ _ _ _ _ _ _ _ _ K.S4;exact Ov hC D5 (fun m hq AO=>hA 0 m false false 0 (by omega) (by omega) hq AO (fun h=>by cases h)) F.a4 fun m hq AO=>List.map_inj_left.1 F.b4 m (Rj m hq)
end
def Bm.bz(K:Bm)(s:DS):Bool:=CF s&&(Nat.beq s.d 0&&(match I7 K.xl s with
 |some (.Dw,p::_)=>XH 0 K.lo p
 |_=>false))
def Bm.Ro(K:Bm)(s:DS):Bool:=CF s&&((match I7 K.xl s with
 |some (.FJ,p::_)=>XH 0 (K.lo+1) p
 |_=>false)&&K.MJ (K.it (Bu s undef)))
def Bm.V1(K:Bm):DS:=K.it (K.start K.fu)
def dg:List Nat:= [0,8]
def aP:List Nat:= [0,27,28,29]
def iN:List Nat:= [0,37]
def Bm.UR(K:Bm):DS:=Be dg (K.it (Bu K.V1 (wv ⟨true,false,false,0⟩)))
def Bm.UA(K:Bm):DS:=K.it (Bu K.UR undef)
def Bm.U2(K:Bm)(m:MW):DS:=K.it (Bu K.UA (wv {m with l:=false}))
def Fh(m:MW):Bool:= !m.l&& !m.sv&& !m.wk&& !(m.q==0)
def Ep(m:MW):Bool:=m.l&& !m.sv&& !m.wk&& !(m.q==0)
def Bm.UC(K:Bm)(m0 m:MW):DS:=⟨⟨K.fus,Ag [(0,K.P0),(27,K.P0),(28,wv m),(29,wv ⟨false,true,false,m.q-1⟩)] .nil,43,(K.U2 ⟨true,false,false,1⟩).fr.todo,[],.run,.normal,none⟩,(K.U2 m0).cs,xG,1⟩
def Bm.UL(K:Bm)(m0:MW):DS:=Be iN (K.it (Bu (K.UC m0 ⟨false,false,false,1⟩) (.bool false)))
structure KE(K:Bm):Prop where
 ua:K.Le K.V1=true
 ub:(AK fun m=>m.l).map (fun m=>Be dg (K.it (Bu K.V1 (wv m))))=(AK fun m=>m.l).map fun _=>K.UR
 uc:K.bz K.UR=true
 ud:I7 K.xl K.UA=some (.add .i32,[K.P0,.int .i32 (-1)])∧CF K.UA=true
 ue:(AK fun m=>m.l&& !m.sv&&(m.wk||m.q==0)).map (fun m=>K.MJ (K.U2 m))=(AK fun m=>m.l&& !m.sv&&(m.wk||m.q==0)).map fun _=>true
 uf:(AK fun m=>m.l&&m.sv).map (fun m=>K.Ro (K.U2 m))=(AK fun m=>m.l&&m.sv).map fun _=>true
 ug:(AK Ep).map (fun m=>Be aP (K.U2 m))=(AK Ep).map fun m=>K.UC m {m with l:=false}
 uh:(AK Ep).map (fun m0=>(AK Fh).map fun m=>(I7 K.xl (K.UC m0 m),CF (K.UC m0 m)))=(AK Ep).map fun _=>(AK Fh).map fun m=>(some (.Lv .i32,[K.P0,wv m,wv ⟨false,true,false,m.q-1⟩]),true)
 ui:(AK Ep).map (fun m0=>(AK Fh).map fun m=>K.Ro (K.it (Bu (K.UC m0 m) (.bool true))))=(AK Ep).map fun _=>(AK Fh).map fun _=>true
 uj:(AK Ep).map (fun m0=>(AK Fh).map fun m=>Be iN (K.it (Bu (K.UC m0 m) (.bool false))))=(AK Ep).map fun m0=>(AK Fh).map fun _=>K.UL m0
 uk:(AK Ep).map (fun m0=>K.Le (K.UL m0))=(AK Ep).map fun _=>true
 ul:(AK Ep).map (fun m0=>(AK Fh).map fun m=>Be aP (K.it (Bu (K.UL m0) (wv m))))=(AK Ep).map fun m0=>(AK Fh).map fun m=>K.UC m0 m
 um:(AK Ep).map (fun m0=>(AK fun m=> !Fh m).map fun m=>K.MJ (K.it (Bu (K.UL m0) (wv m))))=(AK Ep).map fun _=>(AK fun m=> !Fh m).map fun _=>true
section
variable{K:Bm}{ty:TypeId}{Post:Value→World→Prop}{lty n φ:Nat}{lp:LP}{sn:Option MW}{s s':DS}
variable(hC:An K.C)(Fc:C9 K.C.P K.xl)(D5:C9 K.C.P K.xq)(F:KE K)
include hC D5
omit D5 in
theorem Bm.lP(h:K.MJ s=true):BZ K.C.P ty Post .unlock lty K.sz K.lo 1 φ .fin sn s:=(K.ZL hC h).fin
include Fc
theorem Bm.ZK(h:K.Ro s=true):BZ K.C.P ty Post .unlock lty K.sz K.lo (2^K.j+2) φ .rel sn s:=by
 unfold Bm.Ro at h;simp only[AF]at h;obtain⟨h1,h3,h4⟩:=h;obtain⟨El,hp⟩:=BG h1;obtain⟨pf,p1,p2⟩:=hp undef;split at h3
 ·rename_i p t e;have hp:=Dg h3;subst hp;refine BZ.le (BZ.raise (n:=1+2^K.j) Fc El (DI e) p1 ?_) (by omega);rw[← p2];exact Bm.Mu hC D5 (K.lP hC h4)
 ·cases h3
include F
theorem uv(m0:MW)(h0:m0.q≤5)(rL:Ep m0=true): ∀φ:Nat,∃n,∀m:MW,m.q≤5→Fh m=true→BZ K.C.P ty Post .unlock lty K.sz K.lo n φ .SX (some m) (K.UC m0 m):=by
 have step: ∀(φ n:Nat),(0<φ→∀m:MW,m.q≤5→Fh m=true→BZ K.C.P ty Post .unlock lty K.sz K.lo n (φ-1) .SX (some m) (K.UC m0 m))→
   ∀m:MW,m.q≤5→Fh m=true→BZ K.C.P ty Post .unlock lty K.sz K.lo (n+3*2^K.j+6) φ .SX (some m) (K.UC m0 m):=by
  intro φ n hA m hq hu;have e:=Af (Af F.uh h0 rL) hq hu;simp only[AR]at e;obtain⟨e1,e2⟩:=e;obtain⟨El,hp⟩:=BG e2;refine BZ.le (BZ.Lv (n:=n+3*2^K.j+5) Fc El (DI e1) rfl (fun m1 Ti Tf hv=> ?_) fun m1 Ti Tf hv=> ?_) (by omega)
  ·have:=Gm.MW.val_inj hv;subst this;obtain⟨pf,p1,p2⟩:=hp (.bool true);obtain⟨l,wk,sv,q⟩:=m1;have nK:=hu;simp only[Fh,AF,BI,beq_eq_false_iff_ne]at nK;obtain⟨⟨⟨rfl,rfl⟩,rfl⟩,vN⟩:=nK;obtain⟨q,rfl⟩: ∃z,q=z+1:=⟨q-1,by omega⟩;refine⟨.rel,⟨false,true,false,q⟩,pf,.call,rfl,FM fun _=>trivial,p1,.inl ?_⟩;rw[← p2];refine BZ.le (Bm.Mu hC D5 (n:=2^K.j+2) ?_) (by omega);exact K.ZK hC Fc D5 (Af (Af F.ui h0 rL) hq hu)
  ·obtain⟨pf,p1,p2⟩:=hp (.bool false);refine⟨.SX,pf,.same,FM fun _=>trivial,p1,.inr ⟨.inr ⟨m,rfl,fun e=>hv (by rw[e])⟩,fun hφ=> ?_⟩⟩;rw[← p2];refine BZ.le (Bm.Mu hC D5 (BZ.keep (l:=iN) ?_)) (show n+2*2^K.j+2+2^K.j≤_ by omega);rw[Af (Af F.uj h0 rL) hq hu];obtain⟨ho,hl⟩:=K.TV (Af F.uk h0 rL);obtain⟨RS,He⟩:=BG ho;refine BZ.le (BZ.load (n:=n+2^K.j+1) hC hl fun m2 Yj hse2=> ?_) (by omega);obtain⟨BU,ZW,ZV⟩:=He (wv m2);cases hu2:Fh m2 with
   |true =>
    refine⟨.SX,BU,.same,FM fun _=>trivial,ZW,.inl ?_⟩;rw[← ZV];refine BZ.le (Bm.Mu hC D5 (BZ.keep (l:=aP) ?_)) (show n+2^K.j≤_ by omega);rw[Af (Af F.ul h0 rL) Yj hu2];exact hA hφ m2 Yj hu2
   |false =>
    refine⟨.fin,BU,.leave ?_,FM fun _=>trivial,ZW,.inl ?_⟩
    ·obtain⟨l,wk,sv,q⟩:=m2;cases l<;>cases wk<;>cases sv<;>simp_all [Fh]
    ·rw[← ZV];refine BZ.le (Bm.Mu hC D5 (n:=1) ?_) (by omega);exact K.lP hC (Af (Af F.um h0 rL) Yj (by simp[hu2]))
 intro φ;induction φ with
 |zero=>exact⟨_,step 0 0 (fun h=>by omega)⟩
 |succ φ ih =>
  obtain⟨n,hn⟩:=ih;exact⟨_,step (φ+1) n fun _=>hn⟩
theorem aL(ty:TypeId)(Post:Value→World→Prop)(lty φ:Nat): ∃n,SK K.C.P ty Post lty K.sz K.lo n φ (K.start K.fu):=by
 have huc: ∃n,∀m0:MW,m0.q≤5→Ep m0=true→∀m:MW,m.q≤5→Fh m=true→BZ K.C.P ty Post .unlock lty K.sz K.lo n (φ) .SX (some m) (K.UC m0 m):=by
  have: ∀l:List MW,(∀m∈l,m.q≤5∧Ep m=true)→∃n,∀m0∈l,∀m:MW,m.q≤5→Fh m=true→BZ K.C.P ty Post .unlock lty K.sz K.lo n (φ) .SX (some m) (K.UC m0 m):=by
   intro l;induction l with
   |nil=>exact fun _=>⟨0,fun m hm=>by cases hm⟩
   |cons a l ih =>
    intro h;obtain⟨n1,h1⟩:=ih fun m hm=>h m (.tail _ hm);obtain⟨n2,h2⟩:=uv (ty:=ty) (Post:=Post) (lty:=lty) hC Fc D5 F a (h a (.head _)).1 (h a (.head _)).2 φ;refine⟨n1+n2,fun m0 hm m hq hu=> ?_⟩;rcases AZ.1 hm with rfl|hm
    ·exact(h2 m hq hu).le (by omega)
    ·exact(h1 m0 hm m hq hu).le (by omega)
  obtain⟨n,hn⟩:=this (AK Ep) fun m hm=>by
   have:=B8.1 hm;refine⟨?_,this.2⟩;have h:=this.1;simp only[words,List.mem_flatMap,Bd,Cq]at h;obtain⟨l,_,wk,_,sv,_,q,hq,rfl⟩:=h;show q≤5;omega
  exact⟨n,fun m0 h1 h2=>hn m0 (Nk h1 h2)⟩
 obtain⟨n,hn⟩:=huc;refine⟨n+4*2^K.j+10+2^K.j,Iy hC D5 K.j ?_⟩;show SK _ _ _ _ _ _ _ _ K.V1;obtain⟨ho,hl⟩:=K.TV F.ua;obtain⟨El,hp⟩:=BG ho;refine SK.load (n:=n+4*2^K.j+9) hC hl fun m hq xb=> ?_;obtain⟨pf,p1,p2⟩:=hp (wv m);refine⟨pf,p1, ?_⟩;rw[← p2,show n+4*2^K.j+9=n+3*2^K.j+9+2^K.j by omega];refine Iy hC D5 K.j (SK.keep (l:=dg) ?_);have:Be dg (dX K.C K.xq K.sz K.j (Bu K.V1 (wv m)))=K.UR:=Af F.ub hq xb;rw[this];have hr:=F.uc;unfold Bm.bz at hr;simp only[AF]at hr;obtain⟨h1,h2,h3⟩:=hr;have h2:=AJ h2;obtain⟨hng1,Kx⟩:=BG h1;obtain⟨VD,q1,q2⟩:=Kx undef;split at h3
 ·rename_i p t e;have rM:=Dg h3;subst rM;refine SK.rel (n:=n+3*2^K.j+8) Fc hng1 (DI e) h2 q1 fun sn=> ?_;have e0:(⟨VD,K.UR.cs,K.UR.H,0⟩:DS)=Bu K.UR undef:=by rw[q2,h2]
  rw[e0];refine BZ.le (Bm.Mu hC D5 (n:=n+2*2^K.j+8) ?_) (by omega);show BZ _ _ _ _ _ _ _ _ _ _ _ K.UA;obtain⟨d1,d2⟩:=F.ud;obtain⟨nk,Yl⟩:=BG d2;refine BZ.le (BZ.add (n:=n+2*2^K.j+7) Fc nk (DI d1) fun m hq IU=> ?_) (by omega);have xb:m.l=true:=IU.1;obtain⟨l,wk,sv,q⟩:=m;simp only at xb;subst xb;have QS:(⟨false,wk,sv,q⟩:MW).val=IntKind.i32.wrap ((⟨true,wk,sv,q⟩:MW).val+ -1):=by
   have hq:q≤5:=hq;have:q=0∨q=1∨q=2∨q=3∨q=4∨q=5:=by omega
   cases wk<;>cases sv<;>rcases this with rfl|rfl|rfl|rfl|rfl|rfl<;>rfl
  obtain⟨ZS,r1,r2⟩:=Yl (wv ⟨false,wk,sv,q⟩);cases sv with
  |true =>
   refine⟨.rel,⟨false,wk,true,q⟩,ZS,.We,QS,FM fun _=>trivial,r1,.inl ?_⟩;rw[← r2];refine BZ.le (Bm.Mu hC D5 (n:=2^K.j+2) ?_) (by omega);have e:K.it (Bu K.UA (wv ⟨false,wk,true,q⟩))=K.U2 ⟨true,wk,true,q⟩:=by unfold Bm.U2; rfl
   rw[e];exact K.ZK hC Fc D5 (Af F.uf (m:=⟨true,wk,true,q⟩) hq (by rfl))
  |false =>
   cases hz:(wk||q==0)with
   |true =>
    refine⟨.fin,⟨false,wk,false,q⟩,ZS,.kS ?_,QS,FM fun _=>trivial,r1,.inl ?_⟩
    ·rw[DX,beq_iff_eq]at hz;exact hz.symm
    ·rw[← r2];refine BZ.le (Bm.Mu hC D5 (n:=1) ?_) (by omega);have e:K.it (Bu K.UA (wv ⟨false,wk,false,q⟩))=K.U2 ⟨true,wk,false,q⟩:=by unfold Bm.U2; rfl
     rw[e];exact K.lP hC (Af F.ue (m:=⟨true,wk,false,q⟩) hq (by simpa using hz))
   |false =>
    rw[Bool.or_eq_false_iff]at hz;obtain⟨rfl,hz⟩:=hz;refine⟨.SX,⟨false,false,false,q⟩,ZS,.Wf,QS,FM fun _=>trivial,r1,.inl ?_⟩;rw[← r2];have hu:Ep ⟨true,false,false,q⟩=true:=by simp[Ep,hz]
    refine BZ.le (Bm.Mu hC D5 (BZ.keep (l:=aP) ?_)) (show n+2^K.j≤_ by omega);have:=Af F.ug (m:=⟨true,false,false,q⟩) hq hu;have e:K.it (Bu K.UA (wv ⟨false,false,false,q⟩))=K.U2 ⟨true,false,false,q⟩:=by unfold Bm.U2; rfl
    rw[e,this];exact hn _ hq hu _ hq (by simp[Fh,hz])
 ·cases h3
end
end Go.Gd
namespace Go.Gd
open Go Go.Gw Go.Conc
open Go.ConcR (KK wgBlock WgAt stA smA)
structure UT where
 all:Array Oper
 i:Nat
 o:Oper
 l:List Oper
 k:List Ab
def cur(s:DS):Option UT :=
 match s with
 |⟨fr,_,_,_⟩=>match fr.mode with
  | .run=>match fr.todo with
   | .ops all i (o::l)::k=>cond (Ae fr.kind) (match Aj fr all o with
    |some true=>some ⟨all,i,o,l,k⟩
    |_=>none) none
   |_=>none
  |_=>none
def putAt(s:DS)(c:UT)(v:Value):Option PF :=
 match s,c with
 |⟨fr,_,_,_⟩,⟨all,i,o,l,k⟩=>match By fr o.dst v with
  |some tm=>some (fr.up tm (.ops all (i+1) l::k))
  |none=>none
theorem Ia{s:DS}{c:UT}(h:cur s=some c):s.fr.mode= .run∧s.fr.todo= .ops c.all c.i (c.o::c.l)::c.k∧s.fr.kind≠ .early∧Aj s.fr c.all c.o=some true:=by
 obtain⟨fr,cs,H,d⟩:=s;unfold cur at h;simp only at h;split at h
 ·rename_i hm;split at h
  ·rename_i all i o l k ht;obtain⟨hk,h⟩:=Ay h;split at h
   ·rename_i hw;cases h;exact⟨hm,ht,fun e=>(by rw[e]at hk; cases hk),hw⟩
   ·cases h
  ·cases h
 ·cases h
theorem Ee{s:DS}{c:UT}{v:Value}{pf:PF}(h:putAt s c v=some pf): ∃tm,By s.fr c.o.dst v=some tm∧pf={s.fr with tmps:=tm,todo:= .ops c.all (c.i+1) c.l::c.k}:=by
 obtain⟨fr,cs,H,d⟩:=s;obtain⟨all,i,o,l,k⟩:=c;unfold putAt at h;simp only at h;split at h
 ·rename_i tm e;cases h;exact⟨tm,e,rfl⟩
 ·cases h
def NQ:Option AI→Option Nat
 |some (.obj (.chan cap ⟨[]⟩ false 0 0 false))=>some cap
 |_=>none
theorem Qe{o:Option AI}{cap:Nat}(h:NQ o=some cap):o=some (.obj (.chan cap #[] false 0 0 false)):=by
 unfold NQ at h;split at h
 ·cases h; rfl
 ·cases h
def SV(z:Value):Bool:=match z.cells.toList with
 | [.int .u64 (.ofNat 0),.int .u32 (.ofNat 0)]=>true
 |_=>false
theorem Nl{z:Value}(h:SV z=true):z.cells= #[.int .u64 0,.int .u32 0]:=by
 unfold SV at h;split at h
 ·rename_i e;exact ED.1 e
 ·cases h
def TE(C:CB)(L:List Nat)(s:DS)(c:UT)(t:TypeId)(x:Operand):Option (List Dm) :=
 match s with
 |⟨fr,cs,H,d⟩=>match AQ H.ng fr x with
  |some u=>match M8 C.ty H t u with
   |some H'=>cond (c.o.dst.isSome&&Nat.ble H.next H'.next) (match putAt ⟨fr,cs,H,d⟩ c (.chan (some H.next))with
    |some pf=>some [⟨.out (H.next::L),⟨pf,cs,H',d⟩⟩]
    |none=>none) none
   |none=>none
  |none=>none
def Px(C:CB)(ty:Nat)(L:List Nat)(s:DS)(c:UT)(t:TypeId):Option (List Dm) :=
 match s with
 |⟨fr,cs,H,d⟩=>cond (Nat.beq t ty&&Nat.ble (H.next+1) (2^T.deep)) (match L with
  | []=>none
  |ch::_=>match NQ (H.t.get ch)with
   |none=>none
   |some cap=>cond (Nat.blt 0 cap) (match C.ty.get t with
    |some (inf,_)=>match inf.zero with
     |some z=>cond (SV z) (match putAt ⟨fr,cs,H,d⟩ c (.pointer (some ⟨H.next,0,none⟩))with
      |some pf=>some [⟨.AP ⟨ch,cap,[],some (H.next,.idle 0),false,none⟩,⟨pf,cs,cN H ch ty,d⟩⟩]
      |none=>none) none
     |none=>none
    |none=>none) none) none
def Og(C:CB)(ty:Nat)(L:List Nat)(s:DS):Option (List Dm) :=
 match cur s with
 |some c=>match c.o.op with
  | .makeChan t x=>TE C L s c t x
  | .alloc t=>Px C ty L s c t
  |_=>none
 |none=>none
section
variable{C:CB}{xs:T XK}{ks:T (List AM)}{ty:TypeId}{Post:Value→World→Prop}{main:Bool}
theorem RI(hC:An C){L:List Nat}{s:DS}{c:UT}(hc:cur s=some c){t:TypeId}{x:Operand}(A5:c.o.op= .makeChan t x){l:List Dm}(h:TE C L s c t x=some l):AU C.P ty Post main ⟨.out L,s⟩ l:=by
 obtain⟨h1,h2,h3,h4⟩:=Ia hc;obtain⟨fr,cs,H,d⟩:=s;unfold TE at h;simp only at h;split at h
 ·rename_i u ex;split at h
  ·rename_i H' em;obtain⟨e0,h⟩:=Ay h;rw[AF]at e0;obtain⟨ed,en⟩:=e0;obtain⟨td,ed⟩:=Option.isSome_iff_exists.1 ed;split at h
   ·rename_i pf ep;cases h;obtain⟨tm,p1,rfl⟩:=Ee ep;have hr:Reach C.P ty Post main (⟨none,none,none,none,[],fun _=>False,fun _=>False,default,fun _=>none,fun _=>False,default⟩:Env) ⟨fr,cs,H,d⟩ ⟨{fr with tmps:=tm,todo:= .ops c.all (c.i+1) c.l::c.k},cs,H',d⟩:=by
     obtain⟨k,hk⟩: ∃k,∀E:Env,(main=true∨E.send≠none)→∀n,DW C.P ty Post main E n ⟨{fr with tmps:=tm,todo:= .ops c.all (c.i+1) c.l::c.k},cs,H',d⟩→DW C.P ty Post main E (n+k) ⟨fr,cs,H,d⟩:=by
      have:=fun E hb=>Reach.op (P:=C.P) (ty:=ty) (Post:=Post) (main:=main) (E:=E) (s:=⟨fr,cs,H,d⟩) (d':=d) hb h1 h2 h3 (fun c' e=>by rw[A5]at e; cases e) h4 (AH en) p1 fun ρ c' IC w g1 g2 g3 g4=>by
       have:=(QD (P:=C.P) hC.ty g1 g2 g3 A5 ex em).d (fn:=fr.fn);rw[g4]at this;exact this
      exact this ⟨some (0,⟨fun _ _ _=>True,fun _ _ _ _ _ _=>trivial⟩),none,none,none,[],fun _=>False,fun _=>False,default,fun _=>none,fun _=>False,default⟩ (.inr (by simp))
     exact⟨k,hk⟩
    refine(AU.P3 (.out L) hr).trans fun y hy=> ?_;rw[B3.1 hy];exact AU.see (s:=⟨_,cs,H',d⟩) (l:=L) (x:=H.next) rfl (t:=td) (.inl (by rw[ed]at p1; exact Pd p1))
   ·cases h
  ·cases h
 ·cases h
theorem Pw(hC:An C){L:List Nat}{s:DS}{c:UT}(hc:cur s=some c){t:TypeId}(A5:c.o.op= .alloc t){l:List Dm}(h:Px C ty L s c t=some l):AU C.P ty Post main ⟨.out L,s⟩ l:=by
 obtain⟨h1,h2,h3,h4⟩:=Ia hc;obtain⟨fr,cs,H,d⟩:=s;unfold Px at h;simp only at h;obtain⟨e0,h⟩:=Ay h;rw[AF]at e0;have et:=AJ e0.1;subst et;split at h
 ·cases h
 ·rename_i ch L';split at h
  ·cases h
  ·rename_i cap ec;obtain⟨e1,h⟩:=Ay h;split at h
   ·rename_i inf td ei;split at h
    ·rename_i z ez;obtain⟨e2,h⟩:=Ay h;split at h
     ·rename_i pf ep;cases h;obtain⟨tm,p1,rfl⟩:=Ee ep;exact AU.jP (s:=⟨fr,cs,H,d⟩) hC.ty h1 h2 h3 h4 A5 ei ez (Nl e2) p1 (.head _) (Qe ec) (AH e1) (AH e0.2)
     ·cases h
    ·cases h
   ·cases h
theorem Km(hC:An C){L:List Nat}{s:DS}{l:List Dm}(h:Og C ty L s=some l):AU C.P ty Post main ⟨.out L,s⟩ l:=by
 unfold Og at h;split at h
 ·rename_i c hc;split at h
  ·rename_i t x A5;exact RI hC hc A5 h
  ·rename_i t A5;exact Pw hC hc A5 h
  ·cases h
 ·cases h
end
def bx(pg:PG)(q:Nat):Ph:=match pg with
 |⟨ch,cap,kids,wg,cl,cr⟩=>match kids.eraseIdx q,cap,wg,cr with
  | [],0,none,none=> .out []
  |r,cap,wg,cr=> .AP ⟨ch,cap,r,wg,cl,cr⟩
def Oi(s:DS)(c:UT)(ok:Bool)(pg:PG)(q:Nat)(kv:KV):Option Dm :=
 match s with
 |⟨fr,cs,H,d⟩=>match G8 kv H with
  |H'=>cond (Rr kv H H') (match Fq (Jh kv H.next) 6 kv.v with
   |some u=>match putAt ⟨fr,cs,H,d⟩ c (recvd ok u true)with
    |some pf=>some ⟨bx pg q,⟨pf,cs,H',d⟩⟩
    |none=>none
   |none=>none) none
def PU(s:DS)(c:UT)(ok:Bool)(pg:PG)(l:List KV):Nat→Option (List Dm) :=
 List.rec (motive:=fun _=>Nat→Option (List Dm)) (fun _=>some []) (fun kv _ ih q=>match Oi s c ok pg q kv with
  |some y=>match ih (q+1)with
   |some r=>some (y::r)
   |none=>none
  |none=>none) l
theorem Ko{s:DS}{c:UT}{ok:Bool}{pg:PG}: ∀{l:List KV} {q:Nat} {r:List Dm},PU s c ok pg l q=some r→∀(j:Nat) (kv:KV),l[j]? =some kv→∃y,Oi s c ok pg (q+j) kv=some y∧y∈r
 | [],q,r,_,j,kv,e=>by simp at e
 |kv0::l,q,r,h,j,kv,e=>by
  unfold PU at h;simp only at h;split at h
  ·rename_i y ey;split at h
   ·rename_i r' er;cases h;cases j with
    |zero =>
     simp only[CM,AE]at e;subst e;exact⟨y,ey,.head _⟩
    |succ j =>
     obtain⟨z,ez,hz⟩:=Ko (l:=l) er j kv (by simpa using e);exact⟨z,by rw[show q+(j+1)=q+1+j by omega]; exact ez,.tail _ hz⟩
   ·cases h
  ·cases h
def Qo(C:CB)(t:TypeId):Option Value:=match C.ty.get t with
 |some (_,.chan _ elem)=>match C.ty.get elem with
  |some (ei,_)=>ei.zero
  |none=>none
 |_=>none
def UH(s:DS)(x:Operand)(ch:Nat):Bool:=match s with
 |⟨fr,_,H,d⟩=>Nat.beq d 0&&match AQ H.ng fr x with
  |some (.chan (some y))=>Nat.beq y ch
  |_=>false
def Tt(C:CB)(pg:PG)(s:DS)(c:UT)(t:TypeId)(x:Operand)(ok:Bool):Option (List Dm) :=
 match Qo C t with
 |none=>none
 |some z=>cond (pg.AY.isNone&&UH s x pg.ch) (match pg.kids with
  | []=>cond (pg.closed&&(ground 6 z&&(match pg.wg with|none=>true|some (_,.fin)=>true|_=>false))) (match s with
   |⟨fr,cs,H,d⟩=>match putAt ⟨fr,cs,H,d⟩ c (recvd ok z false)with
    |some pf=>some [⟨.out [],⟨pf,cs,H,d⟩⟩]
    |none=>none) none
  |kv::l=>cond (cond (Nat.beq pg.cap 0) (!pg.closed) pg.closed) (PU s c ok pg (kv::l) 0) none) none
theorem Rf{C:CB}{t:TypeId}{z:Value}(h:Qo C t=some z): ∃ti dir elem ei ed,C.ty.get t=some (ti,.chan dir elem)∧C.ty.get elem=some (ei,ed)∧ei.zero=some z:=by
 unfold Qo at h;split at h
 ·rename_i ti dir elem e1;split at h
  ·rename_i ei ed e2;exact⟨_,_,_,_,_,e1,e2,h⟩
  ·cases h
 ·cases h
theorem OJ{s:DS}{x:Operand}{ch:Nat}(h:UH s x ch=true):s.d=0∧AQ s.H.ng s.fr x=some (.chan (some ch)):=by
 obtain⟨fr,cs,H,d⟩:=s;unfold UH at h;rw[AF]at h;refine⟨AJ h.1, ?_⟩;have:=h.2;split at this
 ·rename_i y e;rw[AJ this]at e;exact e
 ·cases this
section
variable{C:CB}{xs:T XK}{ks:T (List AM)}{ty:TypeId}{Post:Value→World→Prop}{main:Bool}
theorem Uu{pg:PG}{q:Nat}{s:DS}:AU C.P ty Post main ⟨.AP {pg with kids:=pg.kids.eraseIdx q},s⟩ [⟨bx pg q,s⟩]:=by
 obtain⟨ch,cap,kids,wg,cl,cr⟩:=pg;unfold bx;simp only
 split
 ·rename_i e;rw[e];exact AU.free rfl rfl (.inl rfl)
 ·exact AU.refl _
theorem Ra(hC:An C){pg:PG}{s:DS}{c:UT}(hc:cur s=some c){t:TypeId}{x:Operand}{ok:Bool}(A5:c.o.op= .recv t x ok){l:List Dm}(h:Tt C pg s c t x ok=some l):AU C.P ty Post main ⟨.AP pg,s⟩ l:=by
 obtain⟨h1,h2,h3,h4⟩:=Ia hc;unfold Tt at h;split at h
 ·cases h
 ·rename_i z ez;obtain⟨ti,dir,elem,ei,ed,e1,e2,ez⟩:=Rf ez;obtain⟨ea,h⟩:=Ay h;rw[AF]at ea;obtain⟨BW,ea⟩:=ea;have BW:pg.AY=none:=by simpa using BW
  obtain⟨hd,hx⟩:=OJ ea;split at h
  ·rename_i XC;obtain⟨eb,h⟩:=Ay h;simp only[AF]at eb;obtain⟨b1,b2,b3⟩:=eb;obtain⟨fr,cs,H,d⟩:=s;simp only at h;split at h
   ·rename_i pf ep;cases h;obtain⟨tm,p1,rfl⟩:=Ee ep;refine(AU.NC (s:=⟨fr,cs,H,d⟩) hC.ty h1 h2 h3 h4 A5 e1 e2 ez b2 hx hd BW XC b1 p1).trans fun y hy=> ?_;rw[B3.1 hy];refine AU.free BW XC ?_;generalize pg.wg=wg at b3;split at b3
    ·exact .inl rfl
    ·exact .inr ⟨_,rfl⟩
    ·cases b3
   ·cases h
  ·rename_i kv0 l0 XC;obtain⟨eb,h⟩:=Ay h;have A2:pg.cap=0∧pg.closed=false∨0<pg.cap∧pg.closed=true:=by
    cases e:Nat.beq pg.cap 0 with
    |true =>
     rw[e]at eb;simp only[AG,BI]at eb;exact .inl ⟨AJ e,eb⟩
    |false =>
     rw[e]at eb;simp only[Av]at eb;exact .inr ⟨Nat.pos_of_ne_zero (GK e),eb⟩
   have Kw:=Ko h;obtain⟨fr,cs,H,d⟩:=s;refine(AU.recv (s:=⟨fr,cs,H,d⟩) (L:=(List.range pg.kids.length).flatMap fun q=>match pg.kids[q]? with
    |some kv=>match Fq (Jh kv H.next) 6 kv.v with
     |some u=>match By fr c.o.dst (recvd ok u true)with
      |some tm=> [⟨.AP {pg with kids:=pg.kids.eraseIdx q},⟨{fr with tmps:=tm,todo:= .ops c.all (c.i+1) c.l::c.k},cs,G8 kv H,d⟩⟩]
      |none=> []
     |none=> []
    |none=> []) hC.ty h1 h2 h3 h4 A5 e1 e2 ez hx hd BW (by rw[XC]; simp) A2 fun q kv hq=> ?_).trans fun y hy=> ?_
   ·obtain⟨y,ey,hy⟩:=Kw q kv (by rw[← XC]; exact hq);unfold Oi at ey;simp only at ey;obtain⟨er,ey⟩:=Ay ey;split at ey
    ·rename_i u eu;split at ey
     ·rename_i pf ep;obtain⟨tm,p1,rfl⟩:=Ee ep;refine⟨er,u,tm,M4 6 eu,p1, ?_⟩;refine List.mem_flatMap.2 ⟨q,Cq.2 (DU.1 hq).1, ?_⟩;have p1:By fr c.o.dst (recvd ok u true)=some tm:=p1;rw[hq];simp only[eu,p1];exact .head _
     ·cases ey
    ·cases ey
   ·obtain⟨q,_,hq⟩:=List.mem_flatMap.1 hy;split at hq
    ·rename_i kv bF;split at hq
     ·rename_i u eu;split at hq
      ·rename_i tm etm;obtain⟨z',ey,HM⟩:=Kw q kv (by rw[← XC]; exact bF);unfold Oi at ey;simp only at ey;obtain⟨er,ey⟩:=Ay ey;rw[eu]at ey;simp only at ey;split at ey
       ·rename_i pf ep;obtain⟨gl,p1,rfl⟩:=Ee ep;have p1:By fr c.o.dst (recvd ok u true)=some gl:=p1;rw[etm]at p1;cases p1;cases ey;rw[B3.1 hq];have e0:0+q=q:=DV q;rw[e0]at HM;exact Uu.mono fun y hy=>by rw[B3.1 hy]; exact HM
       ·cases ey
      ·cases hq
     ·cases hq
    ·cases hq
end
def Jd(pg:PG)(a:Nat)(s:DS)(φ:Lz)(v:Value):Option Dm :=
 match IF s v with
 |some pf=>match s,pg with
  |⟨_,cs,H,d⟩,⟨ch,cap,kids,_,cl,cr⟩=>some ⟨.AP ⟨ch,cap,kids,some (a,φ),cl,cr⟩,⟨pf,cs,H,d⟩⟩
 |none=>none
def Gb{α:Type}(l:List (Option α)):Option (List α) :=
 List.rec (motive:=fun _=>Option (List α)) (some []) (fun x _ ih=>match x with
  |some y=>match ih with
   |some r=>some (y::r)
   |none=>none
  |none=>none) l
theorem D9{α:Type}: ∀{l:List (Option α)} {r:List α},Gb l=some r→∀x∈l,∃y,x=some y∧y∈r
 | [],r,_,x,hx=>by cases hx
 |a::l,r,h,x,hx=>by
  unfold Gb at h;simp only at h;split at h
  ·rename_i y;split at h
   ·rename_i r' er;cases h;rcases AZ.1 hx with rfl|hx
    ·exact⟨y,rfl,.head _⟩
    ·obtain⟨z,e,hz⟩:=D9 (l:=l) er x hx;exact⟨z,e,.tail _ hz⟩
   ·cases h
  ·cases h
theorem FI{pg:PG}{a:Nat}{s:DS}{φ:Lz}{v:Value}{y:Dm}(h:Jd pg a s φ v=some y): ∃pf,IF s v=some pf∧y=⟨.AP {pg with wg:=some (a,φ)},⟨pf,s.cs,s.H,s.d⟩⟩:=by
 unfold Jd at h;split at h
 ·rename_i pf e;cases h;exact⟨pf,e,rfl⟩
 ·cases h
def oO(pg:PG)(s:DS)(k:XK)(vs:List Value):Option (List Dm) :=
 match pg.wg with
 |none=>none
 |some (a,φ)=>cond (match s with|⟨_,_,_,d⟩=>Nat.blt 0 d) (match k with
  | .add .u64=>match vs with
   | [p,.int _ n]=>match φ with
    | .idle mx=>cond (XH a 0 p&&(decide (n=4294967296)&&Nat.blt mx 4)) (Gb ((List.range (mx+1)).map fun(v:Nat)=>Jd pg a s (.pend (mx+1)) (.int .u64 (((v:Int)+1)*KK)))) none
    |_=>none
   |_=>none
  | .load .u64=>match vs with
   | [p]=>cond (XH a 0 p) (match φ with
    | .idle mx=>Gb ((List.range (mx+1)).map fun(v:Nat)=>Jd pg a s (match v with|0=> .fin|v+1=> .w2 (v+1)) (.int .u64 ((v:Int)*KK)))
    | .w4=>Gb [Jd pg a s .fin (.int .u64 0)]
    |_=>none) none
   |_=>none
  | .Lv .u64=>match vs with
   | [p,.int _ n,.int .u64 m]=>match φ with
    | .w2 (v+1)=>cond (XH a 0 p&&(decide (n=((v+1:Nat):Int)*KK)&&decide (m=((v+1:Nat):Int)*KK+1))) (Gb (Jd pg a s .reg (.bool true)::(List.range (v+1)).map fun u=>Jd pg a s (.idle u) (.bool false))) none
    |_=>none
   |_=>none
  | .EN=>match vs with
   |p::_=>match φ with
    | .reg=>cond (XH a 1 p) (Gb [Jd pg a s .w4 undef]) none
    |_=>none
   |_=>none
  |_=>none) none
def Yx(pg:PG)(s:DS)(k:XK)(vs:List Value):Option (List Dm) :=
 match pg.wg with
 |none=>none
 |some (a,φ)=>cond (match φ with| .fin=>false|_=>true) (match vs with
  | .pointer (some ⟨b,_,none⟩)::_=>cond (Nat.beq b a) (match k with
   | .read=>Gb [Jd pg a s φ undef]
   | .write=>Gb [Jd pg a s φ undef]
   |_=>none) none
  |_=>none) none
def Qa(pg:PG)(s:DS)(c:UT)(cl:Call):Option (List Dm) :=
 match pg.wg with
 |some (_,.fin)=>match cl with
  |⟨.builtin .close,⟨[x]⟩,_⟩=>cond (pg.AY.isNone&&(UH s x pg.ch&&(Nat.blt 0 pg.cap&& !pg.closed))) (match putAt s c undef with
   |some pf=>match s,pg with
    |⟨_,cs,H,d⟩,⟨ch,cap,kids,wg,_,cr⟩=>some [⟨.AP ⟨ch,cap,kids,wg,true,cr⟩,⟨pf,cs,H,d⟩⟩]
   |none=>none) none
  |_=>none
 |_=>none
def O1(xs:T XK)(pg:PG)(s:DS)(c:UT)(cl:Call):Option (List Dm) :=
 match Qa pg s c cl with
 |some l=>some l
 |none=>match I7 xs s with
  |some (k,vs)=>match oO pg s k vs with
   |some l=>some l
   |none=>Yx pg s k vs
  |none=>none
def Oh(C:CB)(xs:T XK)(ks:T (List AM))(ty j:Nat)(pg:PG)(s:DS):Option (List Dm) :=
 match cur s with
 |some c=>match c.o.op with
  | .go _=>match Xc C xs ks ty j pg s with
   |some y=>some [y]
   |none=>none
  | .recv t x ok=>Tt C pg s c t x ok
  | .call cl=>O1 xs pg s c cl
  |_=>none
 |none=>none
section
variable{C:CB}{xs:T XK}{ks:T (List AM)}{ty:TypeId}{Post:Value→World→Prop}{main:Bool}
theorem Yw(Au:C9 C.P xs){pg:PG}{s:DS}{k:XK}{vs:List Value}(Bg:I7 xs s=some (k,vs)){l:List Dm}(h:oO pg s k vs=some l):AU C.P ty Post main ⟨.AP pg,s⟩ l:=by
 have Bg:=DI Bg;unfold oO at h;split at h
 ·cases h
 ·rename_i a φ Az;replace h:=Ay h; obtain⟨hd,h⟩:=h;have hd:0<s.d:=by
   obtain⟨fr,cs,H,d⟩:=s;exact AH hd
  split at h
  ·split at h
   ·rename_i p ky n;split at h
    ·rename_i mx;replace h:=Ay h; obtain⟨e0,h⟩:=h;simp only[AF]at e0;obtain⟨hp,hn,gS⟩:=e0;have hp:=Dg hp;have hn:=E6 hn;subst hp hn;refine AU.XP Au Bg Az hd (AH gS) fun v hv=> ?_;obtain⟨y,ey,hy⟩:=D9 h _ (Bd.2 ⟨v,Cq.2 (by omega),rfl⟩);obtain⟨pf,ep,rfl⟩:=FI ey;exact⟨pf,ep,hy⟩
    ·cases h
   ·cases h
  ·split at h
   ·rename_i p;replace h:=Ay h; obtain⟨hp,h⟩:=h;have hp:=Dg hp;subst hp;split at h
    ·rename_i mx;refine AU.O6 Au Bg Az hd fun v hv=> ?_;obtain⟨y,ey,hy⟩:=D9 h _ (Bd.2 ⟨v,Cq.2 (by omega),rfl⟩);obtain⟨pf,ep,rfl⟩:=FI ey;refine⟨pf,ep, ?_⟩;cases v with
     |zero=>exact hy
     |succ v=>exact hy
    ·obtain⟨y,ey,hy⟩:=D9 h _ (.head _);obtain⟨pf,ep,rfl⟩:=FI ey;exact AU.XN Au Bg Az hd ⟨pf,ep,hy⟩
    ·cases h
   ·cases h
  ·split at h
   ·rename_i p ky n m;split at h
    ·rename_i v;replace h:=Ay h; obtain⟨e0,h⟩:=h;simp only[AF]at e0;obtain⟨hp,hn,hm⟩:=e0;have hp:=Dg hp;have hn:=E6 hn;have hm:=E6 hm;subst hp hn hm;refine AU.XO Au Bg Az hd (by simp) ?_ fun u hu=> ?_
     ·obtain⟨y,ey,hy⟩:=D9 h _ (.head _);obtain⟨pf,ep,rfl⟩:=FI ey;exact⟨pf,ep,hy⟩
     ·obtain⟨y,ey,hy⟩:=D9 h _ (.tail _ (Bd.2 ⟨u,Cq.2 hu,rfl⟩));obtain⟨pf,ep,rfl⟩:=FI ey;exact⟨pf,ep,hy⟩
    ·cases h
   ·cases h
  ·split at h
   ·rename_i p t;split at h
    ·replace h:=Ay h; obtain⟨hp,h⟩:=h;have hp:=Dg hp;subst hp;obtain⟨y,ey,hy⟩:=D9 h _ (.head _);obtain⟨pf,ep,rfl⟩:=FI ey;exact AU.Ud Au Bg Az hd ⟨pf,ep,hy⟩
    ·cases h
   ·cases h
  ·cases h
theorem Ts(Au:C9 C.P xs){pg:PG}{s:DS}{k:XK}{vs:List Value}(Bg:I7 xs s=some (k,vs)){l:List Dm}(h:Yx pg s k vs=some l):AU C.P ty Post main ⟨.AP pg,s⟩ l:=by
 have Bg:=DI Bg;unfold Yx at h;split at h
 ·cases h
 ·rename_i a φ Az;replace h:=Ay h; obtain⟨hφ,h⟩:=h;have hφ:φ≠ .fin:=fun e=>by subst e; cases hφ
  have rO:({pg with wg:=some (a,φ)}:PG)=pg:=by
   obtain⟨c1,c2,c3,c4,c5,c6⟩:=pg;simp only at Az;subst Az;rfl
  split at h
  ·rename_i b off t hat0;replace h:=Ay h; obtain⟨hb,h⟩:=h;have hb:=AJ hb;subst hb;have go:(k= .read∨k= .write)→Gb [Jd pg b s φ undef]=some l→AU C.P ty Post main ⟨.AP pg,s⟩ l:=fun hk h=>by
    obtain⟨y,ey,hy⟩:=D9 h _ (.head _);obtain⟨pf,ep,rfl⟩:=FI ey;rw[rO]at hy;exact AU.XJ Au hk Bg Az hφ ⟨pf,ep,hy⟩
   split at h
   ·exact go (.inl rfl) h
   ·exact go (.inr rfl) h
   ·cases h
  ·cases h
theorem QZ{pg:PG}{s:DS}{c:UT}(hc:cur s=some c){cl:Call}(A5:c.o.op= .call cl){l:List Dm}(h:Qa pg s c cl=some l):AU C.P ty Post main ⟨.AP pg,s⟩ l:=by
 obtain⟨h1,h2,h3,h4⟩:=Ia hc;unfold Qa at h;split at h
 ·rename_i a Az;split at h
  ·rename_i x EY;replace h:=Ay h; obtain⟨e0,h⟩:=h;simp only[AF,BI]at e0;obtain⟨BW,ea,A2,Dq⟩:=e0;have BW:pg.AY=none:=by simpa using BW
   obtain⟨hd,hx⟩:=OJ ea;split at h
   ·rename_i pf ep;obtain⟨fr,cs,H,d⟩:=s;obtain⟨c1,c2,c3,c4,c5,c6⟩:=pg;cases h;obtain⟨tm,p1,rfl⟩:=Ee ep;exact AU.close (s:=⟨fr,cs,H,d⟩) h1 h2 h3 h4 A5 hx hd BW (AH A2) Az Dq p1
   ·cases h
  ·cases h
 ·cases h
theorem K1(Au:C9 C.P xs){pg:PG}{s:DS}{c:UT}(hc:cur s=some c){cl:Call}(A5:c.o.op= .call cl){l:List Dm}(h:O1 xs pg s c cl=some l):AU C.P ty Post main ⟨.AP pg,s⟩ l:=by
 unfold O1 at h;split at h
 ·rename_i e;cases h;exact QZ hc A5 e
 ·split at h
  ·rename_i k vs Bg;split at h
   ·rename_i e;cases h;exact Yw Au Bg e
   ·exact Ts Au Bg h
  ·cases h
theorem Kn(hC:An C)(Au:C9 C.P xs)(Fw:Ez C ty Post false ks){j:Nat}{pg:PG}{s:DS}{l:List Dm}(h:Oh C xs ks ty j pg s=some l):AU C.P ty Post main ⟨.AP pg,s⟩ l:=by
 unfold Oh at h;split at h
 ·rename_i c hc;split at h
  ·split at h
   ·rename_i y e;cases h;exact Sn hC Au Fw e
   ·cases h
  ·rename_i t x ok A5;exact Ra hC hc A5 h
  ·rename_i cl A5;exact K1 Au hc A5 h
  ·cases h
 ·cases h
end
def Zc(ty:Nat)(s:DS):Bool :=
 match s with
 |⟨fr,_,_,_⟩=>match fr.todo with
  | .ops _ _ (o::_)::_=>match o.op with
   | .alloc t=>Nat.beq t ty
   |_=>false
  |_=>false
def cQ(C:CB)(xs:T XK)(ks:T (List AM))(ty:Nat)(s:DS):Option DS:=cond (Zc ty s) none (Lb C xs ks s)
def ZY(C:CB)(xs:T XK)(ks:T (List AM))(ty:Nat)(k:Nat):DS→DS :=
 Nat.rec (motive:=fun _=>DS→DS) (fun s=>match cQ C xs ks ty s with|some s'=>s'|none=>s) (fun _ ih s=>DS.casesOn (ih s) fun a b c d=>ih ⟨a,b,c,d⟩) k
def Wc(C:CB)(xs:T XK)(ks:T (List AM))(ty j:Nat)(ph:Ph)(s:DS):DS :=
 match ph with
 | .out []=>Hb C xs ks j s
 | .out (_::_)=>ZY C xs ks ty j s
 | .AP _=>Qg C xs j s
def Zr(C:CB)(xs:T XK)(ks:T (List AM))(ty j:Nat)(ph:Ph)(s:DS):Option (List Dm) :=
 match ph with
 | .out L=>Og C ty L s
 | .AP pg=>Oh C xs ks ty j pg s
def oS(C:CB)(xs:T XK)(ks:T (List AM))(ty jk j:Nat)(fin:Dm→Bool)(f:Nat):Dm→Bool :=
 Nat.rec (motive:=fun _=>Dm→Bool) (fun _=>false) (fun _ ih x=>match x with
  |⟨ph,s⟩=>match Wc C xs ks ty j ph s with
   |⟨fr,cs,H,d⟩=>match Zr C xs ks ty jk ph ⟨fr,cs,H,d⟩with
    |some l=>l.all ih
    |none=>fin ⟨ph,⟨fr,cs,H,d⟩⟩) f
def O3(P:Program)(ty:TypeId)(Post:Value→World→Prop)(main:Bool)(x:Dm)(Q:Dm→Prop):Prop :=
 ∃k,∀E:Env,(main=true∨E.send≠none)→jX main E→∀n,(∀y,Q y→PW P ty Post main E n y.ph y.s)→PW P ty Post main E (n+k) x.ph x.s
section
variable{C:CB}{xs:T XK}{ks:T (List AM)}{ty:TypeId}{Post:Value→World→Prop}{main:Bool}{P:Program}
theorem O3.here{x:Dm}{Q:Dm→Prop}(h:Q x):O3 P ty Post main x Q:=⟨0,fun _ _ _ _ hq=>hq x h⟩
theorem O3.step{x:Dm}{l:List Dm}{Q:Dm→Prop}(h:AU P ty Post main x l)(h': ∀y∈l,O3 P ty Post main y Q):O3 P ty Post main x Q:=by
 obtain⟨k,hk⟩:=h;have: ∃m,∀y∈l,∀E:Env,(main=true∨E.send≠none)→jX main E→∀n,(∀z,Q z→PW P ty Post main E n z.ph z.s)→PW P ty Post main E (n+m) y.ph y.s:=by
  clear hk;induction l with
  |nil=>exact⟨0,fun y hy=>by cases hy⟩
  |cons a l ih =>
   obtain⟨m,hm⟩:=ih fun y hy=>h' y (by simp[hy]);obtain⟨m',Zn⟩:=h' a (by simp);refine⟨m+m',fun y hy E hb hg n hl=> ?_⟩;rcases AZ.1 hy with rfl|hy
   ·rw[Nat.add_comm m m', ← Bf]; exact(Zn E hb hg n hl).more
   ·rw[← Bf]; exact(hm y hy E hb hg n hl).more
 obtain⟨m,hm⟩:=this;refine⟨m+k,fun E hb hg n hl=> ?_⟩;rw[← Bf];exact hk E hb hg (n+m) fun y hy=>hm y hy E hb hg n hl
theorem O3.mono{x:Dm}{Q Q':Dm→Prop}(h:O3 P ty Post main x Q)(hq: ∀y,Q y→Q' y):O3 P ty Post main x Q':=by
 obtain⟨k,hk⟩:=h;exact⟨k,fun E hb hg n hn=>hk E hb hg n fun y hy=>hn y (hq y hy)⟩
theorem O3.trans{x:Dm}{Q Q':Dm→Prop}(h:O3 P ty Post main x Q){m:Nat}(hq: ∀y,Q y→∀E:Env,(main=true∨E.send≠none)→jX main E→∀n,(∀z,Q' z→PW P ty Post main E n z.ph z.s)→PW P ty Post main E (n+m) y.ph y.s):O3 P ty Post main x Q':=by
 obtain⟨k,hk⟩:=h;refine⟨m+k,fun E hb hg n hn=> ?_⟩;rw[← Bf];exact hk E hb hg (n+m) fun y hy=>hq y hy E hb hg n hn
def JB:Env:=⟨some (0,⟨fun _ _ _=>True,fun _ _ _ _ _ _=>trivial⟩),none,none,none,[],fun _=>False,fun _=>False,default,fun _=>none,fun _=>False,default⟩
theorem E8:main=true∨JB.send≠none:= .inr (by simp[JB])
theorem Cm.lh{s s':DS}(h:Cm P ty Post main s s'):AU P ty Post main ⟨.out [],s⟩ [⟨.out [],s'⟩]:=by
 obtain⟨k,hk⟩:=h;exact⟨k,fun E hb hg n hl=>PW.lr.2 (hk E hb hg n (PW.lr.1 (hl _ (.head _))))⟩
theorem Hy(hC:An C)(Au:C9 C.P xs)(Fw:Ez C ty Post main ks): ∀(k:Nat) (s:DS),Cm C.P ty Post main s (ZY C xs ks ty k s)
 |0,s=>by
  show Cm C.P ty Post main s (match cQ C xs ks ty s with|some s'=>s'|none=>s);split
  ·rename_i s' e;unfold cQ at e;cases em:Zc ty s with
   |true=>rw[em]at e; cases e
   |false =>
    rw[em]at e;have e:Lb C xs ks s=some s':=e;rw[NG]at e;exact Jw (E:=JB) hC Au Fw E8 e
  ·exact Cm.refl _
 |k+1,s=>(Hy hC Au Fw k s).trans (Hy hC Au Fw k (ZY C xs ks ty k s))
theorem Wb(hC:An C)(Au:C9 C.P xs)(Fw:Ez C ty Post main ks)(j:Nat)(ph:Ph)(s:DS):AU C.P ty Post main ⟨ph,s⟩ [⟨ph,Wc C xs ks ty j ph s⟩]:=by
 unfold Wc;split
 ·exact(FX (E:=JB) hC Au Fw E8 j s).lh
 ·exact AU.NF _ (Hy hC Au Fw j s)
 ·exact AU.P3 _ (Gr (E:=JB) hC Au E8 j s)
theorem WY(hC:An C)(Au:C9 C.P xs)(ic:Ez C ty Post false ks){j:Nat}{ph:Ph}{s:DS}{l:List Dm}(h:Zr C xs ks ty j ph s=some l):AU C.P ty Post main ⟨ph,s⟩ l:=by
 unfold Zr at h;split at h
 ·exact Km hC h
 ·exact Kn hC Au ic h
theorem Qc(hC:An C)(Au:C9 C.P xs)(Fw:Ez C ty Post main ks)(ic:Ez C ty Post false ks){jk j:Nat}{fin:Dm→Bool}: ∀{f:Nat} {x:Dm},oS C xs ks ty jk j fin f x=true→O3 C.P ty Post main x fun y=>fin y=true
 |0,x,h=>by cases h
 |f+1,x,h=>by
  obtain⟨ph,s⟩:=x;have h:(match Wc C xs ks ty j ph s with
   |⟨fr,cs,H,d⟩=>match Zr C xs ks ty jk ph ⟨fr,cs,H,d⟩with
    |some l=>l.all (oS C xs ks ty jk j fin f)
    |none=>fin ⟨ph,⟨fr,cs,H,d⟩⟩)=true:=h
  refine O3.step (Wb hC Au Fw j ph s) fun y hy=> ?_;rw[B3.1 hy];generalize Wc C xs ks ty j ph s=s' at h;obtain⟨fr,cs,H,d⟩:=s';simp only at h;split at h
  ·rename_i l e;exact O3.step (WY hC Au ic e) fun y hy=>Qc hC Au Fw ic (AX.1 h y hy)
  ·exact O3.here h
end
end Go.Gd
namespace Go.Gd
open Go Go.Gw Go.Conc
section
variable{C:CB}{xs:T XK}{ks:T (List AM)}{ty:TypeId}{Post:Value→World→Prop}{main:Bool}
theorem Y4(hC:An C){k:AM}{s:DS}(h:K6 C k s=true)(E:Env)(hb:main=true∨E.send≠none)(JL:E.base≠ [])(WM: ∀x B,E.kr x=some B→x<k.n0)(n:Nat)(hr:UO C.P ty Post main E n k.v k.H1):DW C.P ty Post main E (n+1) s:=by
 obtain⟨pf,cs,H,d⟩:=s;unfold K6 at h;simp only at h;split at h
 ·rw[AF]at h;obtain⟨hd,h⟩:=h;have hd:=AJ hd;subst hd;split at h
  ·rename_i hm;split at h
   ·rename_i G2;rw[AF]at h;obtain⟨JG,h⟩:=h;split at h
    ·rename_i hk;split at h
     ·rename_i NS hf;split at h
      ·rename_i vs hv;rw[AF]at h;exact ZM hC.ty hb hm G2 JG hk (hC.fns _ _ hf) hv JL (UO.forget (Trim.of h.2) (O7 h.1) WM hr)
      ·cases h
     ·cases h
    ·cases h
   ·cases h
  ·cases h
 ·cases h
def oX(C:CB)(k:AM)(x:Dm):Bool :=
 match x with
 |⟨.out _,s⟩=>K6 C k s
 |_=>false
theorem L3.tC(hC:An C){k:AM}{fn:Func}{body:Code}(Gv:C.fns.get k.g=some fn)(RX:fn.body=some body)(h:O3 C.P ty Post main ⟨.out [],k.K.start fn body⟩ fun y=>oX C k y=true):L3 C ty Post main k.K:=by
 intro kT jN e1 e2;have e1:C.fns.get k.g=some kT:=e1;rw[Gv]at e1;cases e1;rw[RX]at e2;cases e2;obtain⟨m,hm⟩:=h;refine⟨1+m,fun E hb hg JL WM n hr=> ?_⟩;rw[← Bf];refine PW.lr.1 (hm E hb hg (n+1) fun y hy=> ?_);obtain⟨ph,s⟩:=y;cases ph with
 |out L=>exact fun ρ c g w _ hd=>Y4 hC hy E hb JL WM n hr ρ c g w hd
 |AP pg=>cases hy
def QL(C:CB)(xs:T XK)(ks:T (List AM))(ty jk j f:Nat)(k:AM):Bool :=
 match C.fns.get k.g with
 |some fn=>match fn.body with
  |some body=>oS C xs ks ty jk j (oX C k) f ⟨.out [],k.K.start fn body⟩
  |none=>true
 |none=>true
theorem L3.Zx(hC:An C)(Au:C9 C.P xs)(Fw: ∀main,Ez C ty Post main ks){jk j f:Nat}{k:AM}(h:QL C xs ks ty jk j f k=true):L3 C ty Post main k.K:=by
 intro fn body h1 h2;have K0:C.fns.get k.g=some fn:=h1;unfold QL at h;rw[K0]at h;simp only[h2]at h;exact L3.tC hC K0 h2 (Qc hC Au (Fw main) (Fw false) h) fn body h1 h2
end
theorem MD{α:Type}: ∀{l:List (Nat×α)} {t:T α} {k:Nat},(∀p∈l,p.1<2^T.deep)→(∃p∈l,p.1=k)∨(∃v,t.get k=some v)→∃v,(Ag l t).get k=some v
 | [],_,_,_,h=>h.elim (fun⟨p,hp,_⟩=>by cases hp) id
 |p::l,t,k,hl,h=>by
  show ∃v,(Ag l (t.set p.1 p.2)).get k=some v;refine MD (fun q hq=>hl q (by simp[hq])) ?_;have hp:=hl p (by simp);by_cases e:k=p.1
  ·exact .inr ⟨p.2,by rw[T.AW _ _ _ _ hp,AD e]⟩
  ·rcases h with⟨q,hq,e'⟩|⟨v,hv⟩
   ·rcases AZ.1 hq with rfl|hq
    ·exact absurd e'.symm e
    ·exact .inl ⟨q,hq,e'⟩
   ·exact .inr ⟨v,by rw[T.AW _ _ _ _ hp,AA e]; exact hv⟩
def ZN(s:DS)(tm:List (Nat×Value))(EV:List (Nat×AI)):DS :=
 match s with
 |⟨⟨fn,_,nt,todo,ds,m,kd,r⟩,cs,⟨n,_,ng,f⟩,d⟩=>⟨⟨fn,Ag tm .nil,nt,todo,ds,m,kd,r⟩,cs,⟨n,Ag EV .nil,ng,f⟩,d⟩
def gC(s:DS)(tm:List (Nat×Value))(EV:List (Nat×AI)):Bool :=
 match s with
 |⟨fr,_,H,_⟩=>At fr.todo&&(tm.all (fun p=>Nat.blt p.1 (2^T.deep)&&(match fr.tmps.get p.1 with
   |some v=>Rk 8 v p.2
   |none=>false))&&(EV.all (fun p=>Nat.blt p.1 (2^T.deep)&&(match H.t.get p.1 with
    |some o=>ND some some o p.2
    |none=>false))&&(List.range H.next).all fun x=>match H.t.get x with
     |some o=>Nat.beq o.fam 0||EV.any fun p=>Nat.beq p.1 x
     |none=>true))
def Us(C:CB)(xs:T XK)(l:List Nat):DS→DS :=
 List.rec (motive:=fun _=>DS→DS) (fun s=>s) (fun k _ ih s=>DS.casesOn (Qg C xs k s) fun a b c d=>ih ⟨a,b,c,d⟩) l
def GD(C:CB)(xs:T XK)(l:List Nat)(s:DS)(tm:List (Nat×Value))(EV:List (Nat×AI)):Option DS :=
 match Us C xs l s with
 |⟨a,b,c,d⟩=>cond (gC ⟨a,b,c,d⟩ tm EV) (some (ZN ⟨a,b,c,d⟩ tm EV)) none
section
variable{ρ:Ah}{H:PH}{c:Ctx}{w:World}
theorem HR.swap(h:HR ρ H c w){t':T AI}(h1: ∀x o',t'.get x=some o'→∃o,H.t.get x=some o∧OM some some o o')(h2: ∀x,x<H.next→∀o,H.t.get x=some o→o.fam≠0→∃o',t'.get x=some o'):HR ρ ⟨H.next,t',H.ng,H.BF⟩ c w:=by
 have WO: ∀{o o':AI},OM some some o o'→o'.fam=o.fam:=fun hm=>by
  rcases hm.fam with⟨a,b⟩|⟨a,b,d⟩
  ·rw[a,b]
  ·exact(As d).symm
 refine⟨h.cap,h.Dk,fun b B o' hb Ck=> ?_,fun b b' B B' hb B7 BK e=> ?_,h.EK,fun b B o' hb Ck hf AO=> ?_⟩
 ·obtain⟨o,a1,a2⟩:=h1 b o' Ck;exact BR.up (fun x y B hm hx=>by cases hm; exact hx) a2 (h.rel b B o hb a1)
 ·rcases h.inj b b' B B' hb B7 BK e with⟨o,o',e1,e2,e3,e4⟩|⟨s1,s2⟩
  ·obtain⟨u,hu⟩:=h2 b (h.Dk b B hb).1 o e1 e3;obtain⟨u',nK⟩:=h2 b' (h.Dk b' B' B7).1 o' e2 (by rw[← e4]; exact e3);obtain⟨v,a1,a2⟩:=h1 b u hu;obtain⟨v',b1,b2⟩:=h1 b' u' nK;rw[e1]at a1; cases a1;rw[e2]at b1; cases b1;exact .inl ⟨u,u',hu,nK,by rw[WO a2]; exact e3,by rw[WO a2,WO b2]; exact e4⟩
  ·refine .inr ⟨fun o' ho=> ?_,fun o' ho=> ?_⟩
   ·obtain⟨o,a1,a2⟩:=h1 b o' ho;rw[a2.mine]; exact s1 o a1
   ·obtain⟨o,a1,a2⟩:=h1 b' o' ho;rw[a2.mine]; exact s2 o a1
 ·obtain⟨o,a1,a2⟩:=h1 b o' Ck;rw[WO a2]at hf ⊢;rw[a2.FG]at AO;exact h.mem b B o hb a1 hf AO
end
section
variable{P:Program}{C:CB}{xs:T XK}{ty:TypeId}{Post:Value→World→Prop}{main:Bool}{E:Env}
theorem Reach.ZN{s:DS}{tm:List (Nat×Value)}{EV:List (Nat×AI)}(h:gC s tm EV=true):Reach P ty Post main E s (ZN s tm EV):=by
 obtain⟨⟨fn,tm0,nt,todo,ds,m,kd,r⟩,cs,⟨n,t,ng,f⟩,d⟩:=s;unfold gC at h;simp only[AF]at h;obtain⟨h1,h2,h3,h4⟩:=h;have h2: ∀p∈tm,p.1<2^T.deep∧tm0.get p.1=some p.2:=fun p hp=>by
  have:=AX.1 h2 p hp;rw[AF]at this;refine⟨AH this.1, ?_⟩;have:=this.2;split at this
  ·rename_i v e;rw[← HP 8 _ _ this];exact e
  ·cases this
 have h3: ∀p∈EV,p.1<2^T.deep∧∃o,t.get p.1=some o∧OM some some o p.2:=fun p hp=>by
  have:=AX.1 h3 p hp;rw[AF]at this;refine⟨AH this.1, ?_⟩;have:=this.2;split at this
  ·rename_i o e;exact⟨o,e,KS this⟩
  ·cases this
 refine⟨0,fun E hb n' hd ρ c g w h'=>hd ρ c g w ?_⟩;cases h' with
 |mk hf hc D7 ET hH AO Dx g1 g2 g3 Bv =>
  rename_i fr Kj pd pds;obtain⟨Dj,hk,A9⟩:=hf.Dl h1;subst Dj;refine .mk (fr:=fr) (cs:=Kj) (pd:= []) (pds:=pds) ⟨hf.fn,hf.size,⟨_,.plain hk,fun k v bF _=> ?_⟩,hf.defers,hf.mode,hf.kind,hf.round⟩ hc D7 ET ?_ AO Dx g1 g2 g3 Bv
  ·have bF:(Ag tm .nil).get k=some v:=bF;rcases Bx (fun p hp=>(h2 p hp).1) bF with hm|hm
   ·exact A9 k v (h2 _ hm).2
   ·cases hm
  ·refine HR.swap hH (fun x o' Ck=> ?_) fun x hx o ho Fx=> ?_
   ·rcases Bx (fun p hp=>(h3 p hp).1) Ck with hm|hm
    ·exact(h3 _ hm).2
    ·cases hm
   ·have:=AX.1 h4 x (Cq.2 hx);have ho:t.get x=some o:=ho;simp only[ho,DX]at this;rcases this with q|q
    ·exact absurd (AJ q) Fx
    ·obtain⟨p,hp,e⟩:=Cp.1 q;have:=AJ e;subst this;exact MD (fun p hp=>(h3 p hp).1) (.inl ⟨p,hp,rfl⟩)
theorem LJ(hC:An C)(Au:C9 C.P xs)(hb:main=true∨E.send≠none): ∀(l:List Nat) (s:DS),Reach C.P ty Post main E s (Us C xs l s)
 | [],s=> .refl s
 |k::l,s=>by
  show Reach C.P ty Post main E s (DS.casesOn (Qg C xs k s) fun a b c d=>Us C xs l ⟨a,b,c,d⟩);refine(Gr hC Au hb k s).trans ?_;generalize Qg C xs k s=s1;cases s1;exact LJ hC Au hb l _
theorem Z8(hC:An C)(Au:C9 C.P xs)(hb:main=true∨E.send≠none){l:List Nat}{s s':DS}{tm:List (Nat×Value)}{EV:List (Nat×AI)}(h:GD C xs l s tm EV=some s'):Reach C.P ty Post main E s s':=by
 refine(LJ hC Au hb l s).trans ?_;unfold GD at h;generalize Us C xs l s=s1 at h;obtain⟨a,b,c,d⟩:=s1;simp only at h;obtain⟨h1,h⟩:=Ay h;cases h;exact .ZN h1
end
def pB(s:DS):Bool :=
 match s with
 |⟨fr,_,_,_⟩=>match fr.todo with
  | .inLoop _::_=>true
  |_=>false
def sO(C:CB)(xs:T XK)(f:Nat):DS→DS :=
 Nat.rec (motive:=fun _=>DS→DS) (fun s=>s) (fun _ ih s=>match pB s with
  |true=>s
  |false=>match Dt C xs s with
   |some s'=>DS.casesOn s' fun a b c d=>ih ⟨a,b,c,d⟩
   |none=>s) f
def zB(D:DS)(tm:List (Nat×Value))(n:Nat)(tt:T AI)(fm:T (List Nat)):DS :=
 match D with
 |⟨⟨fn,_,nt,todo,ds,m,kd,r⟩,cs,⟨_,_,ng,_⟩,d⟩=>⟨⟨fn,Ag tm .nil,nt,todo,ds,m,kd,r⟩,cs,⟨n,tt,ng,fm⟩,d⟩
def fU(n:Nat)(s:DS):DS:=match s with|⟨⟨fn,tm,nt,todo,ds,m,kd,r⟩,cs,H,d⟩=>⟨⟨fn,tm,nt,todo.drop n,ds,m,kd,r⟩,cs,H,d⟩
def i(n:Int):Value:= .int .i64 n
def sl(b o n c:Nat):Value:= .slice (some ⟨b,o,none⟩) n c
def sb(b o n:Nat):Value:= .slice (some ⟨b,o,none⟩) n HN
def s0:Value:= .slice none 0 0
def pt(b o:Nat):Value:= .pointer (some ⟨b,o,none⟩)
def st(l:List Nat):Value:= .string ⟨(l.map UInt8.ofNat).toArray⟩
def bt:Value:= .bool true
def bf:Value:= .bool false
def cl(l:List Value)(elem:TypeId)(es:Nat)(own:Bool)(fam:Nat):AI:= .cells (setFrom l .nil 0) l.length elem es own fam true false
end Go.Gd
namespace Go.Gd
open Go Go.Gw Go.Conc Go.Proofs
def C3:CB:=jv Tryz.prog
def X3:T XK:=Ag [(116,.disable),(117,.Lv .i32),(118,.enable),(119,.acquire),(121,.Dw),(122,.add .i32),(124,.load .u32),(160,.store),(131,.QG false),(136,.read),(143,.write),(168,.add .u64),(169,.load .u64),(170,.store),(171,.Lv .u64),(167,.or .u64),(140,.FJ),(144,.EN),(159,.FJ),(157,.EN)] .nil
end Go.Gd
namespace Go.Gd
open Go Go.Gw Go.Conc Go.ConcN
def Lp(C:CB)(v:Value)(x:Dm):Bool :=
 match x with
 |⟨.out _,⟨pf,cs,H,d⟩⟩=>match cs with
  | []=>Nat.beq d 0&&((match C.P.inits.idxOf? pf.fn with|none=>true|some _=>false)&&match pf.mode with
   | .returning=>match pf.defers with
    | []=>At pf.todo&&(match pf.kind with
     | .normal=>match C.fns.get pf.fn with
      |some fn=>match Db C.ty H pf.tmps fn.results.toList with
       |some vs=>Rk 8 (HV vs) v
       |none=>false
      |none=>false
     |_=>false)
    |_=>false
   |_=>false)
  |_=>false
 |_=>false
structure Left(w w':World):Prop where
 tape:w'.tape=w.tape
 os:Z0 w.os w'.os
 output:w'.output=w.output
 size:w.heap.size≤w'.heap.size
 heap: ∀b,b<w.heap.size→w'.heap[b]? =w.heap[b]?
section
variable{C:CB}{ty:TypeId}{Post:Value→World→Prop}{n:Nat}{E:Env}
theorem Wi(hC:An C){v0:Value}{x:Dm}(h:Lp C v0 x=true)(iR:ground 6 v0=true)(JL:E.base= [])(hg:E.AP=none)(hP: ∀ρ c w,Kept E ρ c w→Post v0 w):PW C.P ty Post true E (n+1) x.ph x.s:=by
 obtain⟨ph,pf,cs,H,d⟩:=x;cases ph with
 |AP pg=>cases h
 |out L =>
  intro ρ c g w _ hd;unfold Lp at h;simp only at h;split at h
  ·rw[AF]at h;obtain⟨ir,h⟩:=h;have ir:=AJ ir;subst ir;rw[AF]at h;obtain⟨il,h⟩:=h;have il:C.P.inits.idxOf? pf.fn=none:=by
    split at il
    ·rename_i e; exact e
    ·cases il
   split at h
   ·rename_i hm;split at h
    ·rename_i G2;rw[AF]at h;obtain⟨JG,h⟩:=h;split at h
     ·rename_i hk;split at h
      ·rename_i fn Gv;split at h
       ·rename_i vs hv;have AAc:=HP 8 _ _ h;have hf:=hC.fns _ _ Gv;cases hd with
        |mk D8 hc D7 ET hH AO Dx h1 h2 h3 Bv =>
         rename_i fr cs pd pds;cases hc;obtain⟨Dj,_,A9⟩:=D8.Dl JG;have Dp:fr.mode= .returning:=by
          have:UY ρ pf.mode fr.mode:=D8.mode;rw[hm]at this;generalize fr.mode=b at this;cases this; rfl
         have I1:fr.defers= []:=by
          have:LR (SN ρ) pf.defers fr.defers:=D8.defers;rw[G2]at this;exact this.Co
         have key: ∀w₁,AS c w w₁→∃es,stepG C.P true (G fr ([]++E.base)) w₁= .ended (.done v0) w₁ es∧BQ c w₁ w₁ es∧Post v0 w₁:=fun w₁ r=>by
          have DN:=hH.rely r;obtain⟨v',ev,q1,q2,q3⟩:=Es (P:=C.P) hC.ty DN A9 hv;rw[AAc]at q1;have:v'=v0:=Fa 6 q1 iR;subst this;have Aq:=Er (P:=C.P) (main:=true) (cs:= []) Dp I1 (by rw[D8.fn]; exact hf) q3;have KZ:fr.kind= .normal:=by rw[D8.kind]; exact hk
          have WR:doReturn C.P true fr [] none v' w₁= .ended (.done v') w₁:=by
           have gU:fr.fn=pf.fn:=D8.fn;unfold doReturn;simp[KZ,gU,il]
          rw[WR]at Aq;have Ch:=EH C.P fr.fn ev.toArray;refine⟨_,by rw[JL]; exact Aq.trans rfl,(q2.Hj w₁).sub fun e he=> ?_,hP ρ c w₁ (Bv.rely r)⟩;have he:e∈seen C.P fr.fn ([]++ev).toArray:=by simpa using he
          rw[List.nil_append]at he;exact Ch e he
         refine .done (fun w₁=>⟨G fr [],w₁,(match stepG C.P true (G fr ([]++E.base)) w₁ with| .ended _ _ es=>es|_=> #[]),fun _=>False,fun _=>False,default,⟨fun _ _ _=>True,fun _ _ _ _ _ _=>trivial⟩,v0,.nilFunc,false,.fin,⟨false,false,false,0⟩⟩) rfl Dx (h3.trans hg) fun w₁ r=> ?_;obtain⟨es,k1,k2,k3⟩:=key w₁ r;simp only[k1];exact⟨trivial,k2,AN _,k3⟩
       ·cases h
      ·cases h
     ·cases h
    ·cases h
   ·cases h
  ·cases h
theorem bV(hC:An C){f:FuncId}{fn:Func}{body:Code}(Gv:C.fns.get f=some fn)(RX:fn.body=some body){H0:PH}{v0:Value}(iR:ground 6 v0=true)
  (hT: ∀Post,O3 C.P ty Post true ⟨.out [],⟨CN f fn body [] .normal,[],H0,0⟩⟩ fun y=>Lp C v0 y=true) {w:World} {ρ:Ah} (_hρ: ∀x B,ρ x=some B→B.blk<w.heap.size)
  (hH:HR ρ H0 ⟨fun _=>False,fun a=>a.block<w.heap.size,0,none,none,none,none⟩ w) :
  ∃N last o w' t',runNT C.P (N+1) (solo (G (Frame.enter C.P f #[] .normal) []) w) #[]=(.ended o w',t')∧runN C.P N (solo (G (Frame.enter C.P f #[] .normal) []) w)= .next last∧step C.P last= .ended o w'∧
   Conc.Good C.P (fun v w'=>v=v0∧Left w w') last o w' t':=by
 obtain⟨k,hk⟩:=hT fun v w'=>v=v0∧Left w w'
 let E:Env:=⟨none,none,none,none,[],fun _=>False,fun a=>a.block<w.heap.size,w,ρ,fun _=>False,w⟩
 have hpw:=hk E (.inl rfl) ⟨rfl,fun x hx=>by cases hx⟩ 1 fun y hy=>Wi (n:=0) hC hy iR rfl rfl fun ρ' c w' Bv=>⟨rfl,Bv.tape,Bv.os,Bv.output,Bv.size,fun b hb=>(Bv.r ⟨b,0,some 0⟩ hb).2.whole rfl⟩;refine W.runs (hpw ρ _ _ w (fun x hx=>by cases hx) (.mk (fr:=Frame.enter C.P f #[] .normal) (cs:= []) (pd:= []) (pds:= []) ?_ .nil (by simp) (fun b hb=>by simp at hb) hH ⟨fun b hb=>hb.elim,fun a ha=>ha,fun a _ h=>h⟩ rfl rfl rfl rfl ?_)) (fun b hb=>hb.elim) fun x hx=>⟨hx,fun h=>h⟩
 ·exact Br.enter (hC.fns _ _ Gv) RX .nil (Nat.zero_le _) .normal
 ·exact⟨fun b hb=>hb.elim,fun a ha=>⟨ha,.refl _ _⟩,AN _,fun b _=>rfl,rfl,.refl _,rfl,fun x B h=>h,fun x B h=> .inr ⟨x,B,h,rfl⟩,rfl,⟨fun x B h=> .inl ⟨x,B,h,rfl,.inl rfl⟩,fun b hb=>hb.elim,AN _,fun _ _=>rfl⟩⟩
end
end Go.Gd
namespace Go.Gd
open Go Go.Gw Go.Conc
def lS(ng:Nat):Ah:=fun x=>if x<ng then some ⟨x,1,0⟩else none
def ctx0(w:World):Ctx:=⟨fun _=>False,fun a=>a.block<w.heap.size,0,none,none,none,none⟩
theorem II{ng x:Nat}{B:RB}(h:lS ng x=some B):x<ng∧B=⟨x,1,0⟩:=by
 unfold lS at h;by_cases e:x<ng
 ·rw[AD e]at h; cases h; exact⟨e,rfl⟩
 ·rw[AA e]at h; cases h
end Go.Gd
namespace Go.Gd
open Go Go.Gw Go.Conc Go.Proofs
def XL3:T XK:=Ag [(116,.disable),(117,.Lv .i32),(118,.enable),(119,.acquire),(121,.Dw),(122,.add .i32),(153,.Cn Extern.Sync.canSpin),(154,.Cn Extern.Atomic.nothing),(156,.Cn Extern.OsHooks.nano),(157,.EN),(159,.FJ)] .nil
def XQ3:T XK:=Ag [(116,.disable),(118,.enable)] .nil
def K3:Bm:=⟨C3,XL3,XQ3,7,4,7,54,55,120,123⟩
theorem uu:I7 K3.xl K3.S1=some (.Lv .i32,[K3.P0,.int .i32 0,.int .i32 1]):=by kernel_rfl
theorem uS:CF K3.S1=true:=by kernel_rfl
theorem uq:K3.OL K3.S2=true:=by kernel_rfl
theorem uo:K3.Le K3.S4=true:=by kernel_rfl
theorem uZ:words.map (fun m=>K3.Qp (K3.it (Bu K3.S4 (wv m))))=words.map fun m=>K3.N m false false 0 0:=by kernel_rfl
theorem uY: ∀aw st ws i,(AK fun m=>TU m&&okW aw m).map (fun m=>(I7 K3.xl (K3.SP m aw st ws i),CF (K3.SP m aw st ws i)))=(AK fun m=>TU m&&okW aw m).map fun _=>(some (.Cn Extern.Sync.canSpin,[.int .i64 i]),true):=by
 intro aw st ws i;cases aw<;>cases st<;>kernel_rfl
theorem uX: ∀aw st ws i,(AK fun m=>TU m&&okW aw m).map (fun m=>Be iO (K3.it (Bu (K3.SP m aw st ws i) (.bool false))))=(AK fun m=>TU m&&okW aw m).map fun m=>K3.CA m aw st ws i:=by
 intro aw st ws i;cases aw<;>cases st<;>kernel_rfl
theorem uW: ∀ws i,(AK Eb).map (fun m=>(I7 K3.xl (K3.SC m false false ws i),CF (K3.SC m false false ws i)))=(AK Eb).map fun m=>(some (.Lv .i32,[K3.P0,wv m,wv {m with wk:=true}]),true):=by
 intro ws i;kernel_rfl
theorem m8: ∀b ws i,(AK Eb).map (fun m=>(I7 K3.xl (K3.it (Bu (K3.SC m false false ws i) (.bool b))),CF (K3.it (Bu (K3.SC m false false ws i) (.bool b)))))=(AK Eb).map fun _=>(some (.Cn Extern.Atomic.nothing,[]),true):=by
 intro b ws i;cases b<;>kernel_rfl
theorem m7: ∀b ws i,(AK Eb).map (fun m=>Be R3 (K3.it (Bu (K3.it (Bu (K3.SC m false false ws i) (.bool b))) undef)))=(AK Eb).map fun _=>K3.lF b false ws (dj i):=by
 intro b ws i;cases b<;>kernel_rfl
theorem uV: ∀aw st ws i,(AK fun m=>TU m&&okW aw m&& !(!aw&&Eb m)).map (fun m=>(I7 K3.xl (K3.SC m aw st ws i),CF (K3.SC m aw st ws i)))=(AK fun m=>TU m&&okW aw m&& !(!aw&&Eb m)).map fun _=>(some (.Cn Extern.Atomic.nothing,[]),true):=by
 intro aw st ws i;cases aw<;>cases st<;>kernel_rfl
theorem m6: ∀aw st ws i,(AK fun m=>TU m&&okW aw m&& !(!aw&&Eb m)).map (fun m=>Be R3 (K3.it (Bu (K3.SC m aw st ws i) undef)))=(AK fun m=>TU m&&okW aw m&& !(!aw&&Eb m)).map fun _=>K3.lF aw st ws (dj i):=by
 intro aw st ws i;cases aw<;>cases st<;>kernel_rfl
theorem m5: ∀aw st ws i,K3.Le (K3.lF aw st ws i)=true:=by
 intro aw st ws i;cases aw<;>cases st<;>kernel_rfl
theorem iJ: ∀aw st ws i,(AK (okW aw)).map (fun m=>K3.Qp (K3.it (Bu (K3.lF aw st ws i) (wv m))))=(AK (okW aw)).map fun m=>K3.N m aw st ws i:=by
 intro aw st ws i;cases aw<;>cases st<;>kernel_rfl
theorem uU: ∀aw st ws i,(AK (okW aw)).map (fun m=>(I7 K3.xl (K3.CA m aw st ws i),CF (K3.CA m aw st ws i)))=(AK (okW aw)).map fun m=>(some (.Lv .i32,[K3.P0,wv m,wv (gN m aw st)]),true):=by
 intro aw st ws i;cases aw<;>cases st<;>kernel_rfl
theorem uT: ∀aw st ws i,(AK (okW aw)).map (fun m=>Be dh (K3.it (Bu (K3.CA m aw st ws i) (.bool false))))=(AK (okW aw)).map fun _=>K3.rh aw st ws i:=by
 intro aw st ws i;cases aw<;>cases st<;>kernel_rfl
theorem m4: ∀aw st ws i,K3.Le (K3.rh aw st ws i)=true:=by
 intro aw st ws i;cases aw<;>cases st<;>kernel_rfl
theorem iH: ∀aw st ws i,(AK (okW aw)).map (fun m=>K3.Qp (K3.it (Bu (K3.rh aw st ws i) (wv m))))=(AK (okW aw)).map fun m=>K3.N m aw st ws i:=by
 intro aw st ws i;cases aw<;>cases st<;>kernel_rfl
theorem uQ: ∀aw st ws i,(AK fun m=>okW aw m&&(!m.l&& !m.sv)).map (fun m=>K3.OL (K3.Q1 m aw st ws i))=(AK fun m=>okW aw m&&(!m.l&& !m.sv)).map fun _=>true:=by
 intro aw st ws i;cases aw<;>cases st<;>kernel_rfl
theorem tv: ∀aw st i,(AK fun m=>okW aw m&& !(!m.l&& !m.sv)).map (fun m=>(I7 K3.xl (K3.Q1 m aw st 0 i),CF (K3.Q1 m aw st 0 i)))=(AK fun m=>okW aw m&& !(!m.l&& !m.sv)).map fun _=>(some (.Cn Extern.OsHooks.nano,[]),true):=by
 intro aw st i;cases aw<;>cases st<;>kernel_rfl
theorem mh: ∀aw st i t,(AK fun m=>okW aw m&& !(!m.l&& !m.sv)).map (fun m=>Be Td (K3.it (Bu (K3.Q1 m aw st 0 i) (.int .i64 t))))=(AK fun m=>okW aw m&& !(!m.l&& !m.sv)).map fun _=>K3.SM st t false:=by
 intro aw st i t;cases aw<;>cases st<;>kernel_rfl
theorem tw: ∀aw st i,∀k:Nat,(AK fun m=>okW aw m&& !(!m.l&& !m.sv)).map (fun m=>Be Td (K3.Q1 m aw st (.ofNat (k+1)) i))=(AK fun m=>okW aw m&& !(!m.l&& !m.sv)).map fun _=>K3.SM st (.ofNat (k+1)) true:=by
 intro aw st i k;cases aw<;>cases st<;>kernel_rfl
theorem mj: ∀aw st i,∀k:Nat,(AK fun m=>okW aw m&& !(!m.l&& !m.sv)).map (fun m=>Be Td (K3.Q1 m aw st (.negSucc k) i))=(AK fun m=>okW aw m&& !(!m.l&& !m.sv)).map fun _=>K3.SM st (.negSucc k) true:=by
 intro aw st i k;cases aw<;>cases st<;>kernel_rfl
theorem uR: ∀st ws ql,I7 K3.xl (K3.SM st ws ql)=some (.EN,[K3.P1,.bool ql,.int .i64 2])∧CF (K3.SM st ws ql)=true:=by
 intro st ws ql;cases st<;>cases ql<;>exact⟨by kernel_rfl,by kernel_rfl⟩
theorem mr: ∀ws ql,Be aQ (K3.it (Bu (K3.SM true ws ql) undef))=K3.gd true ws:=by
 intro ws ql;cases ql<;>kernel_rfl
theorem my: ∀ws ql,I7 K3.xl (K3.R1 ws ql)=some (.Cn Extern.OsHooks.nano,[])∧CF (K3.R1 ws ql)=true:=by
 intro ws ql;cases ql<;>exact⟨by kernel_rfl,by kernel_rfl⟩
theorem mw: ∀ws ql t,Be aQ (K3.it (Bu (K3.R1 ws ql) (.int .i64 t)))=K3.gd (fj 3 (K3.it (Bu (K3.R1 ws ql) (.int .i64 t)))) ws:=by
 intro ws ql t;cases ql<;>kernel_rfl
theorem uP: ∀b ws,K3.Le (K3.gd b ws)=true:=by
 intro b ws;cases b<;>kernel_rfl
theorem mq: ∀b ws,(AK (okW true)).map (fun m=>K3.Qp (K3.it (Bu (K3.gd b ws) (wv m))))=(AK (okW true)).map fun m=>K3.N m true b ws 0:=by
 intro b ws;cases b<;>kernel_rfl
theorem tz: ∀b ws,(AK K2).map (fun m=>(I7 K3.xl (K3.U1 m b ws),CF (K3.U1 m b ws)))=(AK K2).map fun m=>(some (.add .i32,[K3.P0,.int .i32 (xn m b)]),true):=by
 intro b ws;cases b<;>kernel_rfl
theorem mo: ∀b ws z,(AK K2).map (fun m=>K3.OL (K3.it (Bu (K3.U1 m b ws) (.int .i32 z))))=(AK K2).map fun _=>true:=by
 intro b ws z;cases b<;>kernel_rfl
theorem uO:K3.Le K3.V1=true:=by kernel_rfl
theorem uN:(AK fun m=>m.l).map (fun m=>Be dg (K3.it (Bu K3.V1 (wv m))))=(AK fun m=>m.l).map fun _=>K3.UR:=by kernel_rfl
theorem uK:K3.bz K3.UR=true:=by kernel_rfl
theorem uJ:I7 K3.xl K3.UA=some (.add .i32,[K3.P0,.int .i32 (-1)])∧CF K3.UA=true:=⟨by kernel_rfl,by kernel_rfl⟩
theorem uI:(AK fun m=>m.l&& !m.sv&&(m.wk||m.q==0)).map (fun m=>K3.MJ (K3.U2 m))=(AK fun m=>m.l&& !m.sv&&(m.wk||m.q==0)).map fun _=>true:=by kernel_rfl
theorem uH:(AK fun m=>m.l&&m.sv).map (fun m=>K3.Ro (K3.U2 m))=(AK fun m=>m.l&&m.sv).map fun _=>true:=by kernel_rfl
theorem uG:(AK Ep).map (fun m=>Be aP (K3.U2 m))=(AK Ep).map fun m=>K3.UC m {m with l:=false}:=by kernel_rfl
theorem uF:(AK Ep).map (fun m0=>(AK Fh).map fun m=>(I7 K3.xl (K3.UC m0 m),CF (K3.UC m0 m)))=(AK Ep).map fun _=>(AK Fh).map fun m=>(some (.Lv .i32,[K3.P0,wv m,wv ⟨false,true,false,m.q-1⟩]),true):=by kernel_rfl
theorem uE:(AK Ep).map (fun m0=>(AK Fh).map fun m=>K3.Ro (K3.it (Bu (K3.UC m0 m) (.bool true))))=(AK Ep).map fun _=>(AK Fh).map fun _=>true:=by kernel_rfl
theorem uD:(AK Ep).map (fun m0=>(AK Fh).map fun m=>Be iN (K3.it (Bu (K3.UC m0 m) (.bool false))))=(AK Ep).map fun m0=>(AK Fh).map fun _=>K3.UL m0:=by kernel_rfl
theorem uC:(AK Ep).map (fun m0=>K3.Le (K3.UL m0))=(AK Ep).map fun _=>true:=by kernel_rfl
theorem uB:(AK Ep).map (fun m0=>(AK Fh).map fun m=>Be aP (K3.it (Bu (K3.UL m0) (wv m))))=(AK Ep).map fun m0=>(AK Fh).map fun m=>K3.UC m0 m:=by kernel_rfl
theorem uA:(AK Ep).map (fun m0=>(AK fun m=> !Fh m).map fun m=>K3.MJ (K3.it (Bu (K3.UL m0) (wv m))))=(AK Ep).map fun _=>(AK fun m=> !Fh m).map fun _=>true:=by kernel_rfl
end Go.Gd
namespace Go.Gd
open Go Go.Gw Go.Conc
open Go.Gm (Bo Ct LP MW Ow)
theorem Ps{α β:Type}{f:α→β}: ∀{M:List β} {l:List α},(l.map f).Perm M→∃L,l.Perm L∧L.map f=M
 | [],l,h=>by
  have:l.map f= []:=List.perm_nil.1 h;exact⟨[],by rw[List.map_eq_nil_iff.1 this],rfl⟩
 |b::M,l,h=>by
  have hb:b∈l.map f:=h.mem_iff.2 (.head _);obtain⟨a,ha,rfl⟩:=Bd.1 hb;obtain⟨l1,l2,rfl⟩:=List.append_of_mem ha;have h1:(l1++a::l2).Perm (a::(l1++l2)):=List.perm_middle;have h2:((l1++l2).map f).Perm M:=by
   have:=((h1.map f).symm.trans h);exact(List.perm_cons _).1 this
  obtain⟨L,p,q⟩:=Ps h2;exact⟨a::L,h1.trans (p.cons a),by rw[Du,q]⟩
inductive I9(ρ:Ah):List MapEntry→List (Value×Value)→Prop where
 |nil:I9 ρ [] []
 |cons {e:MapEntry} {v:Value} {l:List MapEntry} {m:List (Value×Value)} (h:VR ρ e.val v) (t:I9 ρ l m):I9 ρ (e::l) ((e.key,v)::m)
theorem I9.app{ρ:Ah}{l l':List MapEntry}{m m':List (Value×Value)}(h:I9 ρ l m)(h':I9 ρ l' m'):I9 ρ (l++l') (m++m'):=by
 induction h with
 |nil=>exact h'
 |cons h _ ih=>exact .cons h ih
theorem I9.mono{ρ ρ':Ah}(hρ:ρ.le ρ'){l:List MapEntry}{m:List (Value×Value)}(h:I9 ρ l m):I9 ρ' l m:=by
 induction h with
 |nil=>exact .nil
 |cons h _ ih=>exact .cons (h.mono hρ) ih
theorem I9.of{ρ:Ah}: ∀{l L:List MapEntry},SL ρ l L→I9 ρ l (L.map OY)
 | [],[],_=> .nil
 | [],_::_,h=>by cases h.1
 |_::_,[],h=>by cases h.1
 |e::l,e'::L,h=>by
  obtain⟨e1,a,b,c⟩:=h.2 0 e rfl;simp only[CM,AE]at a;subst a;have ht:SL ρ l L:=⟨by simpa using h.1,fun k x hx=>by simpa using h.2 (k+1) x (by simpa using hx)⟩;have:=I9.cons c (I9.of ht);rw[← b]at this;exact this
theorem I9.to{ρ:Ah}: ∀{l L:List MapEntry},I9 ρ l (L.map OY)→SL ρ l L
 | [],[],_=>⟨rfl,fun k e h=>by simp at h⟩
 | [],_::_,h=>by cases h
 |_::_,[],h=>by cases h
 |e::l,e'::L,h=>by
  have h:I9 ρ (e::l) ((e'.key,e'.val)::L.map OY):=h;generalize hk:e'.key=ky at h;cases h with
  |cons hv ht =>
   obtain⟨g1,g2⟩:=I9.to ht;refine⟨by simp[g1],fun k x hx=> ?_⟩;cases k with
   |zero =>
    simp only[CM,AE]at hx;subst hx;exact⟨e',rfl,hk,hv⟩
   |succ k=>simpa using g2 k x (by simpa using hx)
def B9(σ:Nat→Option Value):List (Option Value)→Nat→List Bool
 | [],_=> []
 |k::ks,τ=>(k.isSome&&(σ τ).isSome)::B9 σ ks (τ+1)
def Vx(tk:Nat)(l:List (Option Value)):Nat→List (List Bool) :=
 List.rec (motive:=fun _=>Nat→List (List Bool)) (fun _=> [[]]) (fun k _ ih τ=>match ih (τ+1)with
  |r=>match k with
   |some _=>cond (Nat.beq τ tk) (r.map fun m=>false::m) (r.map (fun m=>true::m)++r.map fun m=>false::m)
   |none=>r.map fun m=>false::m) l
theorem Vy{σ:Nat→Option Value}{tk:Nat}(h:σ tk=none): ∀(l:List (Option Value)) (τ:Nat),B9 σ l τ∈Vx tk l τ
 | [],τ=> .head _
 |k::ks,τ=>by
  have ih:=Vy h ks (τ+1);show(k.isSome&&(σ τ).isSome)::B9 σ ks (τ+1)∈(match Vx tk ks (τ+1)with
   |r=>match k with
    |some _=>cond (Nat.beq τ tk) (r.map fun m=>false::m) (r.map (fun m=>true::m)++r.map fun m=>false::m)
    |none=>r.map fun m=>false::m)
  cases k with
  |none=>exact Bd.2 ⟨_,ih,rfl⟩
  |some k =>
   simp only
   cases e:Nat.beq τ tk with
   |true =>
    have e':=AJ e;subst e';rw[h];exact Bd.2 ⟨_,ih,rfl⟩
   |false =>
    cases hs:(σ τ).isSome with
    |true=>exact DY.2 (.inl (Bd.2 ⟨_,ih,rfl⟩))
    |false=>exact DY.2 (.inr (Bd.2 ⟨_,ih,rfl⟩))
def JE(nx:Nat)(l:List (Option Value)):List Bool→Nat→List MapEntry :=
 List.rec (motive:=fun _=>List Bool→Nat→List MapEntry) (fun _ _=> []) (fun k _ ih m τ=>match m with
  |b::m=>match k with
   |some k=>cond b (⟨k,.pointer (some ⟨nx+τ,0,none⟩),0⟩::ih m (τ+1)) (ih m (τ+1))
   |none=>ih m (τ+1)
  | []=> []) l
def fM:AI:= .cells .nil JO Me 0 false 0 false false
def PV(nx:Nat)(m:List Bool):Nat→T AI→T AI :=
 List.rec (motive:=fun _=>Nat→T AI→T AI) (fun _ t=>t) (fun b _ ih τ t=>cond b (ih (τ+1) (t.set (nx+τ) fM)) (ih (τ+1) t)) m
def JY(k:Ih)(H:PH)(m:List Bool):PH:=match H with
 |⟨nx,t,ng,f⟩=>⟨nx+k.keys.length,(PV nx m 0 t).set k.mb (.obj (.map (k.base++JE nx k.keys m 0).toArray 0)),ng,f⟩
def ER(ρ:Ah)(nx:Nat)(keys:List (Option Value))(σ:Nat→Option Value):Ah:=fun y=>if y<nx then ρ y else match keys[y-nx]? with
 |some (some _)=>match σ (y-nx)with
  |some (.pointer (some a))=>some ⟨a.block,JO,0⟩
  |_=>none
 |_=>none
theorem GH{nx:Nat}: ∀{m:List Bool} {τ:Nat} {t:T AI},nx+τ+m.length≤2^T.deep→∀y,(PV nx m τ t).get y=if nx+τ≤y∧m[y-(nx+τ)]? =some true then some fM else t.get y
 | [],τ,t,_,y=>by simp[PV]
 |b::m,τ,t,hl,y=>by
  have Tn:nx+(τ+1)+m.length≤2^T.deep:=by simp only[Dv]at hl; omega
  have e:PV nx (b::m) τ t=cond b (PV nx m (τ+1) (t.set (nx+τ) fM)) (PV nx m (τ+1) t):=rfl;have Ac:nx+τ<2^T.deep:=by simp only[Dv]at hl; omega
  rw[e];by_cases hy:nx+τ≤y
  ·by_cases ey:y=nx+τ
   ·subst ey;have h0:nx+τ-(nx+τ)=0:=Nat.sub_self _;have h1: ¬(nx+(τ+1)≤nx+τ):=by omega
    cases b with
    |true =>
     rw[AG,GH Tn,AA (fun h=>h1 h.1),T.AW _ _ _ _ Ac,AD rfl,h0,AD ⟨hy,rfl⟩]
    |false =>
     rw[Av,GH Tn,AA (fun h=>h1 h.1),h0,AA (fun h=>by cases h.2)]
   ·have h0:y-(nx+τ)=(y-(nx+(τ+1)))+1:=by omega
    have h1:(nx+(τ+1)≤y∧m[y-(nx+(τ+1))]? =some true)↔(nx+τ≤y∧(b::m)[y-(nx+τ)]? =some true):=by
     rw[h0,Fg];exact⟨fun h=>⟨hy,h.2⟩,fun h=>⟨by omega,h.2⟩⟩
    cases b with
    |true=>rw[AG,GH Tn,T.AW _ _ _ _ Ac,AA ey]; simp only[h1]
    |false=>rw[Av,GH Tn]; simp only[h1]
  ·have h1: ¬(nx+(τ+1)≤y):=by omega
   have ey:y≠nx+τ:=by omega
   cases b with
   |true=>rw[AG,GH Tn,AA (fun h=>h1 h.1),T.AW _ _ _ _ Ac,AA ey,AA (fun h=>hy h.1)]
   |false=>rw[Av,GH Tn,AA (fun h=>h1 h.1),AA (fun h=>hy h.1)]
theorem YW{σ:Nat→Option Value}: ∀{l:List (Option Value)} {τ j:Nat},(B9 σ l τ)[j]? =some true→∃k v,l[j]? =some (some k)∧σ (τ+j)=some v
 | [],τ,j,h=>by simp[B9]at h
 |k::ks,τ,0,h=>by
  simp only[B9,CM,AE,AF]at h;obtain⟨k',hk⟩:=Option.isSome_iff_exists.1 h.1;obtain⟨v,hv⟩:=Option.isSome_iff_exists.1 h.2;exact⟨k',v,by rw[hk]; rfl,by simpa using hv⟩
 |k::ks,τ,j+1,h=>by
  simp only[B9,Fg]at h;obtain⟨k',v,a,b⟩:=YW h;exact⟨k',v,by simpa using a,by rw[← b]; congr 1; omega⟩
theorem QB{σ:Nat→Option Value}: ∀{l:List (Option Value)} {τ:Nat},(B9 σ l τ).length=l.length
 | [],_=>rfl
 |_::ks,τ=>by simp[B9,QB (l:=ks)]
theorem Uz{ρ:Ah}{σ:Nat→Option Value}{nx:Nat}{keys:List (Option Value)}: ∀{l:List (Option Value)} {τ:Nat},(∀j,l[j]? =keys[τ+j]?)→(∀τ k v,keys[τ]? =some (some k)→σ τ=some v→∃b,v= .pointer (some ⟨b,0,none⟩))→
  I9 (ER ρ nx keys σ) (JE nx l (B9 σ l τ) τ) (C1 σ l τ)
 | [],τ,_,_=> .nil
 |k::ks,τ,hk,hv=>by
  have ij:keys[τ]? =some k:=by have:=hk 0; simpa using this.symm
  have ih:=Uz (ρ:=ρ) (σ:=σ) (nx:=nx) (keys:=keys) (l:=ks) (τ:=τ+1) (fun j=>by have:=hk (j+1); simp only[Fg]at this; rw[this]; congr 1; omega) hv;cases k with
  |none=>exact ih
  |some k =>
   show I9 _ (cond ((some k).isSome&&(σ τ).isSome) (⟨k,.pointer (some ⟨nx+τ,0,none⟩),0⟩::JE nx ks (B9 σ ks (τ+1)) (τ+1)) (JE nx ks (B9 σ ks (τ+1)) (τ+1))) ((match σ τ with|some v=> [(k,v)]|none=> [])++C1 σ ks (τ+1));cases hs:σ τ with
   |none=>exact ih
   |some v =>
    obtain⟨b,rfl⟩:=hv τ k v ij hs;have:VR (ER ρ nx keys σ) (.pointer (some ⟨nx+τ,0,none⟩)) (.pointer (some ⟨b,0,none⟩)):=by
     have hB:ER ρ nx keys σ (nx+τ)=some ⟨b,JO,0⟩:=by
      unfold ER;rw[AA (by omega),show nx+τ-nx=τ by omega,ij,hs]
     exact .ptr (a:=⟨nx+τ,0,none⟩) hB
    exact .cons (e:=⟨k,.pointer (some ⟨nx+τ,0,none⟩),0⟩) this ih
def tB{α:Type}(f:α→Bool)(v:Option α):Bool:=match v with
 |some x=>f x
 |none=>true
def T.ar{α:Type}(f:α→Bool)(t:T α):Bool:=T.rec (motive:=fun _=>Bool) true (fun _ v _ dm dk=>tB f v&&(dm&&dk)) t
theorem T.Qv{α:Type}{f:α→Bool}: ∀{t:T α} {k:Nat} {v:α},T.ar f t=true→t.get k=some v→f v=true
 | .nil,k,v,_,h=>by cases h
 | .node l x r,k,v,h,hg=>by
  have h:(tB f x&&(T.ar f l&&T.ar f r))=true:=h;simp only[AF]at h;obtain⟨h1,h2,h3⟩:=h;rw[T.Ci]at hg;split at hg
  ·subst hg; exact h1
  ·split at hg
   ·exact T.Qv h2 hg
   ·exact T.Qv h3 hg
def ZZ:AI→Bool
 | .cells _ _ elem _ own _ _ _=> !own|| !Nat.beq elem Me
 | .obj _=>true
section
variable{ρ ρ':Ah}{H:PH}{c c':Ctx}{w:World}
theorem BR.wide{B:RB}{o:AI}(h:BR ρ c w B o)(hρ:ρ.le ρ')(hM: ∀b,c.M b→c'.M b)(hR:c'.R=c.R):BR ρ' c' w B o:=by
 cases h.mono hρ with
 |cells hs he hf hle Ax gX AO=>exact .cells hs he hf hle (fun e=>⟨hM _ (Ax e).1,(Ax e).2⟩) (fun e e' k hk=>by rw[hR]; exact gX e e' k hk) AO
 |obj hw ho rV=>exact .obj hw ho (hM _ rV)
theorem Nz{σ:Nat→Option Value}: ∀{l:List (Option Value)} {τ j:Nat} {k v:Value},l[j]? =some (some k)→σ (τ+j)=some v→(B9 σ l τ)[j]? =some true
 | [],_,_,_,_,h,_=>by simp at h
 |x::ks,τ,0,k,v,h,hv=>by
  simp only[CM,AE]at h;subst h;simp only[Nat.add_zero]at hv;simp[B9,hv]
 |x::ks,τ,j+1,k,v,h,hv=>by
  simp only[B9,Fg];exact Nz (by simpa using h) (by rw[← hv]; congr 1; omega)
theorem SH{k:Ih}{σ:Nat→Option Value}(h:HR ρ H c w):ρ.le (ER ρ H.next k.keys σ):=fun y B hy=>by
 unfold ER;rw[AD (h.Dk y B hy).1];exact hy
theorem FO{k:Ih}{σ:Nat→Option Value}{y:Nat}(h:y<H.next):ER ρ H.next k.keys σ y=ρ y:=AD h
theorem ZC{keys:List (Option Value)}{σ:Nat→Option Value}{nx y:Nat}{B:RB}(hy: ¬y<nx)(h:ER ρ nx keys σ y=some B): ∃key a,keys[y-nx]? =some (some key)∧σ (y-nx)=some (.pointer (some a))∧B=⟨a.block,JO,0⟩:=by
 unfold ER at h;rw[AA hy]at h;split at h
 ·rename_i key e1;split at h
  ·rename_i a e2;cases h;exact⟨key,a,e1,e2,rfl⟩
  ·cases h
 ·cases h
theorem HR.acq{k:Ih}{σ:Nat→Option Value}{B':RB}{es:Array MapEntry}{clk:Nat}{EL:List MapEntry}(h:HR ρ H c w)(OZ:ρ k.mb=some B')(_hnm: ¬c.M B'.blk)(xW: ∀x X,ρ x=some X→X.blk=B'.blk→x=k.mb)
  (hw:w.heap[B'.blk]? =some (.map es clk)) (J3:(es.toList.map OY).Perm (EL.map OY++C1 σ k.keys 0)) (hb:SL ρ k.base EL)
  (hv: ∀τ key v,k.keys[τ]? =some (some key)→σ τ=some v→∃b,v= .pointer (some ⟨b,0,none⟩)∧w.shape? b=some (Me,JO))
  (Yr:H.t.ar ZZ=true) (A2:H.next+k.keys.length≤2^T.deep) (hM: ∀b,c.M b→c'.M b) (xh:c'.M B'.blk) (hR:c'.R=c.R) :
  HR (ER ρ H.next k.keys σ) (JY k H (B9 σ k.keys 0)) c' w∧Q5 (ER ρ H.next k.keys σ) (k.base++JE H.next k.keys (B9 σ k.keys 0) 0) es.toList:=by
 have hle:=SH (k:=k) (σ:=σ) h;have eJ:=(h.Dk _ _ OZ).1;have nP:w.shape? B'.blk=none:=by unfold World.shape?; rw[hw]
 have im:Q5 (ER ρ H.next k.keys σ) (k.base++JE H.next k.keys (B9 σ k.keys 0) 0) es.toList:=by
  obtain⟨Lr,p,q⟩:=Ps J3;refine⟨Lr,p,I9.to ?_⟩;rw[q];exact(I9.of hb |>.mono hle).app (Uz (l:=k.keys) (τ:=0) (fun j=>by rw[DV]) fun τ key v a b=>let⟨x,e,_⟩:=hv τ key v a b; ⟨x,e⟩)
 have Zu: ∀{y:Nat} {B:RB},¬y<H.next→ER ρ H.next k.keys σ y=some B→w.shape? B.blk=some (Me,JO)∧B.size=JO∧B.es=0∧(B9 σ k.keys 0)[y-H.next]? =some true∧y<H.next+k.keys.length:=fun {y B} hy hB=>by
  obtain⟨key,a,e1,e2,rfl⟩:=ZC hy hB;obtain⟨b,e3,e4⟩:=hv _ _ _ e1 e2;cases e3;refine⟨e4,rfl,rfl,Nz e1 (by rw[DV]; exact e2), ?_⟩;have:=(DU.1 e1).1;omega
 obtain⟨nx,t,ng,BF⟩:=H;have Ew: ∀y,(JY k ⟨nx,t,ng,BF⟩ (B9 σ k.keys 0)).t.get y=if y=k.mb then some (.obj (.map (k.base++JE nx k.keys (B9 σ k.keys 0) 0).toArray 0))else if nx≤y∧(B9 σ k.keys 0)[y-nx]? =some true then some fM else t.get y:=fun y=>by
  show((PV nx (B9 σ k.keys 0) 0 t).set k.mb _).get y=_;rw[T.AW _ _ _ _ (AV eJ h.cap)];by_cases e:y=k.mb
  ·rw[AD e,AD e]
  ·rw[AA e,AA e,GH (by rw[QB]; exact A2)];rfl
 have hold: ∀{y:Nat},y<nx→y≠k.mb→(JY k ⟨nx,t,ng,BF⟩ (B9 σ k.keys 0)).t.get y=t.get y:=fun {y} h1 h2=>by
  rw[Ew,AA h2,AA (fun h=>by omega)]
 have IV: ∀{y:Nat} {B:RB},¬y<nx→ER ρ nx k.keys σ y=some B→(JY k ⟨nx,t,ng,BF⟩ (B9 σ k.keys 0)).t.get y=some fM:=fun {y B} h1 h2=>by
  obtain⟨_,_,_,g,_⟩:=Zu h1 h2;have eJ:k.mb<nx:=eJ;rw[Ew,AA (fun e=>by omega),AD ⟨by omega,g⟩]
 have own: ∀{y:Nat} {B:RB} {o:AI},ρ y=some B→t.get y=some o→o.mine=true→w.shape? B.blk≠some (Me,JO):=fun {y B o} hy ho hm hs=>by
  have hr:=h.rel y B o hy ho;have hf:=T.Qv Yr ho;cases hr with
  |cells R5 _ _ _ _ _ _ =>
   rw[hs]at R5;simp only[AE,AR]at R5;have e1:=R5.1;subst e1;simp only[AI.mine]at hm;subst hm;simp[ZZ]at hf
  |obj Kv aU _ =>
   have:=LF Kv (OR.Dr aU);rw[hs]at this; cases this
 refine⟨⟨A2,fun y B hy=> ?_,fun y B o hy ho=> ?_,fun y y' B1 B2 hy HM BK Bn=> ?_,fun g hg=> ?_,fun y B o hy ho hf hk=> ?_⟩,im⟩
 ·by_cases Ac:y<nx
  ·rw[FO (H:=⟨nx,t,ng,BF⟩) Ac]at hy;have:=h.Dk y B hy;exact⟨by show y<nx+k.keys.length; omega,this.2⟩
  ·obtain⟨g1,_,_,_,g5⟩:=Zu Ac hy;exact⟨g5,Ai g1⟩
 ·by_cases Ac:y<nx
  ·rw[FO (H:=⟨nx,t,ng,BF⟩) Ac]at hy;by_cases em:y=k.mb
   ·subst em;rw[OZ]at hy; cases hy;rw[Ew,AD rfl]at ho;cases ho;exact .obj hw (.map _ _ (by simpa using im)) xh
   ·rw[hold Ac em]at ho;exact(h.rel y B o hy ho).wide hle hM hR
  ·rw[IV Ac hy]at ho;cases ho;obtain⟨g1,g2,g3,_,_⟩:=Zu Ac hy;exact .cells (by rw[g2]; exact g1) g3 (fun _=>g2) (by rw[g2]; exact AN _) (fun e=>by cases e) (fun _ e=>by cases e) (fun e=>by cases e)
 ·have Wp: ∀{y y':Nat} {B1 B2:RB},y<nx→¬y'<nx→ER ρ nx k.keys σ y=some B1→ER ρ nx k.keys σ y'=some B2→B1.blk=B2.blk→(JY k ⟨nx,t,ng,BF⟩ (B9 σ k.keys 0)).still y∧(JY k ⟨nx,t,ng,BF⟩ (B9 σ k.keys 0)).still y':=fun {y y' B1 B2} h1 h2 hy HM e=>by
   obtain⟨g1,_⟩:=Zu h2 HM;rw[FO (H:=⟨nx,t,ng,BF⟩) h1]at hy;refine⟨fun o ho=> ?_,fun o ho=> ?_⟩
   ·by_cases em:y=k.mb
    ·subst em;rw[OZ]at hy; cases hy;rw[e,g1]at nP; cases nP
    ·rw[hold h1 em]at ho;cases hm:o.mine with
     |false=>rfl
     |true=>exact absurd (e ▸g1) (own hy ho hm)
   ·rw[IV h2 HM]at ho;cases ho; rfl
  by_cases Ac:y<nx
  ·by_cases Gn:y'<nx
   ·rw[FO (H:=⟨nx,t,ng,BF⟩) Ac]at hy;rw[FO (H:=⟨nx,t,ng,BF⟩) Gn]at HM;by_cases em:y=k.mb
    ·subst em;rw[OZ]at hy; cases hy;exact absurd (xW y' B2 HM Bn.symm).symm BK
    ·by_cases em':y'=k.mb
     ·subst em';rw[OZ]at HM; cases HM;exact absurd (xW y B1 hy Bn) BK
     ·rcases h.inj y y' B1 B2 hy HM BK Bn with⟨o,o',p1,p2,p3,p4⟩|⟨q1,q2⟩
      ·exact .inl ⟨o,o',(hold Ac em).trans p1,(hold Gn em').trans p2,p3,p4⟩
      ·exact .inr ⟨fun o ho=>q1 o ((hold Ac em).symm.trans ho),fun o ho=>q2 o ((hold Gn em').symm.trans ho)⟩
   ·exact .inr (Wp Ac Gn hy HM Bn)
  ·by_cases Gn:y'<nx
   ·exact .inr (Wp Gn Ac HM hy Bn.symm).symm
   ·refine .inr ⟨fun o ho=> ?_,fun o ho=> ?_⟩
    ·rw[IV Ac hy]at ho;cases ho; rfl
    ·rw[IV Gn HM]at ho;cases ho; rfl
 ·obtain⟨B,h1,h2⟩:=h.EK g hg;exact⟨B,hle _ _ h1,h2⟩
 ·by_cases Ac:y<nx
  ·by_cases em:y=k.mb
   ·subst em;rw[Ew,AD rfl]at ho;cases ho;exact absurd rfl hf
   ·rw[FO (H:=⟨nx,t,ng,BF⟩) Ac]at hy;rw[hold Ac em]at ho;exact h.mem y B o hy ho hf hk
  ·rw[IV Ac hy]at ho;cases ho;exact absurd rfl hf
end
def aN(s:DS):Option (FuncId×Value×PF) :=
 match s with
 |⟨fr,_,H,d⟩=>match fr.mode with
  | .run=>match fr.todo with
   | .ops all i (o::l)::k=>cond (Ae fr.kind&&Nat.beq d 0) (match Aj fr all o with
    |some true=>match o.op with
     | .call c=>match c.callee with
      | .value f=>match AQ H.ng fr f with
       |some (.func (.func g) xs ys)=>match xs.toList,ys.toList,Eh H.ng fr c.args.toList,By fr o.dst undef with
        | [],[],some [v],some tm=>some (g,v,fr.up tm (.ops all (i+1) l::k))
        |_,_,_,_=>none
       |_=>none
      |_=>none
     |_=>none
    |_=>none) none
   |_=>none
  |_=>none
theorem Rx{C:CB}(hC:An C){s:DS}{g:FuncId}{v:Value}{VD:PF}(h:aN s=some (g,v,VD)){fn:Func}(Gv:C.fns.get g=some fn)(kB:A4 fn=true){ρ:Ah}{fr:Frame}{pd:List Nat}{c:Ctx}{w:World}(hf:Br ρ s.fr fr pd)(hH:HR ρ s.H c w) :
  s.d=0∧pd= []∧(∀ρ',ρ.le ρ'→Br ρ' VD (fr.finish undef) [])∧∃Ap:Array Value,CE ρ [v] Ap.toList∧∀main cs w,stepG C.P main (G fr cs) w= .go (G (Frame.enter C.P g Ap .normal) (fr::cs)) w #[]:=by
 obtain⟨pf,gY,H,d⟩:=s;replace hf:Br ρ pf fr pd:=hf;replace hH:HR ρ H c w:=hH;unfold aN at h;simp only at h;split at h
 ·rename_i hm;split at h
  ·rename_i all i o l k ht;obtain⟨e0,h⟩:=Ay h;rw[AF]at e0;have NL:fr.kind≠ .early:=fun e=>by rw[hf.kind]at e; rw[e]at e0; cases e0.1
   split at h
   ·rename_i hw;split at h
    ·rename_i cl A5;obtain⟨callee,AAe,EY⟩:=cl;simp only at h;split at h
     ·rename_i fo;split at h
      ·rename_i g' xs ys e1;split at h
       ·rename_i v' tm e2 e3 e4 e5;cases h;obtain⟨Dj,ho,A9,rest,mm,e,E0,Ky⟩:=hf.ops ht;have N4:=BE (fun _ _ t v _ _ hv=>A9 t v hv) hw;obtain⟨Ap,a1,_⟩:=H5 (w:=w) (P:=C.P) (CJ.of A9 hH o) A5 e1 (hC.fns _ _ Gv) kB e4;rw[e2,e3,List.nil_append,List.append_nil]at a1;have Kz: ∃UI:Array Value,CE ρ [v] UI.toList∧∀w,(execOp fr.eval o).runT C.P w #[]=(.ok (.enter g UI) w,#[]):=by
         have h1:=CJ.of A9 hH o fo (by simp[A5,Op.operands,Call.operands]) _ e1;have h2:=DO (CJ.of A9 hH o) (fun z hz=>by rw[A5]; simp[Op.operands,Call.operands]at hz ⊢; exact .inr hz) e4;generalize C6:fr.eval fo=u at h1;cases h1 with
         |func oA Au Li =>
          rename_i fn1 xs' Ij;cases oA;rw[e2]at Au;rw[e3]at Li;refine⟨xs'++AAe.map fr.eval++Ij,by simpa using(Au.append h2).append Li,fun w=> ?_⟩;have BB:execOp fr.eval o=callFunc g (xs'++AAe.map fr.eval++Ij):=by
           unfold execOp;rw[A5];simp only[resolve,C6];rfl
          rw[BB];exact EA (hC.fns _ _ Gv) kB _ _
        obtain⟨UI,b1,b2⟩:=Kz;refine⟨AJ e0.2,Dj,fun ρ' hle=>(hf.mono hle).put ht e5 (.tuple .nil),UI,b1,fun main cs w=> ?_⟩;have:=Fi (P:=C.P) (main:=main) (cs:=cs) ((Br.run hf) hm) e ho N4 NL (fun c hc=>by rw[A5]at hc; cases hc) (b2 w);rw[seen_none]at this;exact this
       ·cases h
      ·cases h
     ·cases h
    ·cases h
   ·cases h
  ·cases h
 ·cases h
open Go.ConcN (upd upd_same upd_ne)
structure xB(pg:PG)(k:Ih)(L:List MapEntry)(E:Env)(C:Bo)(φ:Nat)(sn:Option MW)(B B':RB)(EL:List MapEntry)(es:Array MapEntry)(clk:Nat):Prop where
 AL:E.AL=some ⟨C,⟨.hold,.own E.w0,φ,sn,pg.kids.length⟩⟩
 fu:φ≤Gm.Hi
 lb:E.kr k.lb=some B
 clb:C.lb=B.blk
 clo:C.lo=BN
 sl:E.w0.shape? B.blk=some (C2,DL)
 mb:E.kr k.mb=some B'
 P: ∀b,C.P b↔b=B'.blk
 J:C.J=Wq B'.blk EL k.keys
 map:E.w0.heap[B'.blk]? =some (.map es clk)
 en:Q5 E.kr L es.toList
structure W4(pg:PG)(k:Ih)(kv:KV)(n1:Nat)(L:List MapEntry)(E:Env):Prop where
 base:E.base= []
 AP:E.AP=none
 send: ∃b Ze ws,Ze.le E.kr∧ws≤E.w0.heap.size∧E.send=some (b,KW Ze ws kv)∧(∀x∈kv.low,∃B,Ze x=some B)∧∀b,E.aM b→ws≤b∨∃B',E.kr k.mb=some B'∧b=B'.blk
 aW:E.aW=E.w0
 dec: ∃a φ B,pg.wg=some (a,φ)∧E.kr a=some B∧E.dec=some (B.blk,.cnt)
 names: ∀x B,E.kr x=some B→x<n1
 AL: ∃C φ sn B B' EL es clk,xB pg k L E C φ sn B B' EL es clk
structure W3(pg:PG)(k:Ih)(kv:KV)(n1:Nat)(E:Env):Prop where
 base:E.base= []
 AP:E.AP=none
 send: ∃b Ze ws,Ze.le E.kr∧ws≤E.w0.heap.size∧E.send=some (b,KW Ze ws kv)∧(∀x∈kv.low,∃B,Ze x=some B)∧(∀x B,E.kr x=some B→n1≤x→ws≤B.blk∨E.w0.shape? B.blk=none∧B.blk<E.w0.heap.size)∧∀b,E.aM b→ws≤b
 aW:E.aW=E.w0
 dec: ∃a φ B,pg.wg=some (a,φ)∧E.kr a=some B∧E.dec=some (B.blk,.cnt)
 AL: ∃C φ sn B v,E.AL=some ⟨C,⟨.fin,.put v,φ,sn,pg.kids.length⟩⟩∧E.kr k.lb=some B∧C.lb=B.blk∧E.w0.shape? B.blk=some (C2,DL)∧VR E.kr kv.v v
def Env.here(E:Env)(ρ:Ah)(c:Ctx)(w:World):Env:={E with AL:=c.AL,base:= [],kM:=fun _=>False,kR:=fun _=>False,w0:=w,kr:=ρ,aM:=c.M,aW:=w}
theorem Kept.here{E:Env}{ρ:Ah}{c:Ctx}{w:World}:Kept (E.here ρ c w) ρ c w :=
 ⟨fun _b hb=>hb.elim,fun _a ha=>ha.elim,AN _,fun _ _=>rfl,rfl,.refl _,rfl,Ah.le.refl _,fun x B hx=> .inr ⟨x,B,hx,rfl⟩,rfl,⟨fun x B hx=> .inl ⟨x,B,hx,rfl,.inl rfl⟩,fun _b hb=> .inl hb,AN _,fun _ _=>rfl⟩⟩
theorem uniform{α:Type}{Q:α→Nat→Prop}(hm: ∀a n j,Q a n→Q a (n+j)): ∀{l:List α},(∀a∈l,∃n,Q a n)→∃n,∀a∈l,Q a n
 | [],_=>⟨0,fun a ha=>by cases ha⟩
 |a::l,h=>by
  obtain⟨n,hn⟩:=uniform hm fun b hb=>h b (.tail _ hb);obtain⟨j,hj⟩:=h a (.head _);refine⟨n+j,fun b hb=> ?_⟩;rcases AZ.1 hb with rfl|hb
  ·rw[Nat.add_comm]; exact hm _ _ _ hj
  ·exact hm _ _ _ (hn b hb)
theorem Bm.ZH(K:Bm)(g:FuncId):(K.start g).d=0:=by
 unfold Bm.start;split
 ·split<;>rfl
 ·rfl
structure US(K:Bm)(g:FuncId):Prop where
 fn: ∃fn body,K.C.fns.get g=some fn∧fn.body=some body∧A4 fn=true
theorem US.start{K:Bm}(hC:An K.C){g:FuncId}(h:US K g): ∃fn,K.C.fns.get g=some fn∧A4 fn=true∧∀(B:RB) (fr:Frame) (rest:List Frame),ZD (fr::rest) (JR B) (K.start g) (G (Frame.enter K.C.P g #[.pointer (some ⟨B.blk,K.lo,none⟩)] .normal) (fr::rest)):=by
 obtain⟨fn,body,h1,h2,h3⟩:=h.fn;refine⟨fn,h1,h3,fun B fr rest=> ?_⟩;unfold Bm.start;rw[h1];simp only[h2];exact⟨_,_,rfl,Br.enter (hC.fns _ _ h1) h2 (.cons (.ptr (a:=⟨0,K.lo,none⟩) (Sj B)) .nil) (by have:1≤2^T.deep:=Nat.one_le_two_pow; simpa using this) .normal,Z1.nil⟩
theorem CE.ZX{ρ:Ah}{b o:Nat}{Ap:Array Value}{B:RB}(h:CE ρ [.pointer (some ⟨b,o,none⟩)] Ap.toList)(hB:ρ b=some B):Ap= #[.pointer (some ⟨B.blk,o,none⟩)]:=by
 obtain⟨l⟩:=Ap;cases h with
 |cons h t =>
  cases t;cases h with
  |ptr O0 =>
   have O0:ρ b=some _:=O0;rw[hB]at O0;cases O0;rfl
section
variable{K:Bm}{ty:TypeId}{Post:Value→World→Prop}{p:Nat→Bool}{pg:PG}{kv:KV}{k:Ih}
variable(hC:An K.C)(Fc:C9 K.C.P K.xl)(D5:C9 K.C.P K.xq)(Bp:K.sz=DL)(Mw:K.lo=BN)
include hC Fc D5 Bp Mw
theorem dQ(F:Mp K)(Ki: ∀f S,K.xl.get f=some (.Cn S)→(K.C.P.funcs[f]?).any (·.norace)=true)(XD:US K K.fl)(hk:pg.AY=some k)(ie:k.lo=BN)(Az:pg.wg≠none){s1:DS}{VD:PF}(Bg:aN s1=some (K.fl,.pointer (some ⟨k.lb,BN,none⟩),VD))
  (Yr:s1.H.t.ar ZZ=true) (A2:s1.H.next+k.keys.length≤2^T.deep)
  (hN: ∀m∈Vx pg.kids.length k.keys 0,∃n,∀E:Env,W4 pg k kv (s1.H.next+k.keys.length) (k.base++JE s1.H.next k.keys m 0) E→DW K.C.P ty Post false E n ⟨VD,s1.cs,JY k s1.H m,0⟩) :
  ∃n,∀E:Env,pG E p pg kv→DW K.C.P ty Post false E n s1:=by
 obtain⟨n0,vV⟩:=uniform (Q:=fun m n=> ∀E:Env,W4 pg k kv (s1.H.next+k.keys.length) (k.base++JE s1.H.next k.keys m 0) E→DW K.C.P ty Post false E n ⟨VD,s1.cs,JY k s1.H m,0⟩) (fun m n j h E hE=>(h E hE).more) hN;obtain⟨nl,hL⟩:=iI hC Fc D5 F Ki ty Post C2 Gm.Hi;refine⟨n0+nl+1,fun E hE ρ c g w hd=> ?_⟩;cases hd with
 |mk hf hc D7 ET hH AO Dx h1 h2 h3 Bv =>
  rename_i fr cs pd pds;rw[hE.base,List.append_nil];obtain⟨B1,B2,Q7⟩:=hE.ap k hk;obtain⟨fn,f1,f2,f3⟩:=XD.start hC;obtain⟨ir,Dj,BO,Ap,ha,Aq⟩:=Rx hC Bg f1 f2 hf hH;subst Dj;obtain⟨x,hx,EL,Hr,v8,v7,OZ,hP,hJ,JL⟩: ∃x:Jb,E.AL=some x∧∃EL,E.kr k.lb=some B1∧x.C.lb=B1.blk∧x.C.lo=BN∧E.kr k.mb=some B2∧(∀b,x.C.P b↔b=B2.blk)∧x.C.J=Wq B2.blk EL k.keys∧SL E.kr k.base EL:=by
   have BW:=hE.AY;rw[hk]at BW;cases hm:E.AL with
   |none=>rw[hm]at BW; cases BW
   |some x =>
    rw[hm]at BW;have BW:jY E.kr (some k) (some x.C):=BW;generalize hz:some x.C=z at BW;cases BW with
    |some Hr hl hlo' OZ hP hJ hb =>
     cases hz;have e1:=Q7.lb;rw[Hr]at e1; cases e1;have e2:=Q7.mb;rw[OZ]at e2; cases e2;exact⟨x,rfl,_,Hr,hl,hlo'.trans ie,OZ,hP,hJ,hb⟩
  obtain⟨C,μ⟩:=x;have hμ:μ=Gm.fresh pg.kids.length:=hE.AL _ hx;subst hμ;have bH:c.AL=some ⟨C,Gm.fresh pg.kids.length⟩:=Bv.AL.trans hx;have Kz:Ap= #[.pointer (some ⟨B1.blk,K.lo,none⟩)]:=by
   rw[Mw];exact CE.ZX ha (Bv.Fq _ _ Hr)
  subst Kz;have hsend:c.send≠none:=by
   obtain⟨b,ws,_,_,e⟩:=hE.send;rw[h1,e]; simp
  refine W.Rw rfl hsend AO fun w₁ r=>⟨_,#[],Aq false cs w₁,rfl,by simp, ?_⟩;have xg:({c with d:=deafBehind c.d #[]}:Ctx)={({c with d:=0,AL:=none}:Ctx)with d:=(K.start K.fl).d,AL:=some ⟨C,⟨.out,.no,Gm.Hi,none,pg.kids.length⟩⟩}:=by
   have e1:deafBehind c.d #[]=0:=Dx.trans ir;have e2:(K.start K.fl).d=0:=K.ZH K.fl;rw[e1,e2];obtain⟨cM,cR,cd,cs',cdec,cg,cmt⟩:=c;simp only at bH;subst bH;rfl
  rw[xg];have vI:w.shape? B1.blk=some (C2,DL):=(Bv.shape _ (Ai Q7.sl)).trans Q7.sl;have Yh:w₁.shape? B1.blk=some (C2,K.sz):=by rw[Bp]; exact(r.shape _ (Ai vI)).trans vI
  refine hL {c with d:=0,AL:=none} C .no pg.kids.length B1 fr cs Gm.Hi _ w₁ n0 v8 (v7.trans Mw.symm) trivial ⟨AN _,AN _⟩ hsend ((AO.rely r).ctx rfl rfl) Yh (f3 B1 fr cs) ?_;intro w₂ σ φ' Z5 hφ r₂ fC hσ hPb;have r2:AS c w₁ w₂:=CU r₂ rfl rfl;have fD:=(hH.rely r).rely r2;have FA:=(AO.rely r).rely r2;have GN:=(Bv.rely r).rely r2;rw[hJ]at fC;obtain⟨⟨es,clk,iZ,J3⟩,dt⟩:=fC;have hPm:C.P B2.blk:=(hP _).2 rfl;obtain⟨hPlt,hPap⟩:=hPb _ hPm;have hnm: ¬c.M B2.blk:=hPap.1;have J2:=GN.Fq _ _ OZ;have hlt0:B2.blk<E.w0.heap.size:=Q7.lt;have xW: ∀y Y,ρ y=some Y→Y.blk=B2.blk→y=k.mb:=fun y Y hy e=>by
   rcases GN.al.al y Y hy with⟨z,Z,hz,ez,EW⟩|h
   ·rcases EW with rfl|EW
    ·exact Q7.um z Z hz (ez.trans e)
    ·exact absurd EW (hE.aM _)
   ·have:E.aS=E.w0.heap.size:=by unfold Env.aS; rw[hE.aW]
    omega
  let c':Ctx:={({c with d:=0,AL:=none}:Ctx)with d:=0,M:=fun b=>c.M b∨C.P b,AL:=some ⟨C,⟨.hold,.own w₂,φ',Z5,pg.kids.length⟩⟩}
  have oI:SL ρ k.base EL:=⟨JL.1,fun j e he=>let⟨e',a,b,d⟩:=JL.2 j e he; ⟨e',a,b,d.mono GN.Fq⟩⟩;obtain⟨hHa,Ob⟩:=HR.acq (c':=c') (k:=k) (σ:=σ) fD J2 hnm xW iZ J3 oI dt Yr A2 (fun b hb=> .inl hb) (.inr hPm) rfl;have hle:=SH (k:=k) (σ:=σ) fD;have hokc:CK c' w₂:=⟨fun b hb=>hb.elim (FA.ml b) fun hb=>(hPb b hb).1,FA.rl,fun a ha hb=>hb.elim (FA.rm a ha) fun hb=>(hPb _ hb).2.2 a ha rfl⟩;have vX:=Vy hσ k.keys 0
  let E':Env:=E.here (ER ρ s1.H.next k.keys σ) c' w₂
  have hE':W4 pg k kv (s1.H.next+k.keys.length) (k.base++JE s1.H.next k.keys (B9 σ k.keys 0) 0) E':=by
   refine⟨rfl,hE.wU.1, ?_,rfl, ?_,fun y B hy=> ?_,C,φ',Z5,B1,B2,EL,es,clk,⟨rfl,hφ,hle _ _ (GN.Fq _ _ Hr),v8,v7, ?_,hle _ _ J2,hP,hJ,iZ,Ob⟩⟩
   ·obtain⟨b,ws,_,j9,e⟩:=hE.send;exact⟨_,E.kr,ws,GN.Fq.trans hle,A1 j9 GN.size,e,hE.low,fun b hb=>hb.elim (fun hb=>(GN.al.am b hb).elim (fun h=>absurd h (hE.aM _)) fun h=>by
     have:E.aS=E.w0.heap.size:=by unfold Env.aS; rw[hE.aW]
     exact .inl (by omega)) fun hb=> .inr ⟨B2,hle _ _ J2,(hP _).1 hb⟩⟩
   ·rcases hE.dec with⟨q1,_⟩|⟨a,φ,B,q1,q2,q3⟩
    ·exact absurd q1 Az
    ·exact⟨a,φ,B,q1,hle _ _ (GN.Fq _ _ q2),q3⟩
   ·have hdm:=(hHa.Dk y B hy).1;have e:(JY k s1.H (B9 σ k.keys 0)).next=s1.H.next+k.keys.length:=by cases s1.H; rfl
    omega
   ·show w₂.shape? B1.blk=_;have hs:=(r2.shape _ (Ai Yh)).trans Yh;rw[Bp]at hs;exact hs
  refine vV _ vX E' hE' (ER ρ s1.H.next k.keys σ) c' _ w₂ ?_;have Ff:=BO _ hle;have:=DR.mk (E:=E') (s:=⟨VD,s1.cs,JY k s1.H (B9 σ k.keys 0),0⟩) (c:=c') (cs:=cs) Ff (hc.mono hle) (by simpa using D7) (fun b hb=>by
   obtain⟨z1,z2⟩:=ET b (by simpa using hb);refine⟨by rw[FO z2]; exact z1, ?_⟩;have e:(JY k s1.H (B9 σ k.keys 0)).next=s1.H.next+k.keys.length:=by cases s1.H; rfl
   show b<(JY k s1.H (B9 σ k.keys 0)).next
   omega) hHa hokc rfl h1 h2 h3 Kept.here
  have gW:cs++E'.base=cs:=List.append_nil cs;rw[gW]at this;exact this
end
def Zh:Value→Bool
 | .pointer (some _)=>true
 |_=>false
theorem hD{ρ:Ah}{v a b:Value}(hp:Zh v=true)(h:VR ρ v a)(h':VR ρ v b):a=b:=by
 cases h with
 |ptr hB =>
  cases h' with
  |ptr O0 =>
   rw[hB]at O0;cases O0;rfl
 |_=>cases hp
theorem I9.uniq{ρ:Ah}: ∀{l l':List MapEntry} {m m':List (Value×Value)},(∀e∈l,Zh e.val=true)→l.map OY=l'.map OY→I9 ρ l m→I9 ρ l' m'→m=m'
 | [],l',m,m',_,h,h1,h2=>by
  have:l'= []:=List.map_eq_nil_iff.1 h.symm;subst this;cases h1; cases h2; rfl
 |e::l,l',m,m',hp,h,h1,h2=>by
  cases l' with
  |nil=>cases h
  |cons e' l' =>
   simp only[Du,List.cons.injEq]at h;obtain⟨he,ht⟩:=h;have ek:e.key=e'.key:=congrArg Prod.fst he;have ev:e.val=e'.val:=congrArg Prod.snd he;cases h1 with
   |cons a1 b1 =>
    cases h2 with
    |cons a2 b2 =>
     rw[hD (hp e (.head _)) a1 (by rw[ev]; exact a2),ek,I9.uniq (fun x hx=>hp x (.tail _ hx)) ht b1 b2]
theorem Hx{σ:Nat→Option Value}{tk:Nat}{v:Value}: ∀{l:List (Option Value)} {τ:Nat},tk<τ→C1 (upd σ tk (some v)) l τ=C1 σ l τ
 | [],_,_=>rfl
 |some k::ks,τ,h=>by
  show(match upd σ tk (some v) τ with|some v=> [(k,v)]|none=> [])++_=_;rw[upd_ne _ _ (show τ≠tk by omega),Hx (by omega)];rfl
 |none::ks,τ,h=>Hx (l:=ks) (by omega)
theorem PX{σ:Nat→Option Value}{tk:Nat}{v:Value}(h0:σ tk=none): ∀{l:List (Option Value)} {τ:Nat} {key:Value},τ≤tk→l[tk-τ]? =some (some key)→(C1 (upd σ tk (some v)) l τ).Perm (C1 σ l τ++ [(key,v)])
 | [],_,_,_,h=>by simp at h
 |x::ks,τ,key,hle,h=>by
  by_cases e:τ=tk
  ·subst e;rw[Nat.sub_self]at h;simp only[CM,AE]at h;subst h;show((match upd σ τ (some v) τ with|some v=> [(key,v)]|none=> [])++C1 (upd σ τ (some v)) ks (τ+1)).Perm (((match σ τ with|some v=> [(key,v)]|none=> [])++C1 σ ks (τ+1))++ [(key,v)]);rw[upd_same,h0,Hx (by omega)];simp only[List.nil_append];exact(List.perm_append_comm (l₁:= [(key,v)]))
  ·have h':ks[tk-(τ+1)]? =some (some key):=by
    rw[show tk-τ=(tk-(τ+1))+1 by omega]at h;simpa using h
   have ih:=PX h0 (v:=v) (l:=ks) (τ:=τ+1) (by omega) h';cases x with
   |none=>exact ih
   |some k =>
    show((match upd σ tk (some v) τ with|some v=> [(k,v)]|none=> [])++C1 (upd σ tk (some v)) ks (τ+1)).Perm (((match σ τ with|some v=> [(k,v)]|none=> [])++C1 σ ks (τ+1))++ [(key,v)]);rw[upd_ne _ _ e,List.append_assoc];exact ih.append_left _
theorem Nu{σ:Nat→Option Value}{tk:Nat}{v:Value}: ∀{l:List (Option Value)} {τ:Nat},τ≤tk→(∀key,l[tk-τ]? ≠some (some key))→C1 (upd σ tk (some v)) l τ=C1 σ l τ
 | [],_,_,_=>rfl
 |x::ks,τ,hle,h=>by
  by_cases e:τ=tk
  ·subst e;have:C1 (upd σ τ (some v)) ks (τ+1)=C1 σ ks (τ+1):=Hx (by omega);cases x with
   |none=>exact this
   |some k =>
    have:=h k;rw[Nat.sub_self]at this;exact absurd rfl this
  ·have ih:=Nu (σ:=σ) (tk:=tk) (v:=v) (l:=ks) (τ:=τ+1) (by omega) fun key hk=>h key (by rw[show tk-τ=(tk-(τ+1))+1 by omega]; simpa using hk);cases x with
   |none=>exact ih
   |some k =>
    show(match upd σ tk (some v) τ with|some v=> [(k,v)]|none=> [])++C1 (upd σ tk (some v)) ks (τ+1)=(match σ τ with|some v=> [(k,v)]|none=> [])++C1 σ ks (τ+1);rw[upd_ne _ _ e,ih]
structure lC(pg:PG)(k:Ih)(kv:KV)(L:List MapEntry)(H:PH)(es2:Array MapEntry):Prop where
 map: ∃clk,H.t.get k.mb=some (.obj (.map es2 clk))
 ptr: ∀e∈es2.toList,Zh e.val=true
 put:(∃key x t own,k.keys[pg.kids.length]? =some (some key)∧es2.toList.map OY=L.map OY++ [(key,kv.v)]∧kv.v= .pointer (some ⟨x,0,none⟩)∧H.t.get x=some (.cells t JO Me 0 own 0 true false))∨
  ((∀key,k.keys[pg.kids.length]? ≠some (some key))∧es2.toList.map OY=L.map OY∧kv.v= .nilFunc)
section
variable{K:Bm}{ty:TypeId}{Post:Value→World→Prop}{pg:PG}{kv:KV}{k:Ih}{n1:Nat}{L:List MapEntry}
variable(hC:An K.C)(Fc:C9 K.C.P K.xl)(D5:C9 K.C.P K.xq)(Bp:K.sz=DL)(Mw:K.lo=BN)
include hC Fc D5 Bp Mw
theorem dP(F:KE K)(vo:US K K.fu){s2:DS}{ZS:PF}(Bg:aN s2=some (K.fu,.pointer (some ⟨k.lb,BN,none⟩),ZS)){es2:Array MapEntry}(BO:lC pg k kv L s2.H es2)
  (hN: ∃n,∀E:Env,W3 pg k kv n1 E→DW K.C.P ty Post false E n ⟨ZS,s2.cs,s2.H.Ho (T.del s2.H.t k.mb),0⟩) :
  ∃n,∀E:Env,W4 pg k kv n1 L E→DW K.C.P ty Post false E n s2:=by
 obtain⟨n0,vV⟩:=hN;obtain⟨nl,hL⟩:=aL hC Fc D5 F ty Post C2 Gm.Hi;refine⟨n0+nl+1,fun E hE ρ c g w hd=> ?_⟩;cases hd with
 |mk hf hc D7 ET hH AO Dx h1 h2 h3 Bv =>
  rename_i fr cs pd pds;rw[hE.base,List.append_nil];obtain⟨fn,f1,f2,f3⟩:=vo.start hC;obtain⟨ir,Dj,JG,Ap,ha,Aq⟩:=Rx hC Bg f1 f2 hf hH;subst Dj;obtain⟨C,φ,sn,B1,B2,EL,es,clk,M⟩:=hE.AL;have bH:c.AL=some ⟨C,⟨.hold,.own E.w0,φ,sn,pg.kids.length⟩⟩:=Bv.AL.trans M.AL;have Kz:Ap= #[.pointer (some ⟨B1.blk,K.lo,none⟩)]:=by
   rw[Mw];exact CE.ZX ha (Bv.Fq _ _ M.lb)
  subst Kz;have hsend:c.send≠none:=by
   obtain⟨b,Ze,ws,_,_,e,_⟩:=hE.send;rw[h1,e]; simp
  refine W.Rw rfl hsend AO fun w₁ r=>⟨_,#[],Aq false cs w₁,rfl,by simp, ?_⟩;have xg:({c with d:=deafBehind c.d #[]}:Ctx)={({c with d:=0,AL:=none}:Ctx)with d:=(K.start K.fu).d,AL:=some ⟨C,⟨.hold,.own E.w0,φ,sn,pg.kids.length⟩⟩}:=by
   have e1:deafBehind c.d #[]=0:=Dx.trans ir;have e2:(K.start K.fu).d=0:=K.ZH K.fu;rw[e1,e2];obtain⟨cM,cR,cd,cs',cdec,cg,cmt⟩:=c;simp only at bH;subst bH;rfl
  rw[xg];have DN:=hH.rely r;have BY:=AO.rely r;have Bi:=Bv.rely r;have Yh:w₁.shape? B1.blk=some (C2,K.sz):=by rw[Bp]; exact(Bi.shape _ (Ai M.sl)).trans M.sl
  have J2:=Bi.Fq _ _ M.mb;obtain⟨fe,WL⟩:=BO.map;obtain⟨v',UX,Zk⟩: ∃v',VR ρ kv.v v'∧∀key,k.keys[pg.kids.length]? =some (some key)→∃b,v'= .pointer (some ⟨b,0,none⟩)∧w₁.shape? b=some (Me,JO):=by
   rcases BO.put with⟨key,x,t,own,q1,q2,q3,q4⟩|⟨q1,_,q3⟩
   ·obtain⟨L1,p1,p2⟩: ∃L1,True∧I9 ρ es2.toList L1:=by
     have hr:=DN.rel _ _ _ J2 WL;cases hr with
     |obj hw ho hM =>
      cases ho with
      |map _ _ hk =>
       obtain⟨L1,_,hE1⟩:=hk;exact⟨_,trivial,I9.of hE1⟩
    have vZ: ∃v',VR ρ kv.v v':=by
     have: ∀{l:List MapEntry} {m:List (Value×Value)},I9 ρ l m→∀e∈l,∃v',VR ρ e.val v':=by
      intro l m h;induction h with
      |nil=>intro e he; cases he
      |cons h _ ih =>
       intro e he;rcases AZ.1 he with rfl|he
       ·exact⟨_,h⟩
       ·exact ih e he
     have DJ:(key,kv.v)∈es2.toList.map OY:=by rw[q2]; simp
     obtain⟨e,he,ee⟩:=Bd.1 DJ;obtain⟨v',hv⟩:=this p2 e he;have:e.val=kv.v:=congrArg Prod.snd ee;rw[this]at hv;exact⟨v',hv⟩
    obtain⟨v',hv⟩:=vZ;refine⟨v',hv,fun key' _=> ?_⟩;rw[q3]at hv;cases hv with
    |ptr hB =>
     rename_i B;have hr:=DN.rel x B _ hB q4;cases hr with
     |cells hs he Fx hle Ax hR Tk=>exact⟨B.blk,rfl,by rw[hs,Fx rfl]⟩
   ·exact⟨.nilFunc,by rw[q3]; exact .nilFunc,fun key Yp=>absurd Yp (q1 key)⟩
  have hcP: ∀b,C.P b→c.M b:=fun b hb=>by
   have:=(M.P b).1 hb;subst this;have hr:=DN.rel _ _ _ J2 WL;cases hr with
   |obj hw ho hM=>exact hM
  refine hL {c with d:=0,AL:=none} C pg.kids.length B1 fr cs φ sn E.w0 v' _ w₁ n0 M.clb (M.clo.trans Mw.symm) ⟨M.fu,M.fu⟩ hsend (BY.ctx rfl rfl) Yh (f3 B1 fr cs) hcP ?_ ?_
  ·intro w₂ r₂ σ fC hσ;have r2:AS c w₁ w₂:=CU r₂ rfl rfl;have fD:=DN.rely r2;have GN:=Bi.rely r2;rw[M.J]at fC ⊢;obtain⟨⟨es',wo,Zn,J3⟩,dt⟩:=fC;rw[M.map]at Zn;cases Zn;have hr:=fD.rel _ _ _ J2 WL;cases hr with
   |obj hw ho rV =>
    cases ho with
    |map _ clkr Yp =>
     rename_i esr;obtain⟨L1,p1,hE1⟩:=Yp;obtain⟨L0,p0,hE0⟩:=M.en;have k1:=I9.of hE1;have k0:I9 ρ L (L0.map OY):=(I9.of hE0).mono GN.Fq;refine⟨⟨esr,clkr,hw, ?_⟩,fun τ key v vc hτ=> ?_⟩
     ·have a1:(esr.toList.map OY).Perm (L1.map OY):=p1.map OY;have a0:(es.toList.map OY).Perm (L0.map OY):=p0.map OY;rcases BO.put with⟨key,x,t,own,q1,q2,q3,q4⟩|⟨q1,q2,q3⟩
      ·have kk:I9 ρ (L++ [⟨key,kv.v,0⟩]) (L0.map OY++ [(key,v')]):=k0.app (.cons (e:=⟨key,kv.v,0⟩) UX .nil);have e:=I9.uniq BO.ptr (l':=L++ [⟨key,kv.v,0⟩]) (by rw[q2,List.map_append]; rfl) k1 kk;rw[e]at a1;refine a1.trans ?_;have b1:=PX (v:=v') hσ (l:=k.keys) (τ:=0) (Nat.zero_le _) (by rw[Nat.sub_zero]; exact q1);refine List.Perm.trans ?_ (List.Perm.append_left _ b1.symm);rw[← List.append_assoc];exact(a0.symm.trans J3).append_right _
      ·have e:=I9.uniq BO.ptr (l':=L) q2 k1 k0;rw[e]at a1;rw[Nu (Nat.zero_le _) (by rw[Nat.sub_zero]; exact q1)];exact a1.trans (a0.symm.trans J3)
     ·by_cases et:τ=pg.kids.length
      ·subst et;rw[upd_same]at hτ;cases hτ;obtain⟨b,e1,e2⟩:=Zk key vc;exact⟨b,e1,(r2.shape _ (Ai e2)).trans e2⟩
      ·rw[upd_ne _ _ et]at hτ;obtain⟨b,e1,e2⟩:=dt τ key v vc hτ;exact⟨b,e1,(GN.shape _ (Ai e2)).trans e2⟩
  ·intro w₂ φ' Z5 r₂
   let c2:Ctx:={({({c with d:=0,AL:=none}:Ctx)with M:=fun b=>c.M b∧¬C.P b}:Ctx)with d:=0,AL:=some ⟨C,⟨.fin,.put v',φ',Z5,pg.kids.length⟩⟩}
   have r2:AS c2 w₁ w₂:=CU r₂ rfl rfl;have WN:=HR.oQ DN (xs:= [k.mb]) (t':=T.del s2.H.t k.mb) (fun y=>by rw[T.Ds]; simp) (fun x hx=>by
    have:=B3.1 hx;subst this;exact⟨_,WL,rfl,rfl⟩) (M':=fun b=>c.M b∧¬C.P b) (fun b hb hx=>⟨hb,fun hp=>hx k.mb (.head _) B2 J2 ((M.P b).1 hp).symm⟩)
   have fD:HR ρ (s2.H.Ho (T.del s2.H.t k.mb)) c2 w₂:=(WN.ctx (c':=c2) rfl rfl).rely r2;have FA:CK c2 w₂:=(CK.mk (c:=c2) (w:=w₁) (fun b hb=>BY.ml b hb.1) BY.rl fun a ha hb=>BY.rm a ha hb.1).rely r2
   let E':Env:=E.here ρ c2 w₂
   have hE':W3 pg k kv n1 E':=by
    refine⟨rfl,hE.AP, ?_,rfl, ?_,C,φ',Z5,B1,v',rfl,Bi.Fq _ _ M.lb,M.clb, ?_,UX⟩
    ·obtain⟨b,Ze,ws,q1,q2,q3,q4,q5⟩:=hE.send;have haS:E.aS=E.w0.heap.size:=by unfold Env.aS; rw[hE.aW]
     have vW:B2.blk<w₁.heap.size:=(DN.Dk _ _ J2).2;have hmsh:w₁.shape? B2.blk=none:=by
      cases DN.rel _ _ _ J2 WL with
      |obj hw aU _=>exact LF hw (OR.Dr aU)
     have q6: ∀b,E.aM b→ws≤b∨b=B2.blk:=fun b hb=>(q5 b hb).imp id fun⟨B',h1,h2⟩=>by
      have:=Bi.Fq _ _ h1;rw[J2]at this; cases this;exact h2
     refine⟨b,Ze,ws,q1.trans Bi.Fq,A1 q2 (A1 Bi.size r2.size),q3,q4,fun x B hx hn=> ?_,fun b hb=> ?_⟩
     ·rcases Bi.al.al x B hx with⟨y,B',hy,e,EW⟩|h
      ·rcases EW with rfl|EW
       ·have:=hE.names _ _ hy;omega
       ·rcases q6 _ EW with h|h
        ·exact .inl h
        ·exact .inr (by
          show w₂.shape? B.blk=none∧B.blk<w₂.heap.size;rw[h];exact⟨(r2.shape _ vW).trans hmsh,AV vW r2.size⟩)
      ·exact .inl (by omega)
     ·have hb:c.M b∧¬C.P b:=hb;rcases Bi.al.am b hb.1 with h|h
      ·rcases q6 b h with h|h
       ·exact h
       ·exact absurd ((M.P b).2 (by
         rw[h])) hb.2
      ·omega
    ·obtain⟨a,φ,B,q1,q2,q3⟩:=hE.dec;exact⟨a,φ,B,q1,Bi.Fq _ _ q2,q3⟩
    ·show w₂.shape? B1.blk=_;have hs:=(r2.shape _ (Ai Yh)).trans Yh;rw[Bp]at hs;exact hs
   refine vV E' hE' ρ c2 _ w₂ ?_;have Mv:(s2.H.Ho (T.del s2.H.t k.mb)).next=s2.H.next:=by cases s2.H; rfl
   have:=DR.mk (E:=E') (s:=⟨ZS,s2.cs,s2.H.Ho (T.del s2.H.t k.mb),0⟩) (c:=c2) (cs:=cs) (JG ρ (Ah.le.refl _)) hc (by simpa using D7) (fun b hb=>by
    obtain⟨z1,z2⟩:=ET b (by simpa using hb);exact⟨z1,by show b<(s2.H.Ho (T.del s2.H.t k.mb)).next; rw[Mv]; exact z2⟩) fD FA rfl h1 h2 h3 Kept.here
   have gW:cs++E'.base=cs:=List.append_nil cs;rw[gW]at this;exact this
end
end Go.Gd
namespace Go.Gd
open Go Go.Gw Go.Conc
open Go.Gm (Bo Ct LP MW Ow)
open Go.ConcR (KK wgBlock WgAt stA smA)
def bp(t0 t:T Value)(n:Nat):Bool :=
 Nat.rec (motive:=fun _=>Bool) true (fun k ih=>(match t0.get k with
  |some v0=>match t.get k with
   |some v=>Rk 8 v0 v
   |none=>false
  |none=>false)&&ih) n
theorem Rp{t0 t:T Value}: ∀{n:Nat},bp t0 t n=true→∀k,k<n→∃v,t0.get k=some v∧t.get k=some v
 |0,_,k,hk=>by omega
 |n+1,h,k,hk=>by
  unfold bp at h;simp only[AF]at h;by_cases e:k=n
  ·subst e;have h:=h.1;split at h
   ·rename_i v0 e0;split at h
    ·rename_i v e1;have:=HP 8 _ _ h;subst this;exact⟨_,e0,e1⟩
    ·cases h
   ·cases h
  ·exact Rp h.2 k (by omega)
def dH(n1:Nat)(H:PH)(q:Nat×AI):Bool:=Nat.ble n1 q.1&&(match q.2 with
 | .cells t0 size elem es _ _ _ _=>match H.t.get q.1 with
  |some (.cells t PQ OB es' own _ true _)=>Nat.beq size PQ&&(Nat.beq elem OB&&(Nat.beq es es'&&(!Nat.beq elem C2&&(bp t0 t size&&(own||Nat.blt 0 size)))))
  |_=>false
 |_=>false)
structure lD(n1:Nat)(H:PH)(q:Nat×AI):Prop where
 ge:n1≤q.1
 ob: ∃t0 t size elem es hQ jD xL iP own fam D4,q.2= .cells t0 size elem es hQ jD xL iP∧H.t.get q.1=some (.cells t size elem es own fam true D4)∧elem≠C2∧(∀k,k<size→∃v,t0.get k=some v∧t.get k=some v)∧(own=true∨0<size)
theorem YS{n1:Nat}{H:PH}{q:Nat×AI}(h:dH n1 H q=true):lD n1 H q:=by
 obtain⟨x,o⟩:=q;unfold dH at h;rw[AF]at h;refine⟨AH h.1, ?_⟩;have h:=h.2;split at h
 ·rename_i t0 size elem es hQ jD xL iP eo;split at h
  ·rename_i t PQ OB es' own fam D4 e1;simp only[AF,DX,BI]at h;obtain⟨h1,h2,h3,h4,h5,h6⟩:=h;have h1:=AJ h1;have h2:=AJ h2;have h3:=AJ h3;subst h1 h2 h3;exact⟨t0,t,size,elem,es,hQ,jD,xL,iP,own,fam,D4,eo,e1,GK h4,Rp h5,h6.imp id fun h=>AH h⟩
  ·cases h
 ·cases h
section
variable{P:Program}{E7:DD}{ty:TypeId}{Post:Value→World→Prop}{pg:PG}{kv:KV}{k:Ih}{n1:Nat}
theorem aK{xs:T XK}(Au:C9 P xs){s4:DS}{put:Value→Option PF}{a:Nat}{φ:Lz}{t:List Value}(Bg:Kd xs s4 .Dw (.pointer (some ⟨a,0,none⟩)::t) put)(hd:s4.d=0){BU:PF}(hp:put undef=some BU)(NN:(s4.cs.all fun pf=>At pf.todo)=true)(Az:pg.wg=some (a,φ))
  (eH: ∀q∈kv.news,lD n1 s4.H q) (JH: ∀ρ c w,HR ρ s4.H c w→∀v',VR ρ kv.v v'→∀q∈kv.news,∃B,ρ q.1=some B)
  (Ew: ∃t es own ok D4,s4.H.t.get a=some (.cells t 2 ty es own 0 ok D4)) (hq:Nh P ty Post a .cnt ⟨BU,s4.cs,⟨0,.nil,0,.nil⟩,0⟩) :
  ∃n,∀E:Env,W3 pg k kv n1 E→DW P ty Post false E n s4:=by
 obtain⟨n,hn⟩:=hq;obtain⟨ta,esa,owna,oka,icea,Ew⟩:=Ew;refine⟨n+1,fun E hE ρ c g w Oz=> ?_⟩;cases Oz with
 |mk hf hc D7 ET hH AO Dx h1 h2 h3 Bv =>
  rename_i fr cs pd pds;rw[hE.base,List.append_nil];have nX:=hc.Xh NN;subst nX;obtain⟨C,φm,sn,B1,v,em,elb,oh,Lt,ev⟩:=hE.AL;obtain⟨ch,Ze,ws,q1,q2,q3,q4,q5,q6⟩:=hE.send;obtain⟨a',φ',Ba,d1,d2,d3⟩:=hE.dec;rw[Az]at d1;cases d1;have xi:=Bv.Fq _ _ d2;obtain⟨f,Ap,Dj,hx,BO,Bh,_⟩:=Bg.step Au hf (fun o A9=>CJ.of A9 hH o);subst Dj;obtain⟨t',rfl,ht⟩:=NZ xi hx;have bH:c.AL=some ⟨C,⟨.fin,.put v,φm,sn,pg.kids.length⟩⟩:=Bv.AL.trans em;refine W.P8 (x:=⟨C,⟨.fin,.put v,φm,sn,pg.kids.length⟩⟩) (v:=v) (ch:=ch) (a:=Ba.blk) (sp:=KW Ze ws kv) (fun w₁=>{g:=G (fr.finish undef) cs,w:=w₁,es:= #[⟨.mark (.releaseMerge ⟨Ba.blk,0,none⟩),false,true⟩],R:=fun y=>y.block<w₁.heap.size∧y.block≠C.lb∧(c.R y∨c.M y.block)}) rfl bH (Dx.trans hd) rfl rfl (h1.trans q3) (h2.trans d3) (h3.trans hE.AP) (fun w₁ r=>⟨Bh false cs w₁ undef w₁ #[⟨.mark (.releaseMerge ⟨Ba.blk,0,none⟩),false,true⟩] rfl (by simp),rfl, ?_, ?_,fun y hy=>hy⟩) fun w₁ r=> ?_
  ·show Array.map MemAct.ofEvent #[⟨.mark (.releaseMerge ⟨Ba.blk,0,none⟩),false,true⟩]= #[.mark (.releaseMerge (stA Ba.blk))];simp[MemAct.ofEvent,stA]
  ·have DN:=hH.rely r;have Ly:=Bv.rely r;have xV:VR ρ kv.v v:=ev.mono Ly.Fq;refine⟨ρ,fun z hz=> ?_,xV,fun q hq=> ?_⟩
   ·obtain⟨B,hB⟩:=q4 z hz;exact⟨B,hB,Ly.Fq _ _ (q1 _ _ hB)⟩
   ·obtain⟨gT,t0,tc,size,elem,es,hQ,jD,xL,iP,own,fam,D4,eo,hg,BK,eA,Bp⟩:=eH q hq;obtain⟨B,hB⟩:=JH ρ c w₁ DN _ xV q hq;have Mx:=DN.rel _ _ _ hB hg;have haS:E.aS=E.w0.heap.size:=by unfold Env.aS; rw[hE.aW]
    refine⟨B,hB, ?_, ?_⟩
    ·rcases Ly.al.al _ _ hB with⟨z,B',hz,RR,EW⟩|h
     ·rcases EW with rfl|EW
      ·rcases q5 _ B' hz gT with h|⟨h1,h2⟩
       ·rw[← RR]; exact h
       ·rw[RR]at h1 h2;cases Mx with
        |cells hs he gU hle Ax hR Tk =>
         have:=Ly.shape _ h2;rw[h1,hs]at this;cases this
      ·exact q6 _ EW
     ·omega
    ·rw[eo];cases Mx with
     |cells hs he gU hle Ax hR Tk =>
      have QS: ∀j,j<size→∃v1 v2,tc.get j=some v1∧w₁.cell? ⟨B.blk,j,none⟩=some v2∧VR ρ v1 v2:=fun j hj=>by
       rcases Tk rfl j hj with⟨_,_,h⟩|h
       ·obtain⟨u,_,u2⟩:=eA j hj;rw[u2]at h; cases h
       ·exact h
      have hRM: ∀j,j<size→c.R ⟨B.blk,j,none⟩∨c.M B.blk:=fun j hj=>by
       cases own with
       |true=>exact .inr (Ax rfl).1
       |false =>
        rcases hR rfl rfl j hj with h|h
        ·obtain⟨u,_,u2⟩:=eA j hj;rw[u2]at h; cases h
        ·exact .inl h
      have hRM0:c.R ⟨B.blk,0,none⟩∨c.M B.blk:=by
       rcases Bp with h|h
       ·exact .inr (Ax h).1
       ·exact hRM 0 h
      have Ac:B.blk<w₁.heap.size:=(DN.Dk _ _ hB).2;have Tl:B.blk≠C.lb:=fun e=>by
       have:w₁.shape? C.lb=some (C2,DL):=by
        rw[oh];exact(Ly.shape _ (Ai Lt)).trans Lt
       rw[← e,hs]at this;simp only[AE,AR]at this;exact BK this.1
      refine⟨hs,he,hle,⟨Ac,Tl,hRM0⟩,fun j hj=>⟨⟨Ac,Tl,hRM j hj⟩, ?_⟩⟩;obtain⟨u,u1,u2⟩:=eA j hj;obtain⟨v1,v2,g1,g2,g3⟩:=QS j hj;rw[u2]at g1;cases g1;exact⟨_,_,u1,g2,g3⟩
  ·have DN:=hH.rely r;have Mx:=DN.rel _ _ _ xi Ew;refine hn ρ _ _ w₁ rfl ⟨h3.trans hE.AP,rfl⟩ ⟨Ba,xi,h2.trans d3,(DN.Dk _ _ xi).2, ?_⟩ (Dx.trans hd) ⟨_,_,rfl,BO _ _ _ hp (.tuple .nil),hc⟩;cases Mx with
   |cells hs he gU hle Ax hR Tk=>rw[hs,gU rfl]
end
def Zd(l:List MapEntry):List MapEntry→Bool :=
 List.rec (motive:=fun _=>List MapEntry→Bool) (fun l'=>match l' with| []=>true|_=>false) (fun e _ ih l'=>match l' with
  |e'::m=>Rk 8 e.key e'.key&&(Rk 8 e.val e'.val&&ih m)
  | []=>false) l
theorem QF: ∀{l l':List MapEntry},Zd l l'=true→l.map OY=l'.map OY
 | [],[],_=>rfl
 | [],_::_,h=>by cases h
 |_::_,[],h=>by cases h
 |e::l,e'::m,h=>by
  have h:(Rk 8 e.key e'.key&&(Rk 8 e.val e'.val&&Zd l m))=true:=h;simp only[AF]at h;obtain⟨h1,h2,h3⟩:=h;simp only[Du,OY,HP 8 _ _ h1,HP 8 _ _ h2];rw[QF h3]
def lg(tk:Nat)(k:Ih)(v:Value)(L:List MapEntry)(H:PH)(es2:List MapEntry):Bool :=
 (es2.all fun e=>Zh e.val)&&(match k.keys[tk]? with
  |some (some key)=>Zd es2 (L++ [⟨key,v,0⟩])&&(match v with
   | .pointer (some ⟨x,o,none⟩)=>Nat.beq o 0&&(match H.t.get x with
    |some (.cells _ sz el es _ fam true false)=>Nat.beq sz JO&&(Nat.beq el Me&&(Nat.beq es 0&&Nat.beq fam 0))
    |_=>false)
   |_=>false)
  |_=>Zd es2 L&&(match v with| .nilFunc=>true|_=>false))
theorem aC{pg:PG}{k:Ih}{kv:KV}{L:List MapEntry}{H:PH}{es2:Array MapEntry}{clk:Nat}(hm:H.t.get k.mb=some (.obj (.map es2 clk)))(h:lg pg.kids.length k kv.v L H es2.toList=true):lC pg k kv L H es2:=by
 unfold lg at h;rw[AF]at h;obtain⟨h1,h2⟩:=h;refine⟨⟨clk,hm⟩,fun e he=>AX.1 h1 e he, ?_⟩;split at h2
 ·rename_i key ek;rw[AF]at h2;obtain⟨h2,h3⟩:=h2;have h2:=QF h2;rw[List.map_append]at h2;split at h3
  ·rename_i x o ev;rw[AF]at h3;obtain⟨h3,h4⟩:=h3;have h3:=AJ h3;subst h3;split at h4
   ·rename_i t sz el es own fam eo;simp only[AF]at h4;obtain⟨g1,g2,g3,g4⟩:=h4;rw[AJ g1,AJ g2,AJ g3,AJ g4]at eo;exact .inl ⟨key,x,t,own,ek,by rw[h2]; rfl,ev,eo⟩
   ·cases h4
  ·cases h3
 ·rename_i BK;rw[AF]at h2;obtain⟨h2,h3⟩:=h2;refine .inr ⟨fun key e=>BK key e,QF h2, ?_⟩;split at h3
  ·rename_i e; exact e
  ·cases h3
def fA(C:CB)(xs:T XK)(ty j:Nat)(pg:PG)(kv:KV)(n1:Nat)(s:DS):Bool :=
 match s with
 |⟨fr,cs,H,d⟩=>Nat.beq d 0&&((cs.all fun pf=>At pf.todo)&&(match pg.wg with
  |some (a,_)=>Nat.blt a (2^T.deep)&&((match I7 xs ⟨fr,cs,H,d⟩with
   |some (.Dw,p::_)=>XH a 0 p
   |_=>false)&&((match H.t.get a with
   |some (.cells _ 2 x9 _ _ 0 _ _)=>Nat.beq x9 ty
   |_=>false)&&(kv.news.all (dH n1 H)&&((match EO H (DK 6 kv.v)with
    |L=>kv.news.all fun q=>L.any (Nat.beq q.1))&&(match IF ⟨fr,cs,H,d⟩ undef with
    |some pf=>q0 C xs a j ⟨pf,cs,⟨0,.nil,0,.nil⟩,0⟩
    |none=>false)))))
  |none=>false))
section
variable{K:Bm}{xs:T XK}{ks:T (List AM)}{ty:TypeId}{Post:Value→World→Prop}{pg:PG}{kv:KV}{k:Ih}{n1:Nat}
theorem Yt{C:CB}(hC:An C)(Au:C9 C.P xs){j:Nat}{s:DS}(h:fA C xs ty j pg kv n1 s=true):pg.wg≠none∧∃n,∀E:Env,W3 pg k kv n1 E→DW C.P ty Post false E n s:=by
 obtain⟨fr,cs,H,d⟩:=s;unfold fA at h;simp only[AF]at h;obtain⟨hd,NN,h⟩:=h;have hd:=AJ hd;subst hd;split at h
 ·rename_i a φ Az;simp only[AF]at h;obtain⟨ha,h1,h2,h3,h4,h5⟩:=h;refine⟨by rw[Az]; simp, ?_⟩;split at h1
  ·rename_i p t e1;have:=Dg h1;subst this;split at h5
   ·rename_i pf ep;refine aK Au (DI e1) rfl ep NN Az (fun q hq=>YS (AX.1 h3 q hq)) (fun ρ c w hH v' hv q hq=> ?_) ?_ (Uy hC Au (AH ha) h5)
    ·obtain⟨z,z1,z2⟩:=Cp.1 (AX.1 h4 q hq);rw[AJ z2];exact GF hH IJ _ _ _ (Ej 6 hv) (fun x hx=>by cases hx) z z1
    ·split at h2
     ·rename_i eg;rw[AJ h2]at eg;exact⟨_,_,_,_,_,eg⟩
     ·cases h2
   ·cases h5
  ·cases h1
 ·cases h
def jO(g:FuncId)(k:Ih)(s:DS):Option PF:=match aN s with
 |some (g',v,pf)=>cond (Nat.beq g' g&&XH k.lb BN v) (some pf) none
 |none=>none
theorem SE{g:FuncId}{k:Ih}{s:DS}{pf:PF}(h:jO g k s=some pf):aN s=some (g,.pointer (some ⟨k.lb,BN,none⟩),pf):=by
 unfold jO at h;split at h
 ·rename_i g' v BU e;obtain⟨h1,h2⟩:=Ay h;cases h2;rw[AF]at h1;rw[e,AJ h1.1,Dg h1.2]
 ·cases h
def lZ(tk:Nat)(k:Ih)(es2:List MapEntry):Value:=match k.keys[tk]? with
 |some (some _)=>match es2.getLast? with
  |some e=>e.val
  |none=> .nilFunc
 |_=> .nilFunc
def YV{α:Type}(K:Bm)(xs:T XK)(ks:T (List AM))(j:Nat)(k:Ih)(no:α)(f:PH→List MapEntry→DS→α)(s:DS):α :=
 match Hb K.C xs ks j s with
 |⟨fr,cs,H,d⟩=>match jO K.fu k ⟨fr,cs,H,d⟩with
  |some ZS=>match H.t.get k.mb with
   |some (.obj (.map es2 _))=>match Hb K.C xs ks j ⟨ZS,cs,H.Ho (T.del H.t k.mb),0⟩with
    |⟨fr4,cs4,H4,d4⟩=>f H es2.toList ⟨fr4,cs4,H4,d4⟩
   |_=>no
  |none=>no
def dU(K:Bm)(xs:T XK)(ks:T (List AM))(j tk n1:Nat)(k:Ih)(s:DS):KV :=
 YV K xs ks j k ⟨0,0,.nilFunc,[],[]⟩ (fun _ es2 s4=>match s4 with|⟨_,_,H4,_⟩=>RP (fun x=>Nat.blt x n1) n1 H4 (lZ tk k es2)) s
def dR(K:Bm)(xs:T XK)(ks:T (List AM))(ty j:Nat)(pg:PG)(n1:Nat)(k:Ih)(kv:KV)(L:List MapEntry)(s:DS):Bool :=
 YV K xs ks j k false (fun H es2 s4=>lg pg.kids.length k kv.v L H es2&&fA K.C xs ty j pg kv n1 s4) s
def TQ(K:Bm)(xs:T XK)(ks:T (List AM))(ty j:Nat)(pg:PG)(k:Ih)(s0:DS):Option KV :=
 match Hb K.C xs ks j s0 with
 |⟨fr,cs,H,d⟩=>match jO K.fl k ⟨fr,cs,H,d⟩with
  |some VD=>match H.next+k.keys.length with
   |n1=>match Vx pg.kids.length k.keys 0 with
    | []=>none
    |m0::ms=>match dU K xs ks j pg.kids.length n1 k ⟨VD,cs,JY k H m0,0⟩with
     |kv=>cond (H.t.ar ZZ&&(Nat.ble n1 (2^T.deep)&&(Nat.beq k.lo BN&&(m0::ms).all fun m=>dR K xs ks ty j pg n1 k kv (k.base++JE H.next k.keys m 0) ⟨VD,cs,JY k H m,0⟩))) (some kv) none
  |none=>none
theorem RK(hC:An K.C)(Fc:C9 K.C.P K.xl)(D5:C9 K.C.P K.xq)(Bp:K.sz=DL)(Mw:K.lo=BN)(F:Mp K)(FU:KE K)(Ki: ∀f S,K.xl.get f=some (.Cn S)→(K.C.P.funcs[f]?).any (·.norace)=true)(XD:US K K.fl)(vo:US K K.fu)
  (Au:C9 K.C.P xs) (Fw:Ez K.C ty Post false ks) {j:Nat} {p:Nat→Bool} {s0:DS} (hk:pg.AY=some k) (h:TQ K xs ks ty j pg k s0=some kv):JA K.C.P ty Post p pg kv s0:=by
 have reach: ∀s,Cm K.C.P ty Post false s (Hb K.C xs ks j s):=fun s=>FX (E:=JB) hC Au Fw E8 j s;obtain⟨k0,ij⟩:=reach s0;unfold TQ at h;generalize Hb K.C xs ks j s0=s1 at h ij;obtain⟨fr,cs,H,d⟩:=s1;simp only at h;split at h
 ·rename_i VD e1;split at h
  ·cases h
  ·rename_i m0 ms em;obtain⟨hb,bF⟩:=Ay h;generalize dU K xs ks j pg.kids.length (H.next+k.keys.length) k ⟨VD,cs,JY k H m0,0⟩=kv' at hb bF;cases bF;simp only[AF]at hb;obtain⟨b1,b2,b3,b4⟩:=hb;have one: ∀m∈Vx pg.kids.length k.keys 0,pg.wg≠none∧∃n,∀E:Env,W4 pg k kv (H.next+k.keys.length) (k.base++JE H.next k.keys m 0) E→DW K.C.P ty Post false E n ⟨VD,cs,JY k H m,0⟩:=by
    intro m hm;rw[em]at hm;have XB:=AX.1 b4 m hm;obtain⟨k2,NL⟩:=reach ⟨VD,cs,JY k H m,0⟩;unfold dR YV at XB;generalize Hb K.C xs ks j ⟨VD,cs,JY k H m,0⟩=s2 at XB NL;obtain⟨fr2,cs2,H2,d2⟩:=s2;simp only at XB;split at XB
    ·rename_i ZS e2;split at XB
     ·rename_i es2 fe eg;obtain⟨k4,hk4⟩:=reach ⟨ZS,cs2,H2.Ho (T.del H2.t k.mb),0⟩;generalize Hb K.C xs ks j ⟨ZS,cs2,H2.Ho (T.del H2.t k.mb),0⟩=s4 at XB hk4;obtain⟨fr4,cs4,H4,d4⟩:=s4;simp only at XB;rw[AF]at XB;obtain⟨o1,o2⟩:=XB;obtain⟨hw,n4,hn4⟩:=Yt (k:=k) (Post:=Post) hC Au o2;refine⟨hw, ?_⟩;have hs: ∀{E:Env},W3 pg k kv (H.next+k.keys.length) E→E.send≠none∧jX false E:=fun {E} hE=>by
       obtain⟨b,Ze,ws,_,_,e,_⟩:=hE.send;obtain⟨C,φm,sn,B1,v,em,elb,oh,Lt,ev⟩:=hE.AL;exact⟨by rw[e]; simp,hE.AP,fun x hx=>⟨rfl,DL,by rw[em]at hx; cases hx; rw[oh]; exact Lt⟩⟩
      obtain⟨n3,hn3⟩:=dP (n1:=H.next+k.keys.length) (kv:=kv) hC Fc D5 Bp Mw FU vo (SE e2) (aC eg o1) ⟨n4+k4,fun E hE=>hk4 E (.inr (hs hE).1) (hs hE).2 n4 (hn4 E hE)⟩;refine⟨n3+k2,fun E hE=>NL E (.inr ?_) ⟨hE.AP,fun x hx=>⟨rfl,DL, ?_⟩⟩ n3 (hn3 E hE)⟩
      ·obtain⟨b,Ze,ws,_,_,e,_⟩:=hE.send;rw[e]; simp
      ·obtain⟨C,φ,sn,B1,B2,EL,es,clk,M⟩:=hE.AL;rw[M.AL]at hx;cases hx;rw[M.clb]; exact M.sl
     ·cases XB
    ·cases XB
   have Az:pg.wg≠none:=(one m0 (by rw[em]; exact .head _)).1;obtain⟨n1,rP⟩:=dQ (p:=p) (s1:=⟨fr,cs,H,d⟩) hC Fc D5 Bp Mw F Ki XD hk (AJ b3) Az (SE e1) b1 (AH b2) fun m hm=>(one m hm).2;refine⟨n1+k0,fun E hE=>ij E (.inr ?_) hE.wU n1 (rP E hE)⟩;obtain⟨b,ws,_,_,e⟩:=hE.send;rw[e]; simp
 ·cases h
end
end Go.Gd
namespace Go.Gd
open Go Go.Gw Go.Conc
open Go.Gm (Bo Ct LP MW Ow Bz Am)
open Go.ConcR (KK wgBlock WgAt stA smA)
section
variable{ρ:Ah}{H:PH}{c c':Ctx}{w:World}
theorem BR.Vw{B:RB}{o:AI}(h:BR ρ c w B o)(hM:c'.M=c.M)(hR: ∀a,c.R a→c'.R a):BR ρ c' w B o:=by
 cases h with
 |cells hs he hf hle Ax gX AO=>exact .cells hs he hf hle (fun e=>⟨by rw[hM]; exact(Ax e).1,(Ax e).2⟩) (fun e e' k hk=>(gX e e' k hk).imp id (hR _)) AO
 |obj hw ho rV=>exact .obj hw ho (by rw[hM]; exact rV)
theorem HR.Vw(h:HR ρ H c w)(hM:c'.M=c.M)(hR: ∀a,c.R a→c'.R a):HR ρ H c' w:=⟨h.cap,h.Dk,fun b B o hb ho=>(h.rel b B o hb ho).Vw hM hR,h.inj,h.EK,h.mem⟩
theorem HR.Wz(h:HR ρ H c w){y:Nat}{B:RB}(hy:ρ y=some B)(hn:H.t.get y=none){o:AI}(hm:o.mine=false)(rT:o.fam=0)(hr:BR ρ c w B o){t':T AI}(ht: ∀x,t'.get x=if x=y then some o else H.t.get x):HR ρ (H.Ho t') c w:=by
 obtain⟨nx,t,ng,BF⟩:=H;refine⟨h.cap,h.Dk,fun x X o' hx ho=> ?_,fun x x' X X' e1 e2 BK Bn=> ?_,h.EK,fun x X o' hx ho hf hk=> ?_⟩
 ·have ho:t'.get x=some o':=ho;rw[ht]at ho;by_cases e:x=y
  ·rw[AD e]at ho; cases ho;rw[e,hy]at hx; cases hx;exact hr
  ·rw[AA e]at ho;exact h.rel x X o' hx ho
 ·rcases h.inj x x' X X' e1 e2 BK Bn with⟨o1,o2,p1,p2,p3,p4⟩|⟨q1,q2⟩
  ·have bA: ∀{z:Nat} {o:AI},t.get z=some o→z≠y:=fun hz e=>by
    have hn:t.get y=none:=hn;rw[e,hn]at hz; cases hz
   exact .inl ⟨o1,o2,(ht x).trans ((AA (bA p1)).trans p1),(ht x').trans ((AA (bA p2)).trans p2),p3,p4⟩
  ·have st: ∀{z:Nat},PH.still ⟨nx,t,ng,BF⟩ z→∀o,t'.get z=some o→o.mine=false:=fun {z} hz o' ho=>by
    rw[ht]at ho;by_cases e:z=y
    ·rw[AD e]at ho; cases ho; exact hm
    ·rw[AA e]at ho; exact hz o' ho
   exact .inr ⟨st q1,st q2⟩
 ·have ho:t'.get x=some o':=ho;rw[ht]at ho;by_cases e:x=y
  ·rw[AD e]at ho; cases ho;exact absurd rT hf
  ·rw[AA e]at ho;exact h.mem x X o' hx ho hf hk
theorem HR.sN(h:HR ρ H c w){y:Nat}{B:RB}{o:AI}(hy:ρ y=some B)(ho:H.t.get y=some o)(hm:o.mine=true)(hf:o.fam=0): ∀x X,ρ x=some X→X.blk=B.blk→x=y:=fun x X hx e=>by
 refine Classical.byContradiction fun BK=> ?_;rcases h.inj x y X B hx hy BK e with⟨o1,o2,p1,p2,p3,p4⟩|⟨_,q⟩
 ·rw[ho]at p2; cases p2;rw[p4]at p3;exact p3 hf
 ·have:=q _ ho;rw[hm]at this; cases this
end
def ma(lb mb:Nat)(EL:List MapEntry)(keys:List (Option Value))(h:lb≠mb):Bo where
 lb:=lb
 lo:=BN
 P:=fun b=>b=mb
 J:=Wq mb EL keys
 keep:=fun σ w w' hP hs hJ=>by
  obtain⟨⟨es,clk,h1,h2⟩,h3⟩:=hJ;exact⟨⟨es,clk,(hP mb rfl).trans h1,h2⟩,fun τ k v a b=>let⟨x,e,s⟩:=h3 τ k v a b; ⟨x,e,hs _ _ s⟩⟩
 tj:=h
def fY(t:T Value):T Value:=T.del (T.del t BN) (BN+1)
theorem Wo(t:T Value)(k:Nat):(fY t).get k=if k=BN∨k=BN+1 then none else t.get k:=by
 unfold fY;rw[T.Ds,T.Ds];by_cases h1:k=BN+1
 ·rw[AD h1,AD (.inr h1)]
 ·rw[AA h1];by_cases h2:k=BN
  ·rw[AD h2,AD (.inl h2)]
  ·rw[AA h2,AA (fun h=>h.elim h2 h1)]
structure jW(k:Ih)(s:DS)(tl:T Value)(Lt clk:Nat):Prop where
 hl:s.H.t.get k.lb=some (.cells tl DL C2 Lt true 0 true false)
 l0:tl.get BN=some (.int .i32 0)
 l1:tl.get (BN+1)=some (.int .u32 0)
 lm:tl.get 6=some (.map (some k.mb))
 hm:s.H.t.get k.mb=some (.obj (.map k.base.toArray clk))
 klo:k.lo=BN
 tl: ∃t o,s.fr.tmps.get t=some (.pointer (some ⟨k.lb,o,none⟩))
 ne:k.lb≠k.mb
def Tx(k:Ih)(ty a:Nat)(tl:T Value)(Lt:Nat)(t:T AI):T AI :=
 ((T.del t k.mb).set k.lb (.cells (fY tl) DL C2 Lt false 0 true true)).set a (.cells .nil 2 ty 0 false 0 false true)
def fL(k:Ih)(ty:Nat)(tl:T Value)(Lt:Nat)(H:PH):PH :=
 {H with next:=H.next+1,t:=Tx k ty H.next tl Lt H.t}
section
variable{P:Program}{ty:TypeId}{Post:Value→World→Prop}{E7:T (TypeInfo×TypeDesc)}
theorem AU.oU(A7:A8 P E7){L:List Nat}{s:DS}(hm:s.fr.mode= .run){all:Array Oper}{i:Nat}{o:Oper}{l:List Oper}{kk:List Ab}(ht:s.fr.todo= .ops all i (o::l)::kk)(hk:s.fr.kind≠ .early)(hw:Aj s.fr all o=some true)
  (A5:o.op= .alloc ty) {inf:TypeInfo} {d:TypeDesc} (hi:E7.get ty=some (inf,d)) {z:Value} (hz:inf.zero=some z) (rH:z.cells= #[.int .u64 0,.int .u32 0]) {tm:T Value} (hp:By s.fr o.dst (.pointer (some ⟨s.H.next,0,none⟩))=some tm)
  (bG:s.H.next+1≤2^T.deep) {k:Ih} {tl:T Value} {Lt clk:Nat} (F:jW k s tl Lt clk) :
  AU P ty Post true ⟨.out L,s⟩ [⟨.AP ⟨k.lb,Am,[],some (s.H.next,.idle 0),false,some k⟩,⟨{s.fr with tmps:=tm,todo:= .ops all (i+1) l::kk},s.cs,fL k ty tl Lt s.H,s.d⟩⟩]:=by
 refine⟨1,fun E hb hg n hl ρ c g w _ hd=> ?_⟩;replace hd:DR E ρ s c g w:=hd;cases hd with
 |mk hf hc D7 ET hH AO Dx h1 h2 h3 Bv =>
  rename_i fr cs pd pds;refine W.GA rfl (.inl rfl) fun w₁ r=> ?_;obtain⟨Dj,Ck,A9,rest,m,e,E0,Ky⟩:=hf.ops ht;have DN:=hH.rely r;have BY:=AO.rely r;have Bi:=Bv.rely r;have AT:=Rq (P:=P) A7 (fr:=fr) A5 hi hz w₁;have IU:seen P fr.fn #[]= #[]:=by rw[seen_def]; rfl
  have Aq:=Cv (P:=P) (main:=true) (cs:=cs++E.base) ((Br.run hf) hm) e Ck (BE (fun _ _ t v _ _ hv=>A9 t v hv) hw) (by rw[hf.kind]; exact hk) (fun c hc=>by rw[A5]at hc; cases hc) (.inl AT);rw[IU]at Aq;refine⟨_,_,_,(Ctx.own c w₁.heap.size).M,c.R,Aq,rfl,Ca.grow BY _,BQ.nil _ _ _, ?_⟩;obtain⟨BL,oN⟩: ∃B,ρ k.lb=some B:=by
   obtain⟨t,o,e⟩:=F.tl;obtain⟨v',_,hv⟩:=A9 t _ e;cases hv with
   |ptr hB=>exact⟨_,hB⟩
  have rl:=DN.rel _ _ _ oN F.hl;cases rl with
  |cells ls le lf lle tu lR xN =>
   have xN:=xN rfl;have fg: ∀j v,j<DL→tl.get j=some v→∃v',w₁.cell? ⟨BL.blk,j,none⟩=some v'∧VR ρ v v':=fun j v hj hv=>by
    rcases xN j hj with⟨a,_⟩|⟨u,v',a,b,c⟩
    ·cases a
    ·rw[hv]at a; cases a;exact⟨v',b,c⟩
   obtain⟨vm,_,vE⟩:=fg 6 _ (by decide) F.lm;obtain⟨BM,rW⟩: ∃B,ρ k.mb=some B:=by cases vE with|map hB=>exact⟨_,hB⟩
   have rm:=DN.rel _ _ _ rW F.hm;cases rm with
   |obj nI hom xh =>
    cases hom with
    |map _ wo Ob =>
     rename_i es';obtain⟨LB,gR,Ob⟩:=Ob;have hML:=(tu rfl).1;have hthL:=(tu rfl).2 rfl;have szL:BL.size=DL:=lf rfl;have uL:=DN.sN oN F.hl rfl rfl;have uM:=DN.sN rW F.hm rfl rfl;have nLM:BL.blk≠BM.blk:=fun e=>F.ne (uM k.lb BL oN e);have iq:=DN.Dk _ _ oN;have rU:=DN.Dk _ _ rW
     let B:RB:=⟨w₁.heap.size,2,0⟩
     have hle:ρ.le (ρ.put s.H.next B):=Ah.Ed DN.free;have QT:ρ.put s.H.next B s.H.next=some B:=Cy _ _ _;have IV:=DN.P5 (l:= [.int .u64 0,.int .u32 0]) (l':= [.int .u64 0,.int .u32 0]) (.cons (.int _ _) (.cons (.int _ _) .nil)) bG (by decide) ty 0;have eU:World.grow w₁ (.cells z.cells ty)=World.grow w₁ (.cells ([.int .u64 0,.int .u32 0]:List Value).toArray ty):=by rw[rH]
     have Mv:s.H.next<2^T.deep:=by omega
     have y4:k.lb≠s.H.next:=by have:=iq.1; omega
     have neM:k.mb≠s.H.next:=by have:=rU.1; omega
     have bL:BL.blk≠w₁.heap.size:=by have:=iq.2; omega
     have bM:BM.blk≠w₁.heap.size:=by have:=rU.2; omega
     rw[eU];generalize XA:World.grow w₁ (.cells ([.int .u64 0,.int .u32 0]:List Value).toArray ty)=w₂ at IV;have aR: ∀b,b<w₁.heap.size→w₂.heap[b]? =w₁.heap[b]? :=fun b hb=>by rw[← XA]; exact FZ _ _ hb
     have iQ:w₂.heap[w₁.heap.size]? =some (.cells #[.int .u64 0,.int .u32 0] ty):=by rw[← XA]; exact C7 _ _
     have Bp:w₂.heap.size=w₁.heap.size+1:=by rw[← XA]; simp[World.grow]
     have fh: ∀j,w₂.cell? ⟨BL.blk,j,none⟩=w₁.cell? ⟨BL.blk,j,none⟩:=fun j=>by simp only[World.cell?,aR _ iq.2]
     have xJ: ∀b,b<w₁.heap.size→w₂.shape? b=w₁.shape? b:=fun b hb=>by simp only[World.shape?,aR b hb]
     let C:Bo:=ma BL.blk BM.blk LB k.keys nLM
     let R':Addr→Prop:=fun y=>c.R y∨(y.block=BL.blk∧y.spot=none∧y≠C.wa∧y≠C.sa)
     have Oa:Bz C w₂ ⟨false,false,false,0⟩ 0:=by
      refine⟨?_, ?_,fun off=> ?_⟩
      ·obtain⟨v0,c0,x0⟩:=fg BN _ (by decide) F.l0;cases x0;exact(fh _).trans c0
      ·obtain⟨v0,c0,x0⟩:=fg (BN+1) _ (by decide) F.l1;cases x0;exact(fh _).trans c0
      ·have:=hthL off;show w₂.frozen? ⟨BL.blk,off,none⟩=false;simp only[World.frozen?,aR _ iq.2];exact this
     have hJ:C.J (fun _=>none) w₂:=by
      refine⟨⟨es',wo,(aR _ rU.2).trans nI, ?_⟩,fun τ k v _ e=>by cases e⟩;have: ∀(ks:List (Option Value)) (τ:Nat),C1 (fun _=>none) ks τ= []:=fun ks=>by
       induction ks with
       |nil=>intro τ; rfl
       |cons a ks ih=>intro τ; cases a<;>simp[C1,ih]
      rw[this,List.append_nil];exact gR.map _
     refine W.Jx (C:=C) (ch:=BL.blk) (a:=w₁.heap.size) (R':=R') (by show c.AP=none; rw[h3]; exact hg.1) (.inl hML) (.inr rfl) (fun b hb=>by cases(show b=BM.blk from hb); exact .inl xh) (fun e=>bL e.symm) (fun e=>bM (show w₁.heap.size=BM.blk from e).symm) bL iQ (fun y hy=> .inl hy) (fun y hy=>hy.imp id fun h=>h) Oa hJ ?_;have BO:=(hf.mono hle).put ht hp (v':= .pointer (some ⟨w₁.heap.size,0,none⟩)) (KM _ _ _ _ _);have WN:=HR.oQ IV (xs:= [s.H.next,k.lb,k.mb]) (t':=T.del (T.del (T.del s.H.t k.mb) k.lb) s.H.next) (fun y=> ?_) (fun x hx=> ?_) (M':=fun b=>(c.M b∨b=w₁.heap.size)∧b≠BL.blk∧b≠w₁.heap.size∧¬b=BM.blk) (fun b hb hx=> ?_)
     ·have FA:CK {c with M:=fun b=>(c.M b∨b=w₁.heap.size)∧b≠BL.blk∧b≠w₁.heap.size∧¬b=BM.blk,R:=R',AP:=some {ch:=BL.blk,cap:=Am,kids:= [],wg:=some (w₁.heap.size,.idle 0),closed:=false,AY:=some C}} w₂:=by
       refine⟨fun b hb=> ?_,fun a ha=> ?_,fun a ha hb=> ?_⟩
       ·rw[Bp];rcases hb.1 with hb|hb
        ·exact Ce (BY.ml b hb)
        ·omega
       ·rw[Bp];rcases ha with ha|ha
        ·exact Ce (BY.rl a ha)
        ·rw[ha.1]; exact Ce iq.2
       ·rcases ha with ha|ha
        ·rcases hb.1 with B7|B7
         ·exact BY.rm a ha B7
         ·exact hb.2.2.1 B7
        ·exact hb.2.1 ha.1
      subst Dj;have fG:=hle _ _ oN;have oM:=hle _ _ rW;have fresh: ∀{b y:Nat},b<w₁.heap.size→(∀x X,ρ x=some X→X.blk=b→x=y)→∀x X,ρ.put s.H.next B x=some X→X.blk=b→x=y:=fun {b y} Ac h x X hx e=>by
       have hx:(if x=s.H.next then some B else ρ x)=some X:=hx;by_cases ex:x=s.H.next
       ·rw[AD ex]at hx; cases hx;have e:w₁.heap.size=b:=e;omega
       ·rw[AA ex]at hx;exact h x X hx e
      refine hl _ (B3.2 rfl) (ρ.put s.H.next B) _ _ w₂ {ch:=BL.blk,cap:=Am,kids:= [],wg:=some (w₁.heap.size,.idle 0),closed:=false,AY:=some C} ⟨⟨BL,fG,rfl⟩,rfl,rfl,.some (B:=B) QT,.nil,.some fG rfl F.klo.symm oM (fun b=>Iff.rfl) rfl ⟨by simpa using Ob.1,fun k e he=>let⟨e',a,b,c⟩:=Ob.2 k e (by simpa using he); ⟨e',a,b,c.mono hle⟩⟩,fun _=>rfl⟩ ⟨fun k' CP=> ?_,fun k' CP=>by cases CP; exact⟨BL,BM,fG,oM,Bi.al.am _ hML,Bi.al.am _ xh,fun a ha e=>BY.rm a (Bi.r a ha).1 (e ▸hML)⟩⟩ (.mk (fr:=fr.finish _) (cs:=cs) BO (hc.mono hle) (by simpa using D7) (fun b hb=> ?_) ?_ FA Dx h1 h2 rfl ?_)
      ·cases CP;exact⟨BL,BM,⟨fG,oM,fun e=>e.2.1 rfl,fun e=>e.2.2.2 rfl,by rw[xJ _ iq.2,ls,szL],by unfold World.shape?; rw[aR _ rU.2,nI],by rw[Bp]; exact Ce rU.2,fresh iq.2 uL,fresh rU.2 uM⟩⟩
      ·obtain⟨q1,q2⟩:=ET b (by simpa using hb);refine⟨?_,Ce q2⟩;show(if b=s.H.next then some B else ρ b)=none;rw[AA (by omega)];exact q1
      ·have R6:=HR.Vw WN (c':={c with M:=fun b=>(c.M b∨b=w₁.heap.size)∧b≠BL.blk∧b≠w₁.heap.size∧¬b=BM.blk,R:=R',AP:=some {ch:=BL.blk,cap:=Am,kids:= [],wg:=some (w₁.heap.size,.idle 0),closed:=false,AY:=some C}}) rfl (fun a ha=> .inl ha);have rE:k.lb<2^T.deep:=by have:=iq.1; omega
       have K0:=HR.Wz R6 fG (by show(T.del (T.del (T.del s.H.t k.mb) k.lb) s.H.next).get _=none; rw[T.Ds,AA y4,T.Ds,AD rfl]) (o:= .cells (fY tl) DL C2 Lt false 0 true true) rfl rfl
        (.cells (by rw[xJ _ iq.2,ls]) le lf lle (fun e=>by cases e) (fun _ _ j hj=>by
          rw[Wo];by_cases e:j=BN∨j=BN+1
          ·exact .inl (AD e)
          ·refine .inr (.inr ⟨rfl,rfl,fun h=>e (.inl ?_),fun h=>e (.inr ?_)⟩)
           ·exact congrArg Addr.off h
           ·exact congrArg Addr.off h)
         (fun _ j hj=>by
          rw[Wo];by_cases e:j=BN∨j=BN+1
          ·refine .inl ⟨rfl, ?_,AD e⟩;rcases e with e|e<;>rw[e]<;>decide
          ·rw[AA e];rcases xN j hj with⟨a,_⟩|⟨u,v',a,b,cc⟩
           ·cases a
           ·exact .inr ⟨u,v',a,(fh j).trans b,cc.mono hle⟩))
        (t':=(T.del (T.del (T.del s.H.t k.mb) k.lb) s.H.next).set k.lb (.cells (fY tl) DL C2 Lt false 0 true true)) (fun x=>T.AW _ _ _ _ rE)
       have WX:=HR.Wz K0 QT (by show((T.del (T.del (T.del s.H.t k.mb) k.lb) s.H.next).set k.lb _).get _=none; rw[T.AW _ _ _ _ rE,AA (Ne.symm y4),T.Ds,AD rfl]) (o:= .cells .nil 2 ty 0 false 0 false true) rfl rfl
        (.cells (by show w₂.shape? w₁.heap.size=_; simp only[World.shape?,iQ]; rfl) rfl (fun _=>rfl) (AN _) (fun e=>by cases e) (fun _ e=>by cases e) (fun e=>by cases e))
        (t':=Tx k ty s.H.next tl Lt s.H.t) (fun x=>by
         show(Tx k ty s.H.next tl Lt s.H.t).get x=if x=s.H.next then _ else((T.del (T.del (T.del s.H.t k.mb) k.lb) s.H.next).set k.lb _).get x
         unfold Tx;rw[T.AW _ _ _ _ Mv];by_cases e:x=s.H.next
         ·rw[AD e,AD e]
         ·rw[AA e,AA e,T.AW _ _ _ _ rE,T.AW _ _ _ _ rE];by_cases e2:x=k.lb
          ·rw[AD e2,AD e2]
          ·rw[AA e2,AA e2,T.Ds _ s.H.next,AA e,T.Ds _ k.lb,AA e2])
       exact WX
      ·refine⟨fun b hb=> ?_,fun a ha=> ?_,by rw[Bp]; exact Nat.le_succ_of_le Bi.size,fun b hb=> ?_,by rw[← XA]; exact Bi.tape,by rw[← XA]; exact Bi.os,by rw[← XA]; exact Bi.output,Bi.Fq.trans hle,fun x X hx=> ?_,Bi.AL,Bi.al.step (by rw[Bp]; exact Nat.le_succ _) (fun b hb=>by
        have hb:(c.M b∨b=w₁.heap.size)∧_:=hb;exact hb.1.imp id fun e=>by rw[e]; exact AN _) (fun x X hx=> ?_) xJ⟩
       ·obtain⟨m1,m2,m3⟩:=Bi.m b hb;have Ac:=BY.ml b m1;refine⟨⟨.inl m1,fun e=>m3 _ BL oN e.symm,fun e=>by omega,fun e=>m3 _ BM rW e.symm⟩,(aR b Ac).trans m2,fun x X hx=> ?_⟩;have hx:(if x=s.H.next then some B else ρ x)=some X:=hx;by_cases ex:x=s.H.next
        ·rw[AD ex]at hx; cases hx;intro e;have e:w₁.heap.size=b:=e;omega
        ·rw[AA ex]at hx;exact m3 x X hx
       ·obtain⟨m1,m2⟩:=Bi.r a ha;exact⟨.inl m1,m2.trans (.of (aR _ (BY.rl a m1)))⟩
       ·have hb:b<E.w0.heap.size:=hb;have Ac:b<w₁.heap.size:=AV hb Bi.size;exact(xJ b Ac).trans (Bi.shape b hb)
       ·have hx:(if x=s.H.next then some B else ρ x)=some X:=hx;by_cases ex:x=s.H.next
        ·rw[AD ex]at hx; cases hx;exact .inl Bi.size
        ·rw[AA ex]at hx;exact Bi.fresh x X hx
       ·have hx:(if x=s.H.next then some B else ρ x)=some X:=hx;by_cases ex:x=s.H.next
        ·rw[AD ex]at hx; cases hx;exact .inr (AN _)
        ·rw[AA ex]at hx;exact .inl ⟨x,X,hx,rfl,.inl rfl⟩
     ·rw[T.Ds,T.Ds,T.Ds];show _=if y∈ [s.H.next,k.lb,k.mb]then none else(s.H.t.set s.H.next _).get y
      rw[T.AW _ _ _ _ Mv];by_cases e2:y=s.H.next
      ·rw[AD e2,AD (by simp[e2])]
      ·rw[AA e2];by_cases e1:y=k.lb
       ·rw[AD e1,AD (by simp[e1])]
       ·rw[AA e1];by_cases e3:y=k.mb
        ·rw[AD e3,AD (by simp[e3])]
        ·rw[AA e3,AA (by simp[e1,e2,e3]),AA e2]
     ·rcases AZ.1 hx with rfl|hx
      ·exact⟨_,(T.AW _ _ _ _ Mv).trans (AD rfl),rfl,rfl⟩
      ·rcases AZ.1 hx with rfl|hx
       ·exact⟨_,(T.AW _ _ _ _ Mv).trans ((AA y4).trans F.hl),rfl,rfl⟩
       ·have hx:=B3.1 hx;subst hx;exact⟨_,(T.AW _ _ _ _ Mv).trans ((AA neM).trans F.hm),rfl,rfl⟩
     ·refine⟨hb,fun e=>hx k.lb (by simp) BL (hle _ _ oN) e.symm,fun e=>hx s.H.next (by simp) B QT e.symm,fun e=>hx k.mb (by simp) BM (hle _ _ rW) e.symm⟩
end
def JM(l:List KV):PH→PH:=List.rec (motive:=fun _=>PH→PH) (fun H=>H) (fun kv _ ih H=>ih (G8 kv H)) l
def Tw(l:List KV):PH→Bool:=List.rec (motive:=fun _=>PH→Bool) (fun _=>true) (fun kv _ ih H=>Rr kv H (G8 kv H)&&ih (G8 kv H)) l
def Yz(l:List KV):PH→List (Option Value):=List.rec (motive:=fun _=>PH→List (Option Value)) (fun _=> []) (fun kv _ ih H=>Fq (Jh kv H.next) 6 kv.v::ih (G8 kv H)) l
def Wa(ks:List (Option Value)):List (Option Value)→Option (List MapEntry) :=
 List.rec (motive:=fun _=>List (Option Value)→Option (List MapEntry)) (fun us=>match us with| []=>some []|_::_=>none) (fun k _ ih us=>match us with
  | []=>none
  |u::us=>match ih us with
   |none=>none
   |some r=>match k with
    |none=>some r
    |some k=>match u with
     |some v=>some (⟨k,v,0⟩::r)
     |none=>none) ks
theorem fI: ∀{ks us:List (Option Value)} {r:List MapEntry},Wa ks us=some r→ks.length=us.length
 | [],[],_,_=>rfl
 | [],_::_,_,h=>by cases h
 |_::_,[],_,h=>by cases h
 |k::ks,u::us,r,h=>by
  replace h:(match(generalizing:=false) Wa ks us with
   |none=>none
   |some r=>match(generalizing:=false) k with
    |none=>some r
    |some k=>match(generalizing:=false) u with
     |some v=>some (⟨k,v,0⟩::r)
     |none=>none)=some r:=h
  cases e:Wa ks us with
  |none=>rw[e]at h; cases h
  |some r'=>simp[fI e]
theorem WZ{ρ:Ah}{σ:Nat→Option Value}: ∀{ks us:List (Option Value)} {τ:Nat} {r:List MapEntry},Wa ks us=some r→(∀(j:Nat) (u:Value),us[j]? =some (some u)→∃v,σ (τ+j)=some v∧VR ρ u v)→I9 ρ r (C1 σ ks τ)
 | [],[],_,r,h,_=>by cases h; exact .nil
 | [],_::_,_,_,h,_=>by cases h
 |_::_,[],_,_,h,_=>by cases h
 |k::ks,u::us,τ,r,h,hv=>by
  replace h:(match(generalizing:=false) Wa ks us with
   |none=>none
   |some r=>match(generalizing:=false) k with
    |none=>some r
    |some k=>match(generalizing:=false) u with
     |some v=>some (⟨k,v,0⟩::r)
     |none=>none)=some r:=h
  cases e:Wa ks us with
  |none=>rw[e]at h; cases h
  |some r' =>
   rw[e]at h;have ih:=WZ (ρ:=ρ) (σ:=σ) (τ:=τ+1) e fun j u hu=>by
    have:=hv (j+1) u (by simpa using hu);rw[show τ+1+j=τ+(j+1) by omega];exact this
   cases k with
   |none=>cases h; exact ih
   |some k =>
    cases u with
    |none=>cases h
    |some v =>
     cases h;obtain⟨v',h1,h2⟩:=hv 0 v rfl;rw[Nat.add_zero]at h1;show I9 ρ _ ((match σ τ with|some v=> [(k,v)]|none=> [])++C1 σ ks (τ+1))
     rw[h1];exact .cons h2 ih
section
variable{ρ:Ah}{H:PH}{c c':Ctx}{w:World}
structure Gath(ρ ρ':Ah)(H H':PH)(sz:Nat)(c:Ctx)(lb:Nat)(P:Nat→Prop):Prop where
 le:ρ.le ρ'
 old: ∀x,x<H.next→ρ' x=ρ x
 new: ∀x B,¬x<H.next→ρ' x=some B→sz≤B.blk∧¬c.M B.blk∧B.blk≠lb∧¬P B.blk
 nx:H.next≤H'.next
 ng:H'.ng=H.ng
 get: ∀y,y<H.next→H'.t.get y=H.t.get y
theorem HR.gath{sz lb:Nat}{Pp:Nat→Prop}{w:World}: ∀{l:List KV} {jo:List Gw.Spec} {τ0:Nat} {ρ:Ah} {H:PH} {c:Ctx} {vs:Nat→Value} {Rs:Nat→Addr→Prop},LR (xD sz ρ) l jo→HR ρ H c w→CK c w→
  (∀(τ:Nat) (sp:Gw.Spec),jo[τ]? =some sp→sp.ok (vs (τ0+τ)) (Rs (τ0+τ)) w)→(∀τ y,τ<jo.length→Rs (τ0+τ) y→y.block<w.heap.size∧¬c.M y.block∧y.block≠lb∧¬Pp y.block)→Tw l H=true→
  ∃ρ',Gath ρ ρ' H (JM l H) sz c lb Pp∧HR ρ' (JM l H) {c with R:=fun y=>c.R y∨∃τ,τ<jo.length∧Rs (τ0+τ) y} w∧∀(j:Nat) (u:Value),(Yz l H)[j]? =some (some u)→j<jo.length∧VR ρ' u (vs (τ0+j)):=by
 intro l;induction l with
 |nil =>
  intro jo τ0 ρ H c vs Rs hk hH AO _ _ _;cases hk;refine⟨ρ,⟨.refl _,fun _ _=>rfl,fun x B h hB=>absurd (hH.Dk _ _ hB).1 h,AN _,rfl,fun _ _=>rfl⟩,HR.Vw hH rfl fun a ha=> .inl ha,fun j u hj=>by cases hj⟩
 |cons kv l ih =>
  intro jo τ0 ρ H c vs Rs hkt hH AO Kw oK hg;cases hkt with
  |cons hk ht =>
  rename_i sp jo;have hg:(Rr kv H (G8 kv H)&&Tw l (G8 kv H))=true:=hg;rw[AF]at hg;obtain⟨vl,hg2⟩:=hg;unfold Rr at vl;simp only[AF]at vl;obtain⟨g1,g2,g3,g4⟩:=vl;have g4: ∀p∈kv.news,UQ kv H (G8 kv H) p.1 p.2:=fun p hp=>Ns (AX.1 g4 p hp);obtain⟨kr,ws,WM,j9,rfl⟩:=hk;obtain⟨ρ1,k1,k2,k3⟩:=Kw 0 _ rfl;have ID: ∀a,Rs τ0 a→a.block<w.heap.size∧¬c.M a.block:=fun a ha=>let h:=oK 0 a (by simp) ha; ⟨h.1,h.2.1⟩
  have hHn:=HR.Nt hH AO WM k1 k3 ID (AH g1) (AH g2) (AH g3) g4;have F0:ρ.le (GG ρ ρ1 kv H):=fun z Z hz=>by rw[CG (hH.Dk z Z hz).1]; exact hz
  have EP:CK {c with R:=fun a=>c.R a∨Rs τ0 a} w:=⟨AO.ml,fun a ha=>ha.elim (AO.rl a) fun x=>(ID a x).1,fun a ha hb=>ha.elim (fun x=>AO.rm a x hb) fun x=>(ID a x).2 hb⟩;obtain⟨ρ',G,wK,hv⟩:=ih (τ0:=τ0+1) (vs:=vs) (Rs:=Rs) (c:={c with R:=fun a=>c.R a∨Rs τ0 a}) (ht.mono fun _ _ ⟨kr,ws,a,b⟩=>⟨kr,ws,a.trans F0,b⟩) hHn EP
   (fun τ sp h=>by rw[show τ0+1+τ=τ0+(τ+1) by omega]; exact Kw (τ+1) sp (by simpa using h))
   (fun τ y h1 h2=>oK (τ+1) y (by simpa using h1) (by rw[show τ0+(τ+1)=τ0+1+τ by omega]; exact h2)) hg2
  have Mv:H.next≤(G8 kv H).next:=Nat.le_add_right _ _
  have Ew: ∀y,y<H.next→(G8 kv H).t.get y=H.t.get y:=fun y hy=>C4 fun p hp=>by
   obtain⟨q,hq,rfl⟩:=Bd.1 hp;have a:=(g4 q hq).ge;have b:=(g4 q hq).lt;have g2:=AH g2;exact⟨by show H.next+(q.1-kv.n0)<_; omega,by show H.next+(q.1-kv.n0)≠y; omega⟩
  refine⟨ρ',⟨F0.trans G.le,fun x hx=>(G.old x (AV hx Mv)).trans (CG hx),fun x B hx hB=> ?_,A1 Mv G.nx,G.ng,fun y hy=>(G.get y (AV hy Mv)).trans (Ew y hy)⟩, ?_,fun j u hj=> ?_⟩
  ·by_cases Ac:x<(G8 kv H).next
   ·rw[G.old x Ac]at hB;obtain⟨p,hp,_,XE⟩:=HU hx hB;obtain⟨B',b1,b2,b3⟩:=k3 p hp;rw[XE]at b1; cases b1;have hR:Rs τ0 ⟨B.blk,0,none⟩:=by
     cases ho:p.2 with
     |cells t size elem es own f ok D4=>rw[ho]at b3; exact b3.2.2.2.1
     |obj o=>rw[ho]at b3; exact b3.elim
    exact⟨A1 j9 b2,(oK 0 _ (by simp) hR).2⟩
   ·exact G.new x B Ac hB
  ·refine HR.Vw wK rfl fun a ha=> ?_;rcases ha with(ha|ha)|⟨τ,h1,h2⟩
   ·exact .inl ha
   ·exact .inr ⟨0,by simp,ha⟩
   ·exact .inr ⟨τ+1,by simpa using h1,by rw[show τ0+(τ+1)=τ0+1+τ by omega]; exact h2⟩
  ·cases j with
   |zero =>
    have hj:some (Fq (Jh kv H.next) 6 kv.v)=some (some u):=hj;have hj:=As hj;exact⟨by simp,((M4 6 hj).up (XY hH WM k1) k2).mono G.le⟩
   |succ j =>
    obtain⟨a,b⟩:=hv j u hj;exact⟨by simpa using a,by rw[show τ0+(j+1)=τ0+1+j by omega]; exact b⟩
theorem HR.lT(h:HR ρ H c w){y1 y2:Nat}{B1 B2:RB}(vC:ρ y1=some B1)(hy2:ρ y2=some B2)(_BK:y1≠y2)(u1: ∀x X,ρ x=some X→X.blk=B1.blk→x=y1)(u2: ∀x X,ρ x=some X→X.blk=B2.blk→x=y2)
  {o1 o2:AI} (h1:BR ρ c' w B1 o1) (h2:BR ρ c' w B2 o2) (f1:o1.fam=0) (f2:o2.fam=0) (hM: ∀b,c.M b→c'.M b) (hR: ∀a,c.R a→a.block≠B1.blk→c'.R a)
  {t':T AI} (ht: ∀x,t'.get x=if x=y2 then some o2 else if x=y1 then some o1 else H.t.get x):HR ρ (H.Ho t') c' w:=by
 obtain⟨nx,t,ng,BF⟩:=H;refine⟨h.cap,h.Dk,fun x X o hx ho=> ?_,fun x x' X X' e1 e2 hn Bn=> ?_,h.EK,fun x X o hx ho hf hk=> ?_⟩
 ·have ho:t'.get x=some o:=ho;rw[ht]at ho;by_cases a:x=y2
  ·rw[AD a]at ho; cases ho;rw[a,hy2]at hx; cases hx;exact h2
  ·rw[AA a]at ho;by_cases b:x=y1
   ·rw[AD b]at ho; cases ho;rw[b,vC]at hx; cases hx;exact h1
   ·rw[AA b]at ho;have nb:X.blk≠B1.blk:=fun e=>b (u1 x X hx e);cases h.rel x X o hx ho with
    |cells hs he hf hle Ax gX AO=>exact .cells hs he hf hle (fun e=>⟨hM _ (Ax e).1,(Ax e).2⟩) (fun e e' k hk=>(gX e e' k hk).imp id fun r=>hR _ r nb) AO
    |obj hw EW rV=>exact .obj hw EW (hM _ rV)
 ·have keep: ∀{z z':Nat} {Z Z':RB},ρ z=some Z→ρ z'=some Z'→z≠z'→Z.blk=Z'.blk→z≠y1∧z≠y2:=fun {z z' Z Z'} a b n e=>by
   refine⟨fun ez=> ?_,fun ez=> ?_⟩
   ·rw[ez,vC]at a; cases a;exact n (ez.trans (u1 z' Z' b e.symm).symm)
   ·rw[ez,hy2]at a; cases a;exact n (ez.trans (u2 z' Z' b e.symm).symm)
  obtain⟨n1,n2⟩:=keep e1 e2 hn Bn;obtain⟨n3,n4⟩:=keep e2 e1 hn.symm Bn.symm;have g1:t'.get x=t.get x:=by rw[ht,AA n2,AA n1]
  have g2:t'.get x'=t.get x':=by rw[ht,AA n4,AA n3]
  rcases h.inj x x' X X' e1 e2 hn Bn with⟨o,o',p1,p2,p3,p4⟩|⟨q1,q2⟩
  ·exact .inl ⟨o,o',g1.trans p1,g2.trans p2,p3,p4⟩
  ·exact .inr ⟨fun o ho=>q1 o (g1.symm.trans ho),fun o ho=>q2 o (g2.symm.trans ho)⟩
 ·have ho:t'.get x=some o:=ho;rw[ht]at ho;by_cases a:x=y2
  ·rw[AD a]at ho; cases ho;exact absurd f2 hf
  ·rw[AA a]at ho;by_cases b:x=y1
   ·rw[AD b]at ho; cases ho;exact absurd f1 hf
   ·rw[AA b]at ho;exact h.mem x X o hx ho hf hk
end
def SQ(t:T Value):T Value:=(t.set BN (.int .i32 0)).set (BN+1) (.int .u32 0)
theorem XL(t:T Value)(k:Nat):(SQ t).get k=if k=BN+1 then some (.int .u32 0)else if k=BN then some (.int .i32 0)else t.get k:=by
 unfold SQ;rw[T.AW _ _ _ _ (by decide),T.AW _ _ _ _ (by decide)]
def Wd(k:Ih)(tl:T Value)(Lt:Nat)(es:List MapEntry)(t:T AI):T AI :=
 (t.set k.lb (.cells (SQ tl) DL C2 Lt true 0 true false)).set k.mb (.obj (.map (k.base++es).toArray 0))
section
variable{P:Program}{ty:TypeId}{Post:Value→World→Prop}
theorem AU.NP{xs:T XK}(Au:C9 P xs){s:DS}{put:Value→Option PF}{pg:PG}{k:Ih}{a:Nat}{at':List Value}(Bg:Kd xs s .acquire (.pointer (some ⟨a,0,none⟩)::at') put)(Az:pg.wg=some (a,.fin))(BW:pg.AY=some k)(hd:s.d=0)
  {BU:PF} (hp:put undef=some BU) (AO:Tw pg.kids s.H=true) {r:List MapEntry} (hg:Wa k.keys (Yz pg.kids s.H)=some r) (ie:k.lo=BN)
  {tl:T Value} {Lt:Nat} (hl:s.H.t.get k.lb=some (.cells tl DL C2 Lt false 0 true true)) (G4: ∀j,j<DL→j≠BN→j≠BN+1→∃v,tl.get j=some v) :
  AU P ty Post true ⟨.AP pg,s⟩ [⟨.out [],⟨BU,s.cs,(JM pg.kids s.H).Ho (Wd k tl Lt r (JM pg.kids s.H).t),s.d⟩⟩]:=by
 refine⟨1,fun E hb hE n Tn ρ c g w Γ hΓ hA IX=> ?_⟩;replace IX:DR {E with AP:=some Γ} ρ s c g w:=IX;cases IX with
 |mk hf hc D7 ET hH hok0 Dx h1 h2 h3 Bv =>
  rename_i fr cs pd pds;have h3:c.AP=some Γ:=h3;obtain⟨BA,hBA,Yu⟩: ∃B,ρ a=some B∧Γ.wg=some (B.blk,.fin):=by
   have h:=hΓ.wg;rw[Az]at h;generalize Γ.wg=z at h ⊢;cases h with
   |some hB=>exact⟨_,hB,rfl⟩
  obtain⟨C,hCr,BL,BM,EL,Hr,kO,wL,OZ,hCP,hCJ,hCb⟩: ∃C,Γ.AY=some C∧∃BL BM EL,ρ k.lb=some BL∧C.lb=BL.blk∧C.lo=k.lo∧ρ k.mb=some BM∧(∀b,C.P b↔b=BM.blk)∧C.J=Wq BM.blk EL k.keys∧SL ρ k.base EL:=by
   have h:=hΓ.AY;rw[BW]at h;generalize Γ.AY=z at h ⊢;cases h with
   |some a b c d e f g=>exact⟨_,rfl,_,_,_,a,b,c,d,e,f,g⟩
  obtain⟨f,Ap,Dj,hx,BO,Bh,_⟩:=Bg.step Au hf (fun o A9=>CJ.of A9 hH o);obtain⟨t',rfl,ht⟩:=NZ hBA hx;have hstA:stA BA.blk=⟨BA.blk,0,none⟩:=rfl;refine W.Iv (fun w₁=>{g:=G (fr.finish undef) (cs++E.base),w:=w₁,es:= #[⟨.mark (.acquire ⟨BA.blk,0,none⟩),false,true⟩]}) rfl (by rw[Dx]; exact hd) h3 hCr Yu (fun w₁ r=>⟨Bh true (cs++E.base) w₁ undef w₁ #[⟨.mark (.acquire ⟨BA.blk,0,none⟩),false,true⟩] rfl (by simp),rfl, ?_⟩) fun w₁ rr vs Rs Kw oK hJ Oa hPl=> ?_
  ·rw[hstA]; simp[MemAct.ofEvent]
  ·have DN:=hH.rely rr;have BY:=hok0.rely rr;have Bi:=Bv.rely rr;have wO:=hA.rely rr;obtain⟨B1,B2,rX⟩:=wO.ap k BW;have e1:=rX.lb;rw[Hr]at e1; cases e1;have e2:=rX.mb;rw[OZ]at e2; cases e2;obtain⟨B1,B2,e1,e2,ol,om,oR⟩:=wO.out k BW;rw[Hr]at e1; cases e1;rw[OZ]at e2; cases e2;obtain⟨ρ',Gt,hHg,Zk⟩:=HR.gath (τ0:=0) (vs:=vs) (Rs:=Rs) (lb:=BL.blk) (Pp:=fun b=>b=BM.blk) hΓ.kids DN BY (fun τ sp h=>by rw[DV]; exact Kw τ sp h)
    (fun τ y h1 h2=>by
     rw[DV]at h2;obtain⟨a,b,c,d⟩:=oK τ y h1 h2;exact⟨a,b,by rw[← kO]; exact c,fun e=>d ((hCP _).2 e)⟩) AO
   have hlb':=Gt.le _ _ Hr;have hmb':=Gt.le _ _ OZ;have nlm:k.lb≠k.mb:=fun e=>by
    rw[e,OZ]at Hr; cases Hr;have:=rX.sl;rw[rX.sm]at this; cases this
   have uniq: ∀{b y:Nat},(∀x X,ρ x=some X→X.blk=b→x=y)→(b=BL.blk∨b=BM.blk)→∀x X,ρ' x=some X→X.blk=b→x=y:=fun {b y} h EW x X hx e=>by
    by_cases Ac:x<s.H.next
    ·rw[Gt.old x Ac]at hx;exact h x X hx e
    ·obtain⟨_,_,q1,q2⟩:=Gt.new x X Ac hx;rcases EW with rfl|rfl
     ·exact absurd e q1
     ·exact absurd e q2
   have hlbn:=(DN.Dk _ _ Hr).1;have hmbn:=(DN.Dk _ _ OZ).1;have wu:=hHg.cap;have rE:k.lb<2^T.deep:=AV hlbn (A1 Gt.nx wu);have mbk:k.mb<2^T.deep:=AV hmbn (A1 Gt.nx wu);rw[hCJ]at hJ;obtain⟨⟨es,clk,nI,J3⟩,_⟩:=hJ;have im:Q5 ρ' (k.base++r) es.toList:=by
    obtain⟨Lr,p,q⟩:=Ps J3;refine⟨Lr,p,I9.to ?_⟩;rw[q];exact(I9.of hCb |>.mono Gt.le).app (WZ hg fun j u hj=>by
     obtain⟨a,b⟩:=Zk j u hj;rw[DV]at b ⊢;exact⟨_,AD a,b⟩)
   let c2:Ctx:={c with M:=fun b=>c.M b∨b=C.lb∨C.P b,R:=fun y=>(c.R y∧y.block≠C.lb)∨∃τ,τ<Γ.kids.length∧Rs τ y,AP:=none}
   have FA:CK c2 w₁:=by
    refine⟨fun b hb=> ?_,fun y hy=> ?_,fun y hy hb=> ?_⟩
    ·rcases hb with hb|hb
     ·exact BY.ml b hb
     ·exact(hPl b hb).1
    ·rcases hy with hy|⟨τ,q1,q2⟩
     ·exact BY.rl y hy.1
     ·exact(oK τ y q1 q2).1
    ·rcases hy with hy|⟨τ,q1,q2⟩
     ·rcases hb with hb|hb|hb
      ·exact BY.rm y hy.1 hb
      ·exact hy.2 hb
      ·exact(hPl _ (.inr hb)).2.2 y hy.1 hb
     ·obtain⟨_,g2,g3,g4⟩:=oK τ y q1 q2;rcases hb with hb|hb|hb
      ·exact g2 hb
      ·exact g3 hb
      ·exact g4 hb
   have vL:=DN.rel _ _ _ Hr hl;have hbr1:BR ρ' c2 w₁ BL (.cells (SQ tl) DL C2 Lt true 0 true false):=by
    cases vL with
    |cells hs he gU hle Ax hR Tk =>
     refine .cells hs he gU hle (fun _=>⟨.inr (.inl kO.symm),fun _ off=> ?_⟩) (fun e=>by cases e) (fun _ j hj=> .inr ?_)
     ·have:=Oa.th off;rw[kO]at this;exact this
     ·rw[XL];have Hq:C.wa=⟨BL.blk,BN,none⟩:=by unfold Gm.Bo.wa; rw[kO,wL,ie]
      have nT:C.sa=⟨BL.blk,BN+1,none⟩:=by unfold Gm.Bo.sa; rw[kO,wL,ie]
      by_cases j1:j=BN+1
      ·refine⟨_,_,AD j1, ?_,.int _ _⟩;rw[j1, ← nT];exact Oa.sema
      ·rw[AA j1];by_cases j0:j=BN
       ·refine⟨_,_,AD j0, ?_,.int _ _⟩;rw[j0, ← Hq];exact Oa.word
       ·rw[AA j0];obtain⟨v,hv⟩:=G4 j hj j0 j1;rcases Tk rfl j hj with⟨_,_,hn⟩|⟨u,v',a,b,cc⟩
        ·rw[hv]at hn; cases hn
        ·exact⟨u,v',a,b,cc.mono Gt.le⟩
   have hbr2:BR ρ' c2 w₁ BM (.obj (.map (k.base++r).toArray 0)):= .obj nI (.map _ _ (by simpa using im)) (.inr (.inr ((hCP _).2 rfl)));have hHf:=HR.lT hHg hlb' hmb' nlm (uniq rX.ul (.inl rfl)) (uniq rX.um (.inr rfl)) hbr1 hbr2 rfl rfl (fun b hb=> .inl hb) (fun y hy hn=>by
    rcases hy with hy|⟨τ,q1,q2⟩
    ·exact .inl ⟨hy,by rw[kO]; exact hn⟩
    ·exact .inr ⟨τ,q1,by rw[DV]at q2; exact q2⟩) (t':=Wd k tl Lt r (JM pg.kids s.H).t) (fun x=>by
     unfold Wd;rw[T.AW _ _ _ _ mbk,T.AW _ _ _ _ rE])
   have nl: ∀{x X},ρ' x=some X→¬x<s.H.next→E.sz≤X.blk∧¬c.M X.blk:=fun {x X} hx Ac=>let h:=Gt.new x X Ac hx; ⟨h.1,h.2.1⟩
   subst Dj;have Mv:((JM pg.kids s.H).Ho (Wd k tl Lt r (JM pg.kids s.H).t)).next=(JM pg.kids s.H).next:=by
    generalize JM pg.kids s.H=HH;cases HH; rfl
   refine Tn _ (B3.2 rfl) ρ' c2 _ w₁ (fun x hx=>by cases hx) (.mk (fr:=fr.finish _) (cs:=cs) ((BO _ _ _ hp (.tuple .nil)).mono Gt.le) (hc.mono Gt.le) (by simpa using D7) (fun b hb=> ?_) hHf FA Dx h1 h2 hE.1.symm ?_)
   ·obtain⟨q1,q2⟩:=ET b (by simpa using hb);exact⟨by rw[Gt.old b q2]; exact q1,by rw[Mv]; exact AV q2 Gt.nx⟩
   ·refine⟨fun b hb=> ?_,fun y hy=> ?_,Bi.size,Bi.shape,Bi.tape,Bi.os,Bi.output,Bi.Fq.trans Gt.le,fun x X hx=> ?_,Bi.AL,⟨fun x X hx=> ?_,fun b hb=> ?_,Bi.al.AAe,Bi.al.sh⟩⟩
    ·obtain⟨m1,m2,m3⟩:=Bi.m b hb;refine⟨.inl m1,m2,fun x X hx e=> ?_⟩;by_cases Ac:x<s.H.next
     ·rw[Gt.old x Ac]at hx;exact m3 x X hx e
     ·exact(nl hx Ac).2 (e ▸m1)
    ·obtain⟨q1,q2⟩:=Bi.r y hy;exact⟨.inl ⟨q1,by rw[kO]; exact oR y hy⟩,q2⟩
    ·by_cases Ac:x<s.H.next
     ·rw[Gt.old x Ac]at hx;exact Bi.fresh x X hx
     ·exact .inl (A1 (Nat.le_max_left _ _) (nl hx Ac).1)
    ·by_cases Ac:x<s.H.next
     ·rw[Gt.old x Ac]at hx;exact Bi.al.al x X hx
     ·exact .inr (A1 (Nat.le_max_right _ _) (nl hx Ac).1)
    ·rcases hb with hb|hb|hb
     ·exact Bi.al.am b hb
     ·rw[hb,kO]; exact ol
     ·rw[(hCP b).1 hb]; exact om
end
def kZ(p:Nat→Bool)(d:Deferred):Bool:=match d with
 |⟨.fn (.func _) ys,AAe⟩=>AAe.toList.all (Zj p 6)&&ys.toList.all (Zj p 6)
 |_=>false
def y9(ng:Nat)(L0:List Nat)(p:Nat→Bool)(l:List Nat):Bool:=l.all fun x=>p x&&(Nat.blt x ng||L0.any (Nat.beq x))
def kg(p:Nat→Bool)(k:Ih):Bool:=p k.lb&&(p k.mb&&k.base.all fun e=>Zj p 6 e.val)
def U4(K:Bm)(xs:T XK)(ks:T (List AM))(ty j:Nat)(pg:PG)(k:Ih)(H H':PH)(L0 L S:List Nat)(d:Deferred):Option KV :=
 cond (rY H S&&(nC (IM H'.ng L) H' L&&(kZ (IM H'.ng L) d&&(IM H'.ng L pg.ch&&((match pg.wg with
   |none=>true
   |some (a,_)=>IM H'.ng L a)&&kg (IM H'.ng L) k))))) (match TQ K xs ks ty j pg k (QJ K.C.P d H')with
  |some kv=>cond (y9 H'.ng L0 (IM H'.ng L) kv.low) (some kv) none
  |none=>none) none
def So(K:Bm)(xs:T XK)(ks:T (List AM))(ty j:Nat)(pg:PG)(k:Ih)(s:DS):Option Dm :=
 match s with
 |⟨fr,cs,H,d⟩=>cond (Nat.beq d 0&&(!pg.closed&&Nat.blt pg.kids.length pg.cap)) (match cur ⟨fr,cs,H,d⟩with
  |some c=>match c.o.op with
   | .go cl=>match EM H.ng fr c.o cl with
    |some df=>match putAt ⟨fr,cs,H,d⟩ c undef with
     |some pf=>match XM pg.wg with
      |some Je=>match EO H (I5 df)with
       |L0=>match EO H (I5 df++k.base.flatMap fun e=>DK 6 e.val)with
        |L=>match Lo H L with
         |S=>match H.Ho (CC S H.t)with
          |H'=>match U4 K xs ks ty j pg k H H' L0 L S df with
           |some kv=>some ⟨.AP {pg with kids:=pg.kids++ [kv],wg:=Je},⟨pf,cs,H',d⟩⟩
           |none=>none
      |none=>none
     |none=>none
    |none=>none
   |_=>none
  |none=>none) none
structure W6(K:Bm):Prop where
 hC:An K.C
 Fc:C9 K.C.P K.xl
 D5:C9 K.C.P K.xq
 Bp:K.sz=DL
 Mw:K.lo=BN
 F:Mp K
 FU:KE K
 Ki: ∀f S,K.xl.get f=some (.Cn S)→(K.C.P.funcs[f]?).any (·.norace)=true
 XD:US K K.fl
 vo:US K K.fu
section
variable{K:Bm}{xs:T XK}{ks RQ:T (List AM)}{ty:TypeId}{Post:Value→World→Prop}
theorem RF(A:W6 K)(Au:C9 K.C.P xs)(Fw:Ez K.C ty Post false ks){j:Nat}{pg:PG}{k:Ih}(hk:pg.AY=some k){s:DS}{y:Dm}(h:So K xs ks ty j pg k s=some y):AU K.C.P ty Post true ⟨.AP pg,s⟩ [y]:=by
 obtain⟨fr,cs,H,d⟩:=s;unfold So at h;simp only at h;obtain⟨e0,h⟩:=Ay h;simp only[AF,BI]at e0;obtain⟨hd,Dq,A2⟩:=e0;split at h
 ·rename_i c hc;obtain⟨h1,h2,h3,h4⟩:=Ia hc;split at h
  ·rename_i cl A5;split at h
   ·rename_i df ed;split at h
    ·rename_i pf ep;obtain⟨tm,p1,rfl⟩:=Ee ep;split at h
     ·rename_i Je ewg;split at h
      ·rename_i kv XF;cases h;unfold U4 at XF;obtain⟨e1,XF⟩:=Ay XF;simp only[AF]at e1;obtain⟨g1,g2,g3,g4,g5,g6⟩:=e1;split at XF
       ·rename_i kv' em;obtain⟨e2,XF⟩:=Ay XF;cases XF;obtain⟨hK,DJ⟩:=R2 g2;have QU:=fun x hx=>(AF _ _).mp (AX.1 e2 x hx);have WQ:JA K.C.P ty Post _ pg kv _:=RK (p:=IM (H.Ho (CC (Lo H (EO H (I5 df++k.base.flatMap fun e=>DK 6 e.val))) H.t)).ng (EO H (I5 df++k.base.flatMap fun e=>DK 6 e.val))) A.hC A.Fc A.D5 A.Bp A.Mw A.F A.FU A.Ki A.XD A.vo Au Fw hk em;have El:(H.Ho (CC (Lo H (EO H (I5 df++k.base.flatMap fun e=>DK 6 e.val))) H.t)).ng=H.ng:=by cases H; rfl
        refine AU.spawn (s:=⟨fr,cs,H,d⟩) h1 h2 h3 h4 A5 ed p1 (AJ hd) Dq (.inr (AH A2)) ewg (Qd g1) hK ?_ g4 ?_ ?_ (.inl (by rw[hk]; simp)) (fun x hx=>(QU x hx).1) ?_ WQ
        ·unfold kZ at g3;unfold jJ;split at g3
         ·simp only[AF]at g3;exact g3
         ·cases g3
        ·intro a φ e;rw[e]at g5;exact g5
        ·intro k' ek;rw[hk]at ek; cases ek;unfold kg at g6;simp only[AF]at g6;exact⟨g6.1,g6.2.1,fun e he=>AX.1 g6.2.2 e he⟩
        ·intro ρ c' w hH d' Oz x hx;have:=(QU x hx).2;rw[DX]at this;rcases this with h|h
         ·obtain⟨B,hB,_⟩:=hH.EK x (by rw[← El]; exact AH h);exact⟨B,hB⟩
         ·obtain⟨z,z1,z2⟩:=Cp.1 h;rw[AJ z2];exact GF hH IJ _ _ _ (OE Oz) (fun x hx=>by cases hx) z z1
       ·cases XF
      ·cases h
     ·cases h
    ·cases h
   ·cases h
  ·cases h
 ·cases h
def Ty(_xs:T XK)(ty:Nat)(C:CB)(s:DS)(c:UT)(tmp:Nat)(keys:List (Option Value)):Option (List Dm) :=
 match s with
 |⟨fr,cs,H,d⟩=>cond (Nat.ble (H.next+1) (2^T.deep)) (match fr.tmps.get tmp with
  |some (.pointer (some ⟨lb,_,none⟩))=>match H.t.get lb with
   |some (.cells tl 7 144 Lt true 0 true false)=>match tl.get 4,tl.get 5,tl.get 6 with
    |some (.int .i32 (.ofNat 0)),some (.int .u32 (.ofNat 0)),some (.map (some mb))=>match H.t.get mb with
     |some (.obj (.map es _))=>match C.ty.get ty with
      |some (inf,_)=>match inf.zero with
       |some z=>cond (SV z&& !Nat.beq lb mb) (match putAt ⟨fr,cs,H,d⟩ c (.pointer (some ⟨H.next,0,none⟩))with
        |some pf=>some [⟨.AP ⟨lb,Am,[],some (H.next,.idle 0),false,some ⟨lb,4,mb,es.toList,keys⟩⟩,⟨pf,cs,fL ⟨lb,4,mb,es.toList,keys⟩ ty tl Lt H,d⟩⟩]
        |none=>none) none
       |none=>none
      |none=>none
     |_=>none
    |_,_,_=>none
   |_=>none
  |_=>none) none
theorem Rb{C:CB}(hC:An C){L:List Nat}{s:DS}{c:UT}(hc:cur s=some c)(A5:c.o.op= .alloc ty){tmp:Nat}{keys:List (Option Value)}{l:List Dm}(h:Ty xs ty C s c tmp keys=some l):AU C.P ty Post true ⟨.out L,s⟩ l:=by
 obtain⟨h1,h2,h3,h4⟩:=Ia hc;obtain⟨fr,cs,H,d⟩:=s;unfold Ty at h;simp only at h;obtain⟨e0,h⟩:=Ay h;split at h
 ·rename_i lb off et;split at h
  ·rename_i tl Lt el;split at h
   ·rename_i mb q0 q1 q2;split at h
    ·rename_i es clk em;split at h
     ·rename_i inf td ei;split at h
      ·rename_i z ez;obtain⟨e2,h⟩:=Ay h;rw[AF,BI]at e2;split at h
       ·rename_i pf ep;cases h;obtain⟨tm,p1,rfl⟩:=Ee ep;exact AU.oU (s:=⟨fr,cs,H,d⟩) (k:=⟨lb,4,mb,es.toList,keys⟩) hC.ty h1 h2 h3 h4 A5 ei ez (Nl e2.1) p1 (AH e0) (clk:=clk) ⟨el,q0,q1,q2,em,rfl,⟨tmp,off,et⟩,fun e=>by
         have e:lb=mb:=e;have:=e2.2;rw[e]at this;exact absurd (Nat.beq_refl mb) (by rw[this]; simp)⟩
       ·cases h
      ·cases h
     ·cases h
    ·cases h
   ·cases h
  ·cases h
 ·cases h
def kQ(tl:T Value):Bool:= [0,1,2,3,6].all fun j=>(tl.get j).isSome
theorem Y1{tl:T Value}(h:kQ tl=true): ∀j,j<DL→j≠BN→j≠BN+1→∃v,tl.get j=some v:=fun j h1 h2 h3=>by
 have h1:j<7:=h1;have h2:j≠4:=h2;have h3:j≠5:=h3;have:j∈ [0,1,2,3,6]:=by
  have:j=0∨j=1∨j=2∨j=3∨j=6:=by omega
  rcases this with rfl|rfl|rfl|rfl|rfl<;>simp
 exact Option.isSome_iff_exists.1 (AX.1 h j this)
def Y0(xs:T XK)(pg:PG)(k:Ih)(s:DS):Option (List Dm) :=
 match s with
 |⟨fr,cs,H,d⟩=>match pg.wg with
  |some (a,.fin)=>match I7 xs ⟨fr,cs,H,d⟩with
   |some (.acquire,p::_)=>cond (XH a 0 p&&(Nat.beq d 0&&(Nat.beq k.lo 4&&Tw pg.kids H))) (match IF ⟨fr,cs,H,d⟩ undef with
    |some pf=>match Wa k.keys (Yz pg.kids H)with
     |some r=>match H.t.get k.lb with
      |some (.cells tl 7 144 Lt false 0 true true)=>cond (kQ tl) (match JM pg.kids H with
       |⟨nx,t,ng,BF⟩=>some [⟨.out [],⟨pf,cs,⟨nx,Wd k tl Lt r t,ng,BF⟩,d⟩⟩]) none
      |_=>none
     |none=>none
    |none=>none) none
   |_=>none
  |_=>none
theorem Tv{P:Program}(Au:C9 P xs){pg:PG}{k:Ih}(hk:pg.AY=some k){s:DS}{l:List Dm}(h:Y0 xs pg k s=some l):AU P ty Post true ⟨.AP pg,s⟩ l:=by
 obtain⟨fr,cs,H,d⟩:=s;unfold Y0 at h;simp only at h;split at h
 ·rename_i a Az;split at h
  ·rename_i p t Bg;replace h:=Ay h; obtain⟨e0,h⟩:=h;simp only[AF]at e0;obtain⟨ep,ed,eo,eg⟩:=e0;have:=Dg ep;subst this;have ed:=AJ ed;subst ed;split at h
   ·rename_i pf epf;split at h
    ·rename_i r er;split at h
     ·rename_i tl Lt el;replace h:=Ay h; obtain⟨ef,h⟩:=h;have hg:=AU.NP (P:=P) (ty:=ty) (Post:=Post) (s:=⟨fr,cs,H,0⟩) Au (DI Bg) Az hk rfl epf eg er (AJ eo) el (Y1 ef);generalize hgh:JM pg.kids H=HH at h;have hgh':JM pg.kids (⟨fr,cs,H,0⟩:DS).H=HH:=hgh;rw[hgh']at hg;obtain⟨nx,t,ng,BF⟩:=HH;cases h;exact hg
     ·cases h
    ·cases h
   ·cases h
  ·cases h
 ·cases h
def PN(K:Bm)(xs:T XK)(ks:T (List AM))(ty j:Nat)(pg:PG)(s:DS):Option (List Dm) :=
 match pg.AY with
 |none=>Oh K.C xs ks ty j pg s
 |some k=>match cur s with
  |some c=>match c.o.op with
   | .go _=>match So K xs ks ty j pg k s with
    |some y=>some [y]
    |none=>none
   | .call cl=>match Y0 xs pg k s with
    |some l=>some l
    |none=>O1 xs pg s c cl
   |_=>none
  |none=>none
def PL(K:Bm)(xs:T XK)(RQ:T (List AM))(ty:Nat)(hint:DS→Option (Nat×List (Option Value)))(L:List Nat)(s:DS):Option (List Dm) :=
 match Og K.C ty L s with
 |some l=>some l
 |none=>match(match cur s with
  |some c=>match c.o.op with
   | .alloc t=>cond (Nat.beq t ty) (match hint s with
    |some (tmp,keys)=>Ty xs ty K.C s c tmp keys
    |none=>none) none
   |_=>none
  |none=>none)with
  |some l=>some l
  |none=>match Lb K.C xs RQ s with
   |some s'=>some [⟨.out L,s'⟩]
   |none=>none
def Qb(C:CB)(xs:T XK)(ks:T (List AM))(ty j:Nat)(ph:Ph)(s:DS):DS :=
 match ph with
 | .out _=>ZY C xs ks ty j s
 | .AP _=>Qg C xs j s
def Yv(K:Bm)(xs:T XK)(RQ ks:T (List AM))(ty j:Nat)(hint:DS→Option (Nat×List (Option Value)))(ph:Ph)(s:DS):Option (List Dm) :=
 match ph with
 | .out L=>PL K xs RQ ty hint L s
 | .AP pg=>PN K xs ks ty j pg s
def Zs(K:Bm)(xs:T XK)(RQ ks:T (List AM))(ty jk j:Nat)(hint:DS→Option (Nat×List (Option Value)))(fin:Dm→Bool)(f:Nat):Dm→Bool :=
 Nat.rec (motive:=fun _=>Dm→Bool) (fun _=>false) (fun _ ih x=>match x with
  |⟨ph,s⟩=>match Qb K.C xs RQ ty j ph s with
   |⟨fr,cs,H,d⟩=>match Yv K xs RQ ks ty jk hint ph ⟨fr,cs,H,d⟩with
    |some l=>l.all ih
    |none=>fin ⟨ph,⟨fr,cs,H,d⟩⟩) f
theorem PM(A:W6 K)(Au:C9 K.C.P xs)(Fw:Ez K.C ty Post false ks){j:Nat}{pg:PG}{s:DS}{l:List Dm}(h:PN K xs ks ty j pg s=some l):AU K.C.P ty Post true ⟨.AP pg,s⟩ l:=by
 unfold PN at h;split at h
 ·exact Kn A.hC Au Fw h
 ·rename_i k hk;split at h
  ·rename_i c hc;split at h
   ·split at h
    ·rename_i y e;cases h;exact RF A Au Fw hk e
    ·cases h
   ·rename_i cl A5;split at h
    ·rename_i e;cases h;exact Tv Au hk e
    ·exact K1 Au hc A5 h
   ·cases h
  ·cases h
theorem PK(hC:An K.C)(Au:C9 K.C.P xs)(Fw:Ez K.C ty Post true RQ){hint:DS→Option (Nat×List (Option Value))}{L:List Nat}{s:DS}{l:List Dm}(h:PL K xs RQ ty hint L s=some l):AU K.C.P ty Post true ⟨.out L,s⟩ l:=by
 unfold PL at h;split at h
 ·rename_i e;cases h;exact Km hC e
 ·split at h
  ·rename_i e;cases h;split at e
   ·rename_i c hc;split at e
    ·rename_i t A5;obtain⟨et,e⟩:=Ay e;have et:=AJ et;subst et;split at e
     ·exact Rb hC hc A5 e
     ·cases e
    ·cases e
   ·cases e
  ·split at h
   ·rename_i s' e;cases h;rw[NG]at e;exact AU.NF _ (Jw (E:=JB) hC Au Fw E8 e)
   ·cases h
theorem Tu(hC:An K.C)(Au:C9 K.C.P xs)(Fw:Ez K.C ty Post true RQ)(j:Nat)(ph:Ph)(s:DS):AU K.C.P ty Post true ⟨ph,s⟩ [⟨ph,Qb K.C xs RQ ty j ph s⟩]:=by
 unfold Qb;split
 ·exact AU.NF _ (Hy hC Au Fw j s)
 ·exact AU.P3 _ (Gr (E:=JB) hC Au E8 j s)
theorem J5(A:W6 K)(Au:C9 K.C.P xs)(eP:Ez K.C ty Post true RQ)(Fw:Ez K.C ty Post false ks){jk j:Nat}{hint:DS→Option (Nat×List (Option Value))}{fin:Dm→Bool}: ∀{f:Nat} {x:Dm},Zs K xs RQ ks ty jk j hint fin f x=true→O3 K.C.P ty Post true x fun y=>fin y=true
 |0,x,h=>by cases h
 |f+1,x,h=>by
  obtain⟨ph,s⟩:=x;have h:(match Qb K.C xs RQ ty j ph s with
   |⟨fr,cs,H,d⟩=>match Yv K xs RQ ks ty jk hint ph ⟨fr,cs,H,d⟩with
    |some l=>l.all (Zs K xs RQ ks ty jk j hint fin f)
    |none=>fin ⟨ph,⟨fr,cs,H,d⟩⟩)=true:=h
  refine O3.step (Tu A.hC Au eP j ph s) fun y hy=> ?_;rw[B3.1 hy];generalize Qb K.C xs RQ ty j ph s=s' at h;obtain⟨fr,cs,H,d⟩:=s';simp only at h;split at h
  ·rename_i l e;refine O3.step ?_ fun y hy=>J5 A Au eP Fw (AX.1 h y hy);unfold Yv at e;split at e
   ·exact PK A.hC Au eP e
   ·exact PM A Au Fw e
  ·exact O3.here h
def Fb(K:Bm)(xs:T XK)(RQ ks:T (List AM))(ty jk j:Nat)(hint:DS→Option (Nat×List (Option Value)))(f:Nat)(k:AM):Bool :=
 match K.C.fns.get k.g with
 |some fn=>match fn.body with
  |some body=>Zs K xs RQ ks ty jk j hint (oX K.C k) f ⟨.out [],k.K.start fn body⟩
  |none=>true
 |none=>true
theorem L3.ov(A:W6 K)(Au:C9 K.C.P xs)(eP:Ez K.C ty Post true RQ)(Fw:Ez K.C ty Post false ks){jk j:Nat}{hint:DS→Option (Nat×List (Option Value))}{f:Nat}{k:AM}(h:Fb K xs RQ ks ty jk j hint f k=true):L3 K.C ty Post true k.K:=by
 intro fn body h1 h2;have K0:K.C.fns.get k.g=some fn:=h1;unfold Fb at h;rw[K0]at h;simp only[h2]at h;exact L3.tC A.hC K0 h2 (J5 A Au eP Fw h) fn body h1 h2
end
end Go.Gd
namespace Go.Gd
open Go Go.Gw Go.Conc Go.Proofs
theorem UW:An C3:=dO (by kernel_rfl) (by kernel_rfl) (by kernel_rfl) (by kernel_rfl)
theorem C9.TH{P:Program}{l:List (Nat×XK)}(h1:l.all (fun p=>Nat.blt p.1 (2^T.deep))=true)(h: ∀p∈l,Ey P p.1 p.2):C9 P (Ag l .nil):=fun f k hk=>by
 rcases Bx (fun p hp=>AH (AX.1 h1 p hp)) hk with h'|h'
 ·exact h _ h'
 ·cases h'
def au(P:Program):List (Nat×XK)→Prop
 | []=>True
 |p::l=>Ey P p.1 p.2∧au P l
theorem au.mem{P:Program}: ∀{l:List (Nat×XK)},au P l→∀p∈l,Ey P p.1 p.2
 | [],_,p,hp=>by cases hp
 |q::l,h,p,hp=>by
  rcases AZ.1 hp with rfl|hp
  ·exact h.1
  ·exact h.2.mem p hp
theorem bQ:Ey Tryz.prog 116 (.disable):=⟨⟨Tryz.f116,Tryz.func116,by kernel_rfl,by kernel_rfl,by kernel_rfl,by kernel_rfl⟩⟩
theorem je:Ey Tryz.prog 117 (.Lv .i32):=⟨⟨Tryz.f117,Tryz.func117,by kernel_rfl,by kernel_rfl,by kernel_rfl,by kernel_rfl⟩⟩
theorem bP:Ey Tryz.prog 118 (.enable):=⟨⟨Tryz.f118,Tryz.func118,by kernel_rfl,by kernel_rfl,by kernel_rfl,by kernel_rfl⟩⟩
theorem jd:Ey Tryz.prog 119 (.acquire):=⟨⟨Tryz.f119,Tryz.func119,by kernel_rfl,by kernel_rfl,by kernel_rfl,by kernel_rfl⟩⟩
theorem jc:Ey Tryz.prog 121 (.Dw):=⟨⟨Tryz.f121,Tryz.func121,by kernel_rfl,by kernel_rfl,by kernel_rfl,by kernel_rfl⟩⟩
theorem jb:Ey Tryz.prog 122 (.add .i32):=⟨⟨Tryz.f122,Tryz.func122,by kernel_rfl,by kernel_rfl,by kernel_rfl,by kernel_rfl⟩⟩
theorem sE:Ey Tryz.prog 124 (.load .u32):=⟨⟨Tryz.f124,Tryz.func124,by kernel_rfl,by kernel_rfl,by kernel_rfl,by kernel_rfl⟩⟩
theorem rq:Ey Tryz.prog 160 (.store):=⟨⟨Tryz.f160,Tryz.func160,by kernel_rfl,by kernel_rfl,by kernel_rfl,by kernel_rfl⟩⟩
theorem sD:Ey Tryz.prog 131 (.QG false):=⟨⟨Tryz.f131,Tryz.func131,by kernel_rfl,by kernel_rfl,by kernel_rfl,by kernel_rfl⟩⟩
theorem sC:Ey Tryz.prog 136 (.read):=⟨⟨Tryz.f136,Tryz.func136,by kernel_rfl,by kernel_rfl,by kernel_rfl,by kernel_rfl⟩⟩
theorem sA:Ey Tryz.prog 143 (.write):=⟨⟨Tryz.f143,Tryz.func143,by kernel_rfl,by kernel_rfl,by kernel_rfl,by kernel_rfl⟩⟩
theorem rn:Ey Tryz.prog 168 (.add .u64):=⟨⟨Tryz.f168,Tryz.func168,by kernel_rfl,by kernel_rfl,by kernel_rfl,by kernel_rfl⟩⟩
theorem rk:Ey Tryz.prog 169 (.load .u64):=⟨⟨Tryz.f169,Tryz.func169,by kernel_rfl,by kernel_rfl,by kernel_rfl,by kernel_rfl⟩⟩
theorem rj:Ey Tryz.prog 170 (.store):=⟨⟨Tryz.f170,Tryz.func170,by kernel_rfl,by kernel_rfl,by kernel_rfl,by kernel_rfl⟩⟩
theorem ri:Ey Tryz.prog 171 (.Lv .u64):=⟨⟨Tryz.f171,Tryz.func171,by kernel_rfl,by kernel_rfl,by kernel_rfl,by kernel_rfl⟩⟩
theorem rp:Ey Tryz.prog 167 (.or .u64):=⟨⟨Tryz.f167,Tryz.func167,by kernel_rfl,by kernel_rfl,by kernel_rfl,by kernel_rfl⟩⟩
theorem sB:Ey Tryz.prog 140 (.FJ):=⟨⟨Tryz.f140,Tryz.func140,by kernel_rfl,by kernel_rfl,by kernel_rfl,by kernel_rfl⟩⟩
theorem rz:Ey Tryz.prog 144 (.EN):=⟨⟨Tryz.f144,Tryz.func144,by kernel_rfl,by kernel_rfl,by kernel_rfl,by kernel_rfl⟩⟩
theorem jZ:Ey Tryz.prog 159 (.FJ):=⟨⟨Tryz.f159,Tryz.func159,by kernel_rfl,by kernel_rfl,by kernel_rfl,by kernel_rfl⟩⟩
theorem ja:Ey Tryz.prog 157 (.EN):=⟨⟨Tryz.f157,Tryz.func157,by kernel_rfl,by kernel_rfl,by kernel_rfl,by kernel_rfl⟩⟩
theorem ry:Ey Tryz.prog 153 (.Cn Extern.Sync.canSpin):=⟨⟨Tryz.f153,Tryz.func153,by kernel_rfl,by kernel_rfl,by kernel_rfl,by kernel_rfl⟩⟩
theorem rv:Ey Tryz.prog 154 (.Cn Extern.Atomic.nothing):=⟨⟨Tryz.f154,Tryz.func154,by kernel_rfl,by kernel_rfl,by kernel_rfl,by kernel_rfl⟩⟩
theorem ru:Ey Tryz.prog 156 (.Cn Extern.OsHooks.nano):=⟨⟨Tryz.f156,Tryz.func156,by kernel_rfl,by kernel_rfl,by kernel_rfl,by kernel_rfl⟩⟩
set_option maxRecDepth 100000 in
theorem W2:C9 Tryz.prog X3:=C9.TH (by kernel_rfl) (au.mem ⟨bQ,je,bP,jd,jc,jb,sE,rq,sD,sC,sA,rn,rk,rj,ri,rp,sB,rz,jZ,ja,trivial⟩)
set_option maxRecDepth 100000 in
theorem w9:C9 Tryz.prog XL3:=C9.TH (by kernel_rfl) (au.mem ⟨bQ,je,bP,jd,jc,jb,ry,rv,ru,ja,jZ,trivial⟩)
set_option maxRecDepth 100000 in
theorem w8:C9 Tryz.prog XQ3:=C9.TH (by kernel_rfl) (au.mem ⟨bQ,bP,trivial⟩)
theorem te:(Tryz.prog.funcs[153]?).any (·.norace)=true:=by kernel_rfl
theorem tb:(Tryz.prog.funcs[154]?).any (·.norace)=true:=by kernel_rfl
theorem tZ:(Tryz.prog.funcs[156]?).any (·.norace)=true:=by kernel_rfl
theorem jU:Mp K3:=⟨uu,uS,uq,uo,uZ,uY,uX,uW,m8,m7,uV,m6,m5,iJ,uU,uT,m4,iH,uQ,tv,mh,tw,mj,uR,mr,my,mw,uP,mq,tz,mo⟩
theorem gH:KE K3:=⟨uO,uN,uK,uJ,uI,uH,uG,uF,uE,uD,uC,uB,uA⟩
theorem xF(f:FuncId)(fn:Func)(body:Code)(h:C3.fns.get f=some fn)(hb:fn.body=some body)(he:A4 fn=true):US K3 f:=⟨⟨fn,body,h,hb,he⟩⟩
theorem K3nr: ∀f S,K3.xl.get f=some (.Cn S)→(K3.C.P.funcs[f]?).any (·.norace)=true:=fun f S h=>by
 have h':XL3.get f=some (.Cn S):=h;rcases Bx (fun p hp=>AH (AX.1 (show([(116,.disable),(117,.Lv .i32),(118,.enable),(119,.acquire),(121,.Dw),(122,.add .i32),(153,.Cn Extern.Sync.canSpin),(154,.Cn Extern.Atomic.nothing),(156,.Cn Extern.OsHooks.nano),(157,.EN),(159,.FJ)]:List (Nat×XK)).all (fun p=>Nat.blt p.1 (2^T.deep))=true by kernel_rfl) p hp)) h' with h'|h'
 ·simp only[AZ,List.not_mem_nil,or_false,AR]at h';rcases h' with⟨rfl,e⟩|⟨rfl,e⟩|⟨rfl,e⟩|⟨rfl,e⟩|⟨rfl,e⟩|⟨rfl,e⟩|⟨rfl,e⟩|⟨rfl,e⟩|⟨rfl,e⟩|⟨rfl,e⟩|⟨rfl,e⟩
  ·cases e
  ·cases e
  ·cases e
  ·cases e
  ·cases e
  ·cases e
  ·exact te
  ·exact tb
  ·exact tZ
  ·cases e
  ·cases e
 ·cases h'
theorem lH:W6 K3:=⟨UW,w9,w8,rfl,rfl,jU,gH,K3nr,xF 54 Tryz.f54 _ (by kernel_rfl) rfl (by kernel_rfl),xF 55 Tryz.f55 _ (by kernel_rfl) rfl (by kernel_rfl)⟩
end Go.Gd
namespace Go.Gd
open Go Go.Gw Go.Conc
def jL(H:PH)(b off n st:Nat):List (Option Value):=match H.t.get b with
 |some (.cells t _ _ _ _ _ _ _)=>(List.range n).map fun i=>t.get (off+st*i)
 |_=> []
def ZJ(H:PH)(v:Option Value)(st k:Nat):List (Option Value):=match v with
 |some (.slice (some ⟨b,off,none⟩) n _)=>jL H b (off+k) n st
 |_=> []
def oJ(es:List MapEntry)(k:Value):Bool:=es.any fun e=>Rk 8 e.key k
def de(es:List MapEntry)(p:Value)(c:Option Value):Option Value:=match c with
 |some u=>match(Value.agg #[u,p])with
  |k=>cond (oJ es k) none (some k)
 |none=>none
def nE(H:PH)(es:List MapEntry)(l:List (Option Value)):List (Option Value)→List (Option Value) :=
 List.rec (motive:=fun _=>List (Option Value)→List (Option Value)) (fun _=> []) (fun a _ ih rs=>match rs with
  | []=> []
  |r::rs=>match a with
   |some (.iface 88 (.agg ⟨p::_⟩))=>(ZJ H r 1 0).map (de es p)++ih rs
   |some (.iface _ _)=>(ZJ H r 1 0).map (de es (.int .i64 (-1)))++ih rs
   |_=>ih rs) l
def CX(s:DS):Option (Nat×List (Option Value)):=match s with
 |⟨fr,_,H,_⟩=>cond (Nat.beq fr.fn 59) (match fr.tmps.get 0 with
  |some (.pointer (some ⟨lb,_,none⟩))=>match H.t.get lb with
   |some (.cells tl _ _ _ _ _ _ _)=>match tl.get 6 with
    |some (.map (some mb))=>match H.t.get mb with
     |some (.obj (.map es _))=>some (0,nE H es.toList (ZJ H (fr.tmps.get 1) 1 0) (ZJ H (tl.get 3) 2 1))
     |_=>none
    |_=>none
   |_=>none
  |_=>none) none
def Ak(ks:T (List AM))(k:AM):T (List AM) :=
 match ks.get k.g with
 |some l=>ks.set k.g (l++ [k])
 |none=>ks.set k.g [k]
section
variable{C:CB}{ty:TypeId}{Post:Value→World→Prop}{main:Bool}
theorem Ez.nil:Ez C ty Post main .nil:=fun g kl h=>by cases h
theorem Ez.add{ks:T (List AM)}{k:AM}(h:Ez C ty Post main ks)(hg:Nat.blt k.g (2^T.deep)=true)(hk:L3 C ty Post main k.K):Ez C ty Post main (Ak ks k):=by
 have hg:=AH hg;intro g kl Ew k' CP;unfold Ak at Ew;split at Ew
 ·rename_i l e;rw[T.AW _ _ _ _ hg]at Ew;split at Ew
  ·rename_i eg;cases Ew;rcases DY.1 CP with h'|h'
   ·rw[eg]; exact h _ _ e k' h'
   ·rw[B3.1 h',eg]; exact⟨rfl,hk⟩
  ·exact h _ _ Ew k' CP
 ·rw[T.AW _ _ _ _ hg]at Ew;split at Ew
  ·rename_i eg;cases Ew;rw[B3.1 CP,eg]; exact⟨rfl,hk⟩
  ·exact h _ _ Ew k' CP
end
end Go.Gd
namespace Go.Proofs.YtdhmjdkpfiaecaaGreat
open Go.ChangeShapes Go.WideShapes Go.RowKit Go.Gd Go.Conc
theorem own:ownKnob Tryz.prog.godebug=none:=by kernel_rfl
def XS:PH:=⟨0,.nil,0,.nil⟩
theorem bX(W:World):HR (lS 0) XS (ctx0 W) W :=
 ⟨Nat.zero_le _,fun _x _B h=>absurd (II h).1 (Nat.not_lt_zero _),fun _x _B _o h=>absurd (II h).1 (Nat.not_lt_zero _),fun _x _x' _B _B' h=>absurd (II h).1 (Nat.not_lt_zero _),fun _g hg=>absurd hg (Nat.not_lt_zero _),fun _x _B _o h=>absurd (II h).1 (Nat.not_lt_zero _)⟩
theorem Tc{w w':World}(h:Gd.Left w w')(may:MemPlace→Prop):w.keptBut {w' with os:=w.os} may:=by
 refine⟨rfl,h.output,fun i hi=> ?_⟩;show match w.heap[i]?,w'.heap[i]? with
  |some (.cells c t fr),some (.cells c' t' IC)=>t'=t∧IC=fr∧c'.size=c.size∧∀j:Nat,¬may (.cell i j)→c'[j]? =c[j]?
  |some (.map es clock),some (.map es' BP)=>may (.map i)∨(es'=es∧BP=clock)
  |o,o'=>o'=o
 rw[h.heap i hi];cases hw:w.heap[i]? with
 |none=>rfl
 |some o=>cases o<;>first|exact⟨rfl,rfl,rfl,fun _ _=>rfl⟩|exact .inr ⟨rfl,rfl⟩|rfl
set_option maxRecDepth 100000
section
variable{H:Type}{enc:TypeId×Value→H}
theorem aF{W W':World}(h:Gd.Left W W'){ds gs:List (DataW H)}{before:List MemPlace}(hW:DataW.Whole enc Tryz.prog Tryz.f3.params.toList Rows.castKnownSpec.vars false W (#[]:Array Value).toList ds gs before) :
  Rows.castKnownSpec.post enc Tryz.prog Tryz.f3 false true false false W #[] (.bool true) {W' with os:=W.os}:=by
 have hW':=hW;obtain⟨p,q,hA0,hV,rfl,_,_⟩:=hW;have hA:DataW.TrodAll enc Tryz.prog W 0 (fun _=>true) true Tryz.f3.params.toList [] ds p:=hA0;rw[Tryz.params3]at hA;obtain⟨rfl,rfl⟩:ds= []∧p= []:=by
  cases ds with
  |nil=>exact⟨rfl,hA⟩
  |cons d r=>exact absurd hA (by intro h; cases h)
 obtain⟨rfl,rfl⟩:=trodVars_none hV;exact⟨[],[],_,[],[],[],hW',trodAll_mk1 (shut_bool Tryz.underlying4 _),by rw[Tryz.params3]; exact rfl,rfl,Tc h _,fun h=>by cases h⟩
theorem gx(hT: ∀Post,O3 C3.P 212 Post true ⟨.out [],⟨CN 3 Tryz.f3 (Tryz.f3.body.getD .skip) [] .normal,[],XS,0⟩⟩ fun y=>Lp C3 (.bool true) y=true)(os:Os)(F:Stop.Interp) :
  ∀(w:World) (tape:Tape) (i:Input),w.os=os→(w.forCall tape i).ShapedOpen Tryz.prog→i.vars= []→Input.okWide Tryz.prog (w.forCall tape i) .any w.heap.size 3 i→Rows.castKnownRow.pre enc Tryz.prog Tryz.f3 (OpenSpec.ofChange Rows.castKnownSpec) (w.forCall tape i).memory i.args→
   Rows.castKnownRow.assume.holds Tryz.prog (lone (Frame.enter Tryz.prog 3 i.args .normal) [] (w.forCall tape i))→
   ∃N last o w' t',runNT Tryz.prog (N+1) (solo (G (Frame.enter Tryz.prog 3 i.args .normal) []) (w.forCall tape i)) #[]=(.ended o w',t')∧runN Tryz.prog N (solo (G (Frame.enter Tryz.prog 3 i.args .normal) []) (w.forCall tape i))= .next last∧
    step Tryz.prog last= .ended o w'∧Conc.Good Tryz.prog (fun v w'=>(OpenSpec.ofChange Rows.castKnownSpec).postWith enc Tryz.prog Tryz.f3 F (outsideKept [.timePasses]) Rows.castKnownRow.apart Rows.castKnownRow.fresh Rows.castKnownRow.handsOn (w.forCall tape i).blind i.args v w'.blind) last o w' t':=by
 intro w tape i _ Yi _ AO hpre _;obtain⟨_,_,_,NS,oA,_,_,_,Bp,_⟩:=AO;obtain rfl:NS=Tryz.f3:=As (oA.symm.trans Tryz.func3);have Kz:i.args= #[]:=by
  rw[Tryz.params3]at Bp;exact Eo Bp
 obtain⟨⟨ds,gs,before,hw,_⟩,_⟩:=hpre;rw[Kz]at hw ⊢;have Kv:=DataW.Whole.of_heap (w':=w.forCall tape i) (by rfl) hw;have Gv:C3.fns.get 3=some Tryz.f3:=by kernel_rfl
 have RX:Tryz.f3.body=some (Tryz.f3.body.getD .skip):=by kernel_rfl
 obtain⟨N,last,o,w1,t1,r1,r2,r3,v,e,⟨e1,e2⟩,r4,r5,r6,r7⟩:=bV (C:=C3) UW Gv RX (v0:= .bool true) rfl hT (fun x B h=>absurd (II h).1 (Nat.not_lt_zero _)) (bX (w.forCall tape i));subst e1;exact⟨N,last,o,w1,t1,r1,r2,r3,_,e,postWith_blind (postWith_of_post (aF e2 Kv) e2.os),r4,r5,r6,r7⟩
def wy(os:Os):World:=World.holding Tryz.prog os ⟨#[],#[],[]⟩
theorem witness(os:Os)(H:Type)(enc:TypeId×Value→H): ∃(w:World) (tape:Tape) (i:Input),w.os=os∧(w.forCall tape i).Shaped Tryz.prog∧i.vars= []∧Input.okWide Tryz.prog (w.forCall tape i) .any w.heap.size 3 i∧
  Rows.castKnownRow.pre enc Tryz.prog Tryz.f3 (OpenSpec.ofChange Rows.castKnownSpec) (w.forCall tape i).memory i.args∧Rows.castKnownRow.assume.holds Tryz.prog (lone (Frame.enter Tryz.prog 3 i.args .normal) [] (w.forCall tape i)) :=
 ⟨wy os,fun _ _=>0,⟨#[],#[],[]⟩,rfl,World.shaped_of_ZipB (by kernel_rfl) (by kernel_rfl),rfl,(Input.okWide_of_okWideB (by kernel_rfl)).2,
  ⟨ChangeSpec.pre_of_preB (fuel:=8) (by kernel_rfl),sizedMet_of_sizedB (fuel:=8) (by kernel_rfl)⟩,by
  show({calm:=true}:Assume).holds _ _;simp only[Assume.holds];exact⟨by simp,fun _ _ _ _=>rfl,by simp,by simp,by simp⟩⟩
theorem af(hT: ∀Post,O3 C3.P 212 Post true ⟨.out [],⟨CN 3 Tryz.f3 (Tryz.f3.body.getD .skip) [] .normal,[],XS,0⟩⟩ fun y=>Lp C3 (.bool true) y=true):Rows.CastKnownSaid :=
 OpenClaim.holds_of_wide_leaving_time 3 Tryz.f3 rfl rfl rfl rfl rfl rfl rfl ⟨rfl,rfl,rfl,rfl,rfl⟩ rfl rfl rfl rfl rfl (by kernel_rfl) Tryz.func3 (by kernel_rfl)
  (E6 (by kernel_rfl)) (by unfold Func.isWrapper; first|(rw[AD (by decide +kernel)]; kernel_rfl)|(rw[AA (by decide +kernel)]; exact⟨rfl,rfl⟩))
  (fun os started H enc _ F=>returnsInLeavingWide_of_good own started (witness os H enc) (gx hT os F))
end
end Go.Proofs.YtdhmjdkpfiaecaaGreat
end
