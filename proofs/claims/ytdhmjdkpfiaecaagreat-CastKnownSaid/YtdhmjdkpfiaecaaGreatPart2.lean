/- A part of the proof of CastKnown: no condition of its own. -/
import Derived.Test.YtdhmjdkpfiaecaaGreatPart1
import Derived.Conc.Own5
import Derived.Conc.DeferLaws
import Derived.Orders
import Derived.Laws.Entries
import Derived.Conc.EventLaws
import Derived.Laws.Sem
noncomputable section
namespace Go.Gw
open Go Go.Conc Go.ConcN
open Go.ConcR (KK wgBlock WgAt stA smA)
open Go.Gm (Bo Ct LP MW Ow Bz Am CI Tr Si Ib JQ)
section
variable{P:Program}{ty:TypeId}{Post:Value→World→Prop}{gs:Array Goroutine}{w:World}{t:Trace}{γ:Gh}{i:Nat}{g g':Goroutine}{w':World}{es:Array Event}{sl:Option (Nat×Nat)}
def jT(a:MemAct):Prop:= ∃b,a= .mark (.acquire b)∨a= .mark (.releaseMerge b)
theorem GI.mark(h:GI P ty Post gs w t γ)(hi:gs[i]? =some g)(Aq:stepG P (i==0) g w= .go g' w es)(hr:g'.status= .running){a:MemAct}(JJ:es.map MemAct.ofEvent= #[a])(hla:jT a)
  {γ':Gh} {n':Nat} (hn:n'<γ.nn i) (hd:γ'.d=γ.d) (iW:γ'.nn=upd γ.nn i n') (EJ:γ'.ps=L6 γ i (mayWake P g))
  (li:Links gs.size γ'.snd γ'.dec γ'.AP γ'.par γ'.acc γ'.ids γ'.Aw) (BX:bN w.heap.size γ'.M γ'.R (Cj γ'.AP) (Dh γ'.AP γ'.dec) γ'.q)
  (ti: ∀op:MemOp,op.g=i→op.act=a→TI gs.size w.heap.size γ'.M γ'.R (Cj γ'.AP) (Dh γ'.AP γ'.dec) γ'.q γ'.acc (t++ #[op])) (cr:Hn gs.size w γ'.AP γ'.ids γ'.Aw γ'.mt γ'.q γ'.ps γ'.cr) (mz: ∀j b,γ'.M j b→j<gs.size)
  (ft: ∀op:MemOp,op.g=i→op.act=a→∀j f,γ'.Aw j=some f→∃G,γ'.AP (γ'.par j)=some G∧Fe γ'.acc (t++ #[op]) G j f∧(∀a,f.R a→γ'.R j a)∧f.sp.ok f.v f.R w)
  (ch: ∀p G,γ'.AP p=some G→G.AY=none→∃buf s r,UU G (γ'.ids p) γ'.Aw w buf s r) (wg: ∀p G a φ,γ'.AP p=some G→G.wg=some (a,φ)→Kk ty (C8 gs.size γ'.dec a) γ'.dec (γ'.ps p) a w φ)
  (ho: ∀j,j≠i→γ'.cx j=γ.cx j) (QW: ∀p j,j∈γ'.ids p→j∈γ.ids p) (hW:W P ty Post (i==0) n' (γ'.cx i) g' w):Qz P ty Post gs w t γ sl i:=by
 have Ac:i<gs.size:=(A6.1 hi).1;obtain⟨op,A5,e1,e2⟩:=ofEvents_one (i:=i) (fn:=g.frame.fn) (pos:=g.frame.place) JJ;refine⟨_,_,_,runT_crowd_go hi Aq, ?_,(gs.map (woken P g g' w)).setIfInBounds i g',w,sl,γ',rfl, ?_,rfl⟩
 ·refine .left _ _ ?_;have:=sumTo_upd γ.nn n' (fun x=>x) Ac;simp only[Array.size_setIfInBounds,Array.size_map,iW];have this:sumTo gs.size (upd γ.nn i n')+γ.nn i=sumTo gs.size γ.nn+n':=this;omega
 have Bp:((gs.map (woken P g g' w)).setIfInBounds i g').size=gs.size:=by simp
 rw[A5];refine⟨by rw[Bp]; exact li,BX,by rw[Bp]; exact ti op e1 e2,by rw[Bp]; exact cr,FW h.W9 (fun o Ck b=> ?_),fun j b hb=>by rw[Bp]; exact mz j b hb,fun j hj=> ?_,ft op e1 e2,ch,fun p G a φ hG ha=>by rw[Bp]; exact wg p G a φ hG ha,fun j gj hj=> ?_,fun p hp j hj hs=> ?_⟩
 ·simp at Ck; subst Ck; rw[e2];obtain⟨c,rfl|rfl⟩:=hla<;>simp
 ·rw[Bp]at hj;rw[Deaf_push,hd, ← h.df j hj];obtain⟨c,rfl|rfl⟩:=hla<;>simp only[deafStep,e2]<;>split<;>rfl
 ·by_cases e:j=i
  ·subst e;rw[Bs (by simpa using Ac)]at hj;cases hj;have hp:L6 γ j (mayWake P g) j= .run:=by simp[L6]
   rw[EJ,hp,iW,upd_same];exact .run hW
  ·rw[Bb (fun x=>e x.symm),Array.getElem?_map]at hj;obtain⟨o,Ck,rfl⟩:=CL.1 hj;have hs:=h.Ms j o Ck;have hp:L6 γ i (mayWake P g) j=if mayWake P g=true∧(γ.ps j= .Di∨γ.ps j= .HC)then .run else γ.ps j:=by simp[L6,e]
   rw[EJ,hp,iW,upd_ne _ _ e,ho j e];refine hs.woken (.inl hr) (fun wq sp hm hc=> ?_) (fun G hG I2=> ?_)
   ·have hc:γ.snd j=some (wq,sp):=hc;obtain⟨k,G,_,h2,h3,_⟩:=h.li.NB hc;obtain⟨buf,s,r,hb⟩:=h.ch _ _ h2 (h.cr.IN h.li hc hm h2);have ho:=Is h.li h.wg hc h2;exact⟨G.cap,buf,s,r,by rw[← h3,hb.at_,ho]⟩
   ·obtain⟨buf,s,r,hb⟩:=h.ch j G hG I2;exact⟨buf,s,r,hb.at_⟩
 ·rw[EJ]at hp hs;exact h.nr p (Gx hp (by simp)).1 j (QW p j hj) (Gx hs (by simp)).1
theorem HG.iC{n:Nat}{AP:Nat→Option CZ}{ids:Nat→List Nat}{Aw:Nat→Option Jc}{mt:Nat→Option Jb}{q:Lk}{ps:Nat→PS}{k:Ja}(c:HG n w AP ids Aw mt q ps k){μ:Ct}(hm:k.AL i=some μ)(h1:μ.lp= .hold)(h2:μ.ow= .no)(b:Nat)(hb:k.C.P b):q.P b :=
 (c.qP b).2 ⟨hb,c.ci.Ju hm h1 h2⟩
theorem GI.YY(h:GI P ty Post gs w t γ)(hi:gs[i]? =some g)(Aq:stepG P (i==0) g w= .go g' w es)(hr:g'.status= .running){x:Jb}{k:Ja}(K:Q0 gs w γ i x k)(hd:γ.d i=0)(hl:x.μ.lp= .hold)(ho:x.μ.ow= .no)(JJ:es.map MemAct.ofEvent= #[.mark (.acquire x.C.wa)]){n':Nat}(hn:n'<γ.nn i)
  (hW: ∀σ,x.C.J σ w→σ x.μ.tk=none→(∀b,x.C.P b→b<w.heap.size∧Apart (γ.cx i) b)→W P ty Post (i==0) n' {γ.cx i with M:=fun b=>γ.M i b∨x.C.P b,AL:=some {x with μ:={x.μ with ow:= .own w}}} g' w):Qz P ty Post gs w t γ sl i:=by
 have Ac:i<gs.size:=(A6.1 hi).1;have c:=K.at_;have qP:=fun b hb=>c.iC (i:=i) K.AL hl ho b hb;obtain⟨hJ,hσ,Zp⟩:=c.ci.acq K.AL hl ho;have xa:=c.ci.Ju K.AL hl ho;have L:=h.BX
 let γ':Gh:={γ with M:=upd γ.M i (fun b=>γ.M i b∨k.C.P b),q:={γ.q with P:=fun _=>False},nn:=upd γ.nn i n',ps:=L6 γ i (mayWake P g),mt:=upd γ.mt i (some ⟨k.C,{x.μ with ow:= .own w}⟩),cr:=some {k with AL:=upd k.AL i (some {x.μ with ow:= .own w})}}
 have up: ∀{j b:Nat},γ'.M j b→γ.M j b∨(j=i∧γ.q.P b):=by
  intro j b hb;have hb:upd γ.M i (fun b=>γ.M i b∨k.C.P b) j b:=hb;by_cases e:j=i
  ·subst e; rw[upd_same]at hb; exact hb.imp id fun y=>⟨rfl,qP b y⟩
  ·rw[upd_ne _ _ e]at hb; exact .inl hb
 have gP:=K.C;refine h.mark hi Aq hr JJ ⟨_,.inl rfl⟩ (γ':=γ') hn rfl rfl rfl h.li ?_ (fun op e1 e2=> ?_) ?_ (fun j b hb=>(up hb).elim (h.mz j b) fun y=>by rw[y.1]; exact Ac) (fun op e1 e2 j f hf=> ?_) h.ch (fun p G a φ hG ha=>(h.wg p G a φ hG ha).mono rfl fun e=>(Ik e).1) (fun j hj=> ?_) (fun _ _=>id) ?_
 ·refine⟨fun a b y p q=> ?_,fun j b p=>(up p).elim (L.ml j b) fun y=>L.pl b y.2,fun j p b y hp=>(up y).elim (fun z=>L.ms j p b z hp) fun z=>L.ps p b z.2 hp,L.rl,fun a j y ha hj=>(up hj).elim (L.rm a j y ha) fun z=>L.pr a y z.2 ha,L.rs,L.ss,L.sl,L.ts,L.kb,L.kr,fun j b hB hj=>(up hj).elim (L.bm j b hB) fun z=>L.pb b z.2 hB,L.br,L.bs,L.bl,fun _ _ hP=>hP.elim,fun _ _ hP=>hP.elim,fun _ _ hP=>hP.elim,fun _ hP=>hP.elim,fun _ hP=>hP.elim⟩;rcases up p with p1|⟨p1,p2⟩<;>rcases up q with q1|⟨q1,q2⟩
  ·exact L.mm a b y p1 q1
  ·exact absurd p1 (L.pm a y q2)
  ·exact absurd q1 (L.pm b y p2)
  ·rw[p1,q1]
 ·have hq:γ.q.la=x.C.wa:=by rw[c.qa,gP]
  exact h.ti.lock (h.W9 _) Ac K.on.1 ⟨e1,by rw[e2,hq]⟩ (by rw[h.df i Ac,hd]) (fun j b=>up)
 ·show HG gs.size w γ.AP γ.ids γ.Aw (upd γ.mt i (some ⟨k.C,_⟩)) {γ.q with P:=fun _=>False} _ {k with AL:=upd k.AL i (some {x.μ with ow:= .own w})};have md: ∀{j:Nat} {ν:Ct},upd k.AL i (some {x.μ with ow:= .own w}) j=some ν→(j=i∧ν={x.μ with ow:= .own w})∨(j≠i∧k.AL j=some ν):=by
   intro j ν hj;by_cases e:j=i
   ·subst e; rw[upd_same]at hj; cases hj; exact .inl ⟨rfl,rfl⟩
   ·rw[upd_ne _ _ e]at hj; exact .inr ⟨e,hj⟩
  refine⟨Zp,c.g0,c.no,fun τ j hj=> ?_,fun j ν hj=> ?_,fun j=> ?_,fun j f ν Oy hj=> ?_,fun j hj=> ?_,fun j=> ?_,c.qK,c.qB,fun b=> ?_,c.qa,fun j e=>c.Di j (Gx e (by simp)).1⟩
  ·obtain⟨ν,h1,h2⟩:=c.JU τ j hj;by_cases e:j=i
   ·subst e;rw[K.AL]at h1; cases h1;exact⟨_,upd_same _ _ _,h2⟩
   ·exact⟨ν,by show upd k.AL i _ j=_; rw[upd_ne _ _ e]; exact h1,h2⟩
  ·rcases md hj with⟨rfl,_⟩|⟨_,e⟩
   ·exact K.mem
   ·exact c.mem j ν e
  ·show upd γ.mt i _ j=match γ.Aw j with|none=>(upd k.AL i _ j).map _|some _=>none
   by_cases e:j=i
   ·subst e; rw[upd_same,upd_same,K.Aw]; rfl
   ·rw[upd_ne _ _ e,upd_ne _ _ e]; exact c.TO j
  ·rcases md hj with⟨rfl,_⟩|⟨_,e⟩
   ·rw[K.Aw]at Oy; cases Oy
   ·exact c.bI j f ν Oy e
  ·by_cases e:j=i
   ·subst e; exact c.YR j (.inr K.Aw)
   ·refine c.YR j (hj.imp (fun y=> ?_) id);have y:upd k.AL i (some {x.μ with ow:= .own w}) j=none:=y
    rwa [upd_ne _ _ e]at y
  ·show _↔j=0∨upd k.AL i _ j≠none;rw[show({γ.q with P:=fun _=>False}:Lk).mt j↔γ.q.mt j from Iff.rfl,c.qm j];by_cases e:j=i
   ·subst e; rw[upd_same,K.AL]; simp
   ·rw[upd_ne _ _ e]
  ·exact⟨fun y=>y.elim,fun y=>y.2 i _ w (upd_same _ _ _) rfl⟩
 ·obtain⟨G,h1,h2,h3,h4⟩:=h.ft j f hf;exact⟨G,h1,Et (by rw[e2]; rfl) h2,h3,h4⟩
 ·simp[γ',Gh.cx,upd_ne _ _ hj]
 ·have:=hW k.σ (by rw[gP]; exact hJ) hσ (fun b hb=>by
   rw[gP]at hb;exact⟨L.pl b (qP b hb),L.pm i b (qP b hb),fun y hy e=>L.pr i y (by rw[e]; exact qP b hb) hy⟩)
  have e:γ'.cx i={γ.cx i with M:=fun b=>γ.M i b∨x.C.P b,AL:=some {x with μ:={x.μ with ow:= .own w}}}:=by
   simp only[γ',Gh.cx,upd_same,gP]
  rw[e]; exact this
theorem GI.YU(h:GI P ty Post gs w t γ)(hi:gs[i]? =some g)(Aq:stepG P (i==0) g w= .go g' w es)(hr:g'.status= .running){x:Jb}{k:Ja}(K:Q0 gs w γ i x k)(hd:γ.d i=0){wa:World}(ho:x.μ.ow= .own wa)(hP: ∀b,x.C.P b→γ.M i b)(JJ:es.map MemAct.ofEvent= #[.mark (.releaseMerge x.C.wa)]){n':Nat}(hn:n'<γ.nn i)
  {v:Value} (hJ: ∀σ,x.C.J σ wa→σ x.μ.tk=none→x.C.J (upd σ x.μ.tk (some v)) w)
  (hW:W P ty Post (i==0) n' {γ.cx i with M:=fun b=>γ.M i b∧¬x.C.P b,AL:=some {x with μ:={x.μ with ow:= .put v}}} g' w):Qz P ty Post gs w t γ sl i:=by
 have Ac:i<gs.size:=(A6.1 hi).1;have c:=K.at_;have gP:=K.C;rw[gP]at hP hJ;have Zp:=c.ci.rel K.AL ho (v:=v) hJ;have vh:x.μ.lp= .hold:=Gm.MT (ho ▸c.ci.LX i _ K.AL);have L:=h.BX
 let γ':Gh:={γ with M:=upd γ.M i (fun b=>γ.M i b∧¬k.C.P b),q:={γ.q with P:=k.C.P},nn:=upd γ.nn i n',ps:=L6 γ i (mayWake P g),mt:=upd γ.mt i (some ⟨k.C,{x.μ with ow:= .put v}⟩),cr:=some {k with AL:=upd k.AL i (some {x.μ with ow:= .put v}),σ:=upd k.σ x.μ.tk (some v)}}
 have up: ∀{j b:Nat},γ'.M j b→γ.M j b∧(j=i→¬k.C.P b):=by
  intro j b hb;have hb:upd γ.M i (fun b=>γ.M i b∧¬k.C.P b) j b:=hb;by_cases e:j=i
  ·subst e; rw[upd_same]at hb; exact⟨hb.1,fun _=>hb.2⟩
  ·rw[upd_ne _ _ e]at hb; exact⟨hb,fun y=>absurd y e⟩
 refine h.mark hi Aq hr JJ ⟨_,.inr rfl⟩ (γ':=γ') hn rfl rfl rfl h.li ?_ (fun op e1 e2=> ?_) ?_ (fun j b hb=>h.mz j b (up hb).1) (fun op e1 e2 j f hf=> ?_) h.ch (fun p G a φ hG ha=>(h.wg p G a φ hG ha).mono rfl fun e=>(Ik e).1) (fun j hj=> ?_) (fun _ _=>id) ?_
 ·exact⟨fun a b y p q=>L.mm a b y (up p).1 (up q).1,fun j b p=>L.ml j b (up p).1,fun j p b y hp=>L.ms j p b (up y).1 hp,L.rl,fun a j y ha hj=>L.rm a j y ha (up hj).1,L.rs,L.ss,L.sl,L.ts,L.kb,L.kr,fun j b hB hj=>L.bm j b hB (up hj).1,L.br,L.bs,L.bl,
   fun j b hb hj=>(up hj).2 (L.mm j i b (up hj).1 (hP b hb)) hb,fun j y hb ha=>L.rm j i y ha (hP _ hb),fun p b hb hp=>L.ms i p b (hP b hb) hp,fun b hb=>L.ml i b (hP b hb),fun b hb hB=>L.bm i b hB (hP b hb)⟩
 ·have hq:γ.q.la=x.C.wa:=by rw[c.qa,gP]
  exact h.ti.unlock Ac K.on ⟨e1,by rw[e2,hq]⟩ (by rw[h.df i Ac,hd]) (fun j b hb=>(up hb).1) hP
 ·show HG gs.size w γ.AP γ.ids γ.Aw (upd γ.mt i (some ⟨k.C,_⟩)) {γ.q with P:=k.C.P} _ {k with AL:=upd k.AL i (some {x.μ with ow:= .put v}),σ:=upd k.σ x.μ.tk (some v)};have md: ∀{j:Nat} {ν:Ct},upd k.AL i (some {x.μ with ow:= .put v}) j=some ν→(j=i∧ν={x.μ with ow:= .put v})∨(j≠i∧k.AL j=some ν):=by
   intro j ν hj;by_cases e:j=i
   ·subst e; rw[upd_same]at hj; cases hj; exact .inl ⟨rfl,rfl⟩
   ·rw[upd_ne _ _ e]at hj; exact .inr ⟨e,hj⟩
  refine⟨Zp,c.g0,c.no,fun τ j hj=> ?_,fun j ν hj=> ?_,fun j=> ?_,fun j f ν Oy hj=> ?_,fun j hj=> ?_,fun j=> ?_,c.qK,c.qB,fun b=> ?_,c.qa,fun j e=>c.Di j (Gx e (by simp)).1⟩
  ·obtain⟨ν,h1,h2⟩:=c.JU τ j hj;by_cases e:j=i
   ·subst e;rw[K.AL]at h1; cases h1;exact⟨_,upd_same _ _ _,h2⟩
   ·exact⟨ν,by show upd k.AL i _ j=_; rw[upd_ne _ _ e]; exact h1,h2⟩
  ·rcases md hj with⟨rfl,_⟩|⟨_,e⟩
   ·exact K.mem
   ·exact c.mem j ν e
  ·show upd γ.mt i _ j=match γ.Aw j with|none=>(upd k.AL i _ j).map _|some _=>none
   by_cases e:j=i
   ·subst e; rw[upd_same,upd_same,K.Aw]; rfl
   ·rw[upd_ne _ _ e,upd_ne _ _ e]; exact c.TO j
  ·rcases md hj with⟨rfl,_⟩|⟨_,e⟩
   ·rw[K.Aw]at Oy; cases Oy
   ·exact c.bI j f ν Oy e
  ·by_cases e:j=i
   ·subst e; exact c.YR j (.inr K.Aw)
   ·refine c.YR j (hj.imp (fun y=> ?_) id);have y:upd k.AL i (some {x.μ with ow:= .put v}) j=none:=y
    rwa [upd_ne _ _ e]at y
  ·show _↔j=0∨upd k.AL i _ j≠none;rw[show({γ.q with P:=k.C.P}:Lk).mt j↔γ.q.mt j from Iff.rfl,c.qm j];by_cases e:j=i
   ·subst e; rw[upd_same,K.AL]; simp
   ·rw[upd_ne _ _ e]
  ·refine⟨fun y=>⟨y,fun j ν wb hj e=> ?_⟩,fun y=>y.1⟩;rcases md hj with⟨_,rfl⟩|⟨e1,e2⟩
   ·cases e
   ·exact e1 (c.ci.alone K.AL e2 vh (Gm.MT (e ▸c.ci.LX j ν e2))).symm
 ·obtain⟨G,h1,h2,h3,h4⟩:=h.ft j f hf;exact⟨G,h1,Et (by rw[e2]; rfl) h2,h3,h4⟩
 ·simp[γ',Gh.cx,upd_ne _ _ hj]
 ·have e:γ'.cx i={γ.cx i with M:=fun b=>γ.M i b∧¬x.C.P b,AL:=some {x with μ:={x.μ with ow:= .put v}}}:=by
   simp only[γ',Gh.cx,upd_same,gP]
  rw[e]; exact hW
theorem GI.P8(h:GI P ty Post gs w t γ)(hi:gs[i]? =some g)(Aq:stepG P (i==0) g w= .go g' w es)(hr:g'.status= .running){x:Jb}{k:Ja}(K:Q0 gs w γ i x k)(hd:γ.d i=0){v:Value}{ch a:Nat}{sp:Spec}(hl:x.μ.lp= .fin)(ho:x.μ.ow= .put v)(hsend:γ.snd i=some (ch,sp))(A0:γ.dec i=some (a,.cnt))(hG:γ.AP i=none)
  (JJ:es.map MemAct.ofEvent= #[.mark (.releaseMerge (stA a))]) {n':Nat} (hn:n'<γ.nn i) {Rm:Addr→Prop} (AO:sp.ok v Rm w) (ID: ∀y,Rm y→y.block<w.heap.size∧y.block≠x.C.lb∧(γ.R i y∨γ.M i y.block))
  (hW:W P ty Post (i==0) n' {γ.cx i with M:=fun _=>False,R:=Rm,send:=none,AL:=none} g' w):Qz P ty Post gs w t γ sl i:=by
 have Ac:i<gs.size:=(A6.1 hi).1;have c:=K.at_;have gP:=K.C;have L:=h.BX;obtain⟨_,_,_,G0,ψ,d1,d2⟩:=h.li.HE i a _ A0;rw[K.par]at d1;have vy: ∃C,G0.AY=some C:=by
  have hv:=c.g0;unfold Fy at hv;rw[d1]at hv;have hv:G0.cv=_:=hv;cases e:G0.AY with
  |some C=>exact⟨C,rfl⟩
  |none=>rw[Ev e]at hv; cases hv
 obtain⟨C0,hC0⟩:=vy
 let f0:Jc:=⟨sp,v,Rm,0,t.size⟩
 let γ':Gh:={γ with M:=upd γ.M i (fun _=>False),R:=upd γ.R i Rm,snd:=upd γ.snd i none,Aw:=upd γ.Aw i (some f0),q:={γ.q with hand:=upd γ.q.hand i (some t.size)},nn:=upd γ.nn i n',ps:=L6 γ i (mayWake P g),mt:=upd γ.mt i none,cr:=some k}
 have up: ∀{j b:Nat},γ'.M j b→γ.M j b∧j≠i:=by
  intro j b hb;have hb:upd γ.M i (fun _=>False) j b:=hb;by_cases e:j=i
  ·subst e; rw[upd_same]at hb; exact hb.elim
  ·rw[upd_ne _ _ e]at hb; exact⟨hb,e⟩
 have ur: ∀{j:Nat} {y:Addr},γ'.R j y→(j≠i∧γ.R j y)∨(j=i∧Rm y):=by
  intro j y hy;have hy:upd γ.R i Rm j y:=hy;by_cases e:j=i
  ·subst e; rw[upd_same]at hy; exact .inr ⟨rfl,hy⟩
  ·rw[upd_ne _ _ e]at hy; exact .inl ⟨e,hy⟩
 have wH:γ.q.hand i=none:=K.on.2;refine h.mark hi Aq hr JJ ⟨_,.inr rfl⟩ (γ':=γ') hn rfl rfl rfl (h.li.lO hsend hG rfl) ?_ (fun op e1 e2=> ?_) ?_ (fun j b hb=>h.mz j b (up hb).1) (fun op e1 e2 j f hf=> ?_) (fun p G Ar I2=> ?_) (fun p G a φ Ar ha=>(h.wg p G a φ Ar ha).mono rfl fun e=>(Ik e).1) (fun j hj=> ?_) (fun _ _=>id) ?_
 ·refine⟨fun p q y hp hq=>L.mm p q y (up hp).1 (up hq).1,fun j b p=>L.ml j b (up p).1,fun j p b y hp=>L.ms j p b (up y).1 hp,fun j y hy=> ?_,fun p j y hp hj=> ?_,fun j p y hy hp=> ?_,L.ss,L.sl,L.ts,L.kb,fun j y hK hy=> ?_,fun j b hB hj=>L.bm j b hB (up hj).1,fun j y hB hy=> ?_,L.bs,L.bl,fun j b hb hj=>L.pm j b hb (up hj).1,fun j y hb hy=> ?_,L.ps,L.pl,L.pb⟩
  ·rcases ur hy with⟨_,e⟩|⟨_,e⟩
   ·exact L.rl j y e
   ·exact(ID y e).1
  ·obtain⟨m1,m2⟩:=up hj;rcases ur hp with⟨_,e⟩|⟨_,e⟩
   ·exact L.rm p j y e m1
   ·rcases(ID y e).2.2 with z|z
    ·exact L.rm i j y z m1
    ·exact m2 (L.mm _ _ _ m1 z)
  ·rcases ur hy with⟨_,e⟩|⟨_,e⟩
   ·exact L.rs j p y e hp
   ·exact(ID y e).2.2.elim (fun z=>L.rs i p y z hp) fun z=>L.ms i p _ z hp
  ·rcases ur hy with⟨_,e⟩|⟨_,e⟩
   ·exact L.kr j y hK e
   ·exact(ID y e).2.2.elim (L.kr i y hK) (L.bm i _ (L.kb y hK))
  ·rcases ur hy with⟨e0,e⟩|⟨_,e⟩
   ·obtain⟨o1,o2⟩:=L.br j y hB e;exact⟨⟨o1.1,by show upd γ.q.hand i _ j=none; rw[upd_ne _ _ e0]; exact o1.2⟩,o2⟩
   ·exact absurd ((c.qB _).1 hB) (by rw[← gP]; exact(ID y e).2.1)
  ·rcases ur hy with⟨_,e⟩|⟨_,e⟩
   ·exact L.pr j y hb e
   ·exact(ID y e).2.2.elim (L.pr i y hb) (L.pm i _ hb)
 ·exact h.ti.hand Ac ⟨e1,by rw[e2]; rfl⟩ wH (fun j b hb=>(up hb).1) (fun j y hy=>by
   rcases ur hy with⟨_,e⟩|⟨rfl,e⟩
   ·exact .inl e
   ·exact(ID y e).2.2)
 ·show HG gs.size w γ.AP γ.ids (upd γ.Aw i (some f0)) (upd γ.mt i none) {γ.q with hand:=upd γ.q.hand i (some t.size)} _ k;refine⟨c.ci,c.g0,c.no,c.JU,c.mem,fun j=> ?_,fun j f ν Oy hj=> ?_,fun j hj=> ?_,c.qm,c.qK,c.qB,c.qP,c.qa,fun j e=>c.Di j (Gx e (by simp)).1⟩
  ·by_cases e:j=i
   ·subst e; rw[upd_same,upd_same]
   ·rw[upd_ne _ _ e,upd_ne _ _ e]; exact c.TO j
  ·show _∧_∧upd γ.q.hand i (some t.size) j=some f.q;by_cases e:j=i
   ·subst e;rw[upd_same]at Oy ⊢; cases Oy;rw[K.AL]at hj; cases hj;exact⟨hl,ho,rfl⟩
   ·rw[upd_ne _ _ e]at Oy ⊢; exact c.bI j f ν Oy hj
  ·show upd γ.q.hand i (some t.size) j=none;by_cases e:j=i
   ·subst e;rw[upd_same]at hj;rcases hj with hj|hj
    ·rw[K.AL]at hj; cases hj
    ·cases hj
   ·rw[upd_ne _ _ e]at hj ⊢; exact c.YR j hj
 ·have hf:upd γ.Aw i (some f0) j=some f:=hf;by_cases e:j=i
  ·subst e;rw[upd_same]at hf; cases hf;refine⟨G0,by show γ.AP (γ.par j)=_; rw[K.par]; exact d1, ?_,fun y hy=>by show upd γ.R j Rm j y; rw[upd_same]; exact hy,AO⟩;unfold Fe;rw[hC0];exact⟨a,ψ,d2,FR.new h.ti ⟨e1,e2⟩ (by rw[h.df j Ac,hd]) (fun b hb=>(ID b hb).2.2)⟩
  ·rw[upd_ne _ _ e]at hf;obtain⟨G,h1,h2,h3,h4⟩:=h.ft j f hf;exact⟨G,h1,Et (by rw[e2]; rfl) h2,fun y hy=>by show upd γ.R i Rm j y; rw[upd_ne _ _ e]; exact h3 y hy,h4⟩
 ·obtain⟨buf,s,r,hc⟩:=h.ch p G Ar I2;have ni:i∉γ.ids p:=fun hm=>by
   obtain⟨_,_,_,_,o2,_,_,_,_,o7,_⟩:=h.li.CO hm;rw[K.par]at o7;rw[← o7]at Ar;have Ar:γ.AP 0=some G:=Ar;rw[d1]at Ar; cases Ar;rw[hC0]at I2; cases I2
  refine⟨buf,s,r,hc.at_,hc.un,hc.sum, ?_,fun q u hq=> ?_⟩
  ·show(γ.ids p).countP (Cw (upd γ.Aw i (some f0)))=buf.size;rw[GP ni]; exact hc.cnt
  ·obtain⟨j,f,r1,r2,r3⟩:=hc.msg q u hq;have BK:j≠i:=fun e=>ni (e ▸r1);exact⟨j,f,r1,(upd_ne _ _ BK).trans r2,r3⟩
 ·simp[γ',Gh.cx,upd_ne _ _ hj]
 ·have e:γ'.cx i={γ.cx i with M:=fun _=>False,R:=Rm,send:=none,AL:=none}:=by simp only[γ',Gh.cx,upd_same]
  rw[e]; exact hW
end
section
variable{P:Program}{ty:TypeId}{Post:Value→World→Prop}{gs:Array Goroutine}{w:World}{t:Trace}{γ:Gh}{g g':Goroutine}{w':World}{es:Array Event}{sl:Option (Nat×Nat)}
theorem GI.y0(h:GI P ty Post gs w t γ)(hG:γ.AP 0=none):γ.cr=none:=by
 have hc:=h.cr;cases e:γ.cr with
 |none=>rfl
 |some k =>
  rw[e]at hc;have hc:HG gs.size w γ.AP γ.ids γ.Aw γ.mt γ.q γ.ps k:=hc;have:=hc.g0;unfold Fy at this;rw[hG]at this; cases this
theorem GI.Jx(h:GI P ty Post gs w t γ)(hi:gs[0]? =some g)(EJ:γ.ps 0= .run){n' ch a:Nat}{C:Bo}{R':Addr→Prop}(hG:γ.AP 0=none)(Hr:γ.M 0 C.lb)(ha:γ.M 0 a)(hP: ∀b,C.P b→γ.M 0 b)(R7:a≠C.lb)(kL: ¬C.P a)(Hh:ch≠a)(hw:WgAt ty a w 0 0)
  (_hR: ∀y,γ.R 0 y→R' y) (RY: ∀y,R' y→γ.R 0 y∨(y.block=C.lb∧y.spot=none∧y≠C.wa∧y≠C.sa)) (hk:Bz C w ⟨false,false,false,0⟩ 0) (hJ:C.J (fun _=>none) w)
  (hW:W P ty Post true n' {γ.cx 0 with M:=fun b=>γ.M 0 b∧b≠C.lb∧b≠a∧¬C.P b,R:=R',AP:=some {ch,cap:=Am,kids:= [],wg:=some (a,.idle 0),closed:=false,AY:=some C}} g w) :
  GI P ty Post gs w t {γ with M:=upd γ.M 0 (fun b=>γ.M 0 b∧b≠C.lb∧b≠a∧¬C.P b),R:=upd γ.R 0 R',AP:=upd γ.AP 0 (some {ch,cap:=Am,kids:= [],wg:=some (a,.idle 0),closed:=false,AY:=some C}),nn:=upd γ.nn 0 n',q:=⟨fun y=>y=C.wa∨y=C.sa,fun j=>j=0,C.P,C.wa,fun b=>b=C.lb,fun _=>none⟩,cr:=some ⟨C,fun _=>none,Am,⟨false,false,false,0⟩,0,fun _=>none⟩}:=by
 have Ac:0<gs.size:=h.li.pos;have I2:=h.y0 hG;have BW:=h.cr;rw[I2]at BW;have BW:xA γ.AP γ.mt γ.q:=BW;have nf:γ.Aw 0=none:=by
  cases e:γ.Aw 0 with
  |none=>rfl
  |some f =>
   obtain⟨_,_,_,_,_,hp,_⟩:=h.li.K4 e;omega
 generalize WV:({ch,cap:=Am,kids:= [],wg:=some (a,Lz.idle 0),closed:=false,AY:=some C}:CZ)=G0 at hW ⊢;have e1:G0.AY=some C:=by subst WV; rfl
 have e2:G0.wg=some (a,.idle 0):=by subst WV; rfl
 have gb: ∀{b:Nat},GB G0 b→b=a:=by
  rintro b (⟨e,_⟩|⟨φ,e⟩)
  ·rw[e1]at e; cases e
  ·rw[e2]at e; cases e; rfl
 have S': ∀{p b:Nat},Cj (upd γ.AP 0 (some G0)) p b→Cj γ.AP p b∨(p=0∧b=a):=by
  rintro p b ⟨G,Ar,hb⟩;by_cases e:p=0
  ·subst e; rw[upd_same]at Ar; cases Ar; exact .inr ⟨rfl,gb hb⟩
  ·rw[upd_ne _ _ e]at Ar; exact .inl ⟨G,Ar,hb⟩
 have old: ∀{p b:Nat},Cj γ.AP p b→Cj (upd γ.AP 0 (some G0)) p b:=by
  rintro p b ⟨G,Ar,hb⟩;have e:p≠0:=fun e=>by rw[e,hG]at Ar; cases Ar
  exact⟨G,by rw[upd_ne _ _ e]; exact Ar,hb⟩
 have up: ∀{j b:Nat},upd γ.M 0 (fun b=>γ.M 0 b∧b≠C.lb∧b≠a∧¬C.P b) j b→γ.M j b∧b≠C.lb∧b≠a∧¬C.P b:=by
  intro j b hb;by_cases e:j=0
  ·subst e; rw[upd_same]at hb; exact hb
  ·rw[upd_ne _ _ e]at hb;exact⟨hb,fun x=>e (h.BX.mm _ _ _ hb (x ▸Hr)),fun x=>e (h.BX.mm _ _ _ hb (x ▸ha)),fun x=>e (h.BX.mm _ _ _ hb (hP b x))⟩
 have ur: ∀{j:Nat} {y:Addr},upd γ.R 0 R' j y→γ.R j y∨(j=0∧y.block=C.lb∧y.spot=none∧y≠C.wa∧y≠C.sa):=by
  intro j y hy;by_cases e:j=0
  ·subst e; rw[upd_same]at hy; exact(RY y hy).imp id fun x=>⟨rfl,x⟩
  ·rw[upd_ne _ _ e]at hy; exact .inl hy
 have x5: ∀{j:Nat} {y:Addr},upd γ.R 0 R' j y→γ.R j y∨γ.M j y.block:=fun hy=>(ur hy).imp id fun⟨x1,x2,_⟩=>by rw[x1,x2]; exact Hr
 have L:=h.BX;have T: ∀{j b:Nat},Dh (upd γ.AP 0 (some G0)) γ.dec j b→Dh γ.AP γ.dec j b∨(j=0∧b=a):=by
  rintro j b (hb|⟨φ,hb⟩)
  ·exact(S' hb).imp .inl id
  ·exact .inl (.inr ⟨φ,hb⟩)
 refine⟨h.li.found Ac h.li.za hG nf (by subst WV; rfl) (by subst WV; rfl) (by subst WV; simp[Am]) (fun b φ hb=>by rw[e2]at hb; cases hb; subst WV; exact Hh.symm), ?_, ?_, ?_,h.W9,fun j b hb=>h.mz j b (up hb).1,h.df,fun j f hf=> ?_,fun p G Ar oE=> ?_,fun p G b φ Ar hb=> ?_,fun j gj hj=> ?_,h.nr⟩
 ·refine⟨fun p q y hp hq=>L.mm p q y (up hp).1 (up hq).1,fun j b p=>L.ml j b (up p).1,fun j p b hj hp=> ?_,fun j y hy=>(x5 hy).elim (L.rl j y) (L.ml j _),fun p j y hp hj=> ?_,fun j p y hy hp=> ?_,fun p q b hp hq=> ?_,fun p b hp=> ?_,fun j b hb=> ?_,fun y hK=> ?_,fun j y hK hy=> ?_,fun j b hB hj=>(up hj).2.1 hB,fun j y hB hy=> ?_,fun p b hB hp=> ?_,fun b hB=> ?_,fun j b hb hj=>(up hj).2.2.2 hb,fun j y hb hy=> ?_,fun p b hb hp=> ?_,fun b hb=>L.ml 0 b (hP b hb),fun b hb hB=> ?_⟩
  ·rcases S' hp with e|⟨_,e⟩
   ·exact L.ms j p b (up hj).1 e
   ·exact(up hj).2.2.1 e
  ·rcases ur hp with e|⟨_,e,_⟩
   ·exact L.rm p j y e (up hj).1
   ·exact(up hj).2.1 e
  ·rcases S' hp with e|⟨_,e⟩
   ·exact(x5 hy).elim (fun z=>L.rs j p y z e) fun z=>L.ms j p _ z e
   ·rcases ur hy with z|⟨_,z,_⟩
    ·exact L.rm j 0 y z (by rw[e]; exact ha)
    ·exact R7 (e.symm.trans z)
  ·rcases S' hp with x|⟨x1,x2⟩<;>rcases S' hq with z|⟨z1,z2⟩
   ·exact L.ss p q b x z
   ·exact absurd x (L.ms 0 p b (by rw[z2]; exact ha))
   ·exact absurd z (L.ms 0 q b (by rw[x2]; exact ha))
   ·rw[x1,z1]
  ·rcases S' hp with e|⟨_,e⟩
   ·exact L.sl p b e
   ·rw[e]; exact L.ml 0 a ha
  ·rcases hb with hb|⟨φ,hb⟩
   ·exact⟨j,hb⟩
   ·obtain⟨p,hp⟩:=L.ts j b (.inr ⟨φ,hb⟩);exact⟨p,old hp⟩
  ·rcases hK with rfl|rfl<;>rfl
  ·rcases ur hy with e|⟨_,_,_,n1,n2⟩
   ·have hb:y.block=C.lb:=by rcases hK with rfl|rfl<;>rfl
    exact L.rm j 0 y e (by rw[hb]; exact Hr)
   ·exact hK.elim n1 n2
  ·rcases ur hy with e|⟨e0,_,e,_⟩
   ·have hB:y.block=C.lb:=hB;exact absurd (hB ▸Hr:γ.M 0 y.block) (L.rm j 0 y e)
   ·exact⟨⟨e0,rfl⟩,e⟩
  ·have hB:b=C.lb:=hB;rcases S' hp with e|⟨_,e⟩
   ·exact L.ms 0 p b (hB ▸Hr) e
   ·exact R7 (e.symm.trans hB)
  ·have hB:b=C.lb:=hB;rw[hB]; exact L.ml 0 _ Hr
  ·rcases ur hy with e|⟨_,e,_⟩
   ·exact L.rm j 0 y e (hP _ hb)
   ·exact C.tj (e ▸hb)
  ·rcases S' hp with e|⟨_,e⟩
   ·exact L.ms 0 p b (hP b hb) e
   ·exact kL (e ▸hb)
  ·have hB:b=C.lb:=hB;exact C.tj (hB ▸hb)
 ·have T1:=h.ti.freeze (M':=γ.M) (R':=γ.R) (S':=Cj (upd γ.AP 0 (some G0))) (T':=Dh (upd γ.AP 0 (some G0)) γ.dec) (fun _ _=>id) (fun _ _=> .inl) (fun j b p hb hp=>by
   rcases T hb with x|⟨x1,x2⟩
   ·rcases S' hp with z|⟨_,z⟩
    ·exact .inl ⟨x,z⟩
    ·obtain⟨p',He⟩:=L.ts j b x;exact absurd He (L.ms 0 p' b (by rw[z]; exact ha))
   ·exact .inr (by rw[x1,x2]; exact ha))
  exact T1.ix (p:=0) (fun j b hb=>(up hb).1) (fun j y hy=>x5 hy) (fun j hj=>hj) (fun y hy=>by rcases hy with rfl|rfl<;>rfl) (fun b hb=>by rw[show b=C.lb from hb]; exact Hr) hP
 ·show HG gs.size w (upd γ.AP 0 (some G0)) γ.ids γ.Aw γ.mt _ γ.ps _;have hi0:γ.ids 0= []:=by
   cases e:γ.ids 0 with
   |nil=>rfl
   |cons b l =>
    obtain⟨_,G',_,_,Cz,_⟩:=h.li.CO (p:=0) (j:=b) (by rw[e]; simp);rw[hG]at Cz; cases Cz
  refine⟨CI.found hk hJ, ?_,fun p hp=> ?_,fun τ j hj=>(by rw[hi0]at hj; simp at hj),fun j μ hj=>(by cases hj),fun j=> ?_,fun j f μ _ hj=>(by cases hj),fun _ _=>rfl,fun j=>(by simp),fun _=>Iff.rfl,fun _=>Iff.rfl,fun b=> ?_,rfl,fun _ _=>rfl⟩
  ·unfold Fy;rw[upd_same];show G0.cv=_;rw[T0 e1];subst WV; rfl
  ·unfold Fy;rw[upd_ne _ _ hp]; exact BW.no p
  ·show γ.mt j=match γ.Aw j with|none=>(none:Option Ct).map _|some _=>none
   rw[BW.TO j];cases γ.Aw j<;>rfl
  ·exact⟨fun x=>⟨x,fun _ _ _ y=>(by cases y)⟩,fun x=>x.1⟩
 ·obtain⟨G,h1,h2,h3,h4⟩:=h.ft j f hf;have hf:γ.Aw j=some f:=hf;have e:γ.par j≠0:=fun e=>by rw[e,hG]at h1; cases h1
  refine⟨G,by show upd γ.AP 0 _ (γ.par j)=_; rw[upd_ne _ _ e]; exact h1,h2,fun y hy=> ?_,h4⟩;show upd γ.R 0 R' j y;by_cases e':j=0
  ·subst e'; rw[nf]at hf; cases hf
  ·rw[upd_ne _ _ e']; exact h3 y hy
 ·have Ar:upd γ.AP 0 (some G0) p=some G:=Ar;by_cases e:p=0
  ·subst e;rw[upd_same]at Ar; cases Ar;rw[e1]at oE; cases oE
  ·rw[upd_ne _ _ e]at Ar; exact h.ch p G Ar oE
 ·have Ar:upd γ.AP 0 (some G0) p=some G:=Ar;by_cases e:p=0
  ·subst e;rw[upd_same]at Ar; cases Ar;rw[e2]at hb; cases hb;have nd: ∀j φ,γ.dec j≠some (a,φ):=fun j φ e=>by
    obtain⟨q,hq⟩:=L.ts j a (.inr ⟨φ,e⟩);exact L.ms 0 q a ha hq
   have hv:C8 gs.size γ.dec a=0:=by
    have: ∀m,sumTo m (fun j=>cw a (γ.dec j))=0:=by
     intro m;induction m with
     |zero=>rfl
     |succ m ih =>
      simp only[sumTo,ih];cases e:γ.dec m with
      |none=>rfl
      |some y =>
       obtain⟨b,ψ⟩:=y;have:b≠a:=fun e'=>nd m ψ (by rw[e,e']);cases ψ<;>simp[cw,this]
    exact this _
   refine⟨by show C8 gs.size γ.dec a≤0; omega,by omega,fun j φ e=>absurd e (nd j φ), ?_⟩;show WgAt ty a w (C8 gs.size γ.dec a*KK) 0;rw[hv];simpa using hw
  ·rw[upd_ne _ _ e]at Ar; exact h.wg p G b φ Ar hb
 ·by_cases e:j=0
  ·subst e;rw[hi]at hj; cases hj;show KD P ty Post (0==0) (upd γ.nn 0 n' 0) _ _ _ (γ.ps 0);rw[EJ,upd_same];refine .run ?_;simp only[Gh.cx,upd_same];exact hW
  ·have hs:=h.Ms j gj hj;show KD P ty Post (j==0) (upd γ.nn 0 n' j) _ _ _ (γ.ps j);rw[upd_ne _ _ e];have:Gh.cx {γ with M:=upd γ.M 0 (fun b=>γ.M 0 b∧b≠C.lb∧b≠a∧¬C.P b),R:=upd γ.R 0 R',AP:=upd γ.AP 0 (some G0),nn:=upd γ.nn 0 n',q:=⟨fun y=>y=C.wa∨y=C.sa,fun j=>j=0,C.P,C.wa,fun b=>b=C.lb,fun _=>none⟩,cr:=some ⟨C,fun _=>none,Am,⟨false,false,false,0⟩,0,fun _=>none⟩} j=γ.cx j:=by simp[Gh.cx,upd_ne _ _ e]
   rw[this]; exact hs
theorem GI.Iv(h:GI P ty Post gs w t γ)(hi:gs[0]? =some g)(Aq:stepG P (0==0) g w= .go g' w es)(hr:g'.status= .running)(hd:γ.d 0=0){G:CZ}{C:Bo}{a:Nat}(hG:γ.AP 0=some G)(hC:G.AY=some C)(Az:G.wg=some (a,.fin))(JJ:es.map MemAct.ofEvent= #[.mark (.acquire (stA a))]){n':Nat}(hn:n'<γ.nn 0)
  (hW: ∀(vs:Nat→Value) (Rs:Nat→Addr→Prop),(∀(τ:Nat) (sp:Spec),G.kids[τ]? =some sp→sp.ok (vs τ) (Rs τ) w)→(∀τ y,τ<G.kids.length→Rs τ y→y.block<w.heap.size∧¬γ.M 0 y.block∧y.block≠C.lb∧¬C.P y.block)→
   C.J (fun τ=>if τ<G.kids.length then some (vs τ)else none) w→Bz C w ⟨false,false,false,0⟩ 0→(∀b,b=C.lb∨C.P b→b<w.heap.size∧¬γ.M 0 b∧∀y,γ.R 0 y→C.P y.block→False)→
   W P ty Post true n' {γ.cx 0 with M:=fun b=>γ.M 0 b∨b=C.lb∨C.P b,R:=fun y=>(γ.R 0 y∧y.block≠C.lb)∨∃τ,τ<G.kids.length∧Rs τ y,AP:=none} g' w):Qz P ty Post gs w t γ sl 0:=by
 have Ac:0<gs.size:=h.li.pos;obtain⟨q1,q2,q3,q4,q5,q6,q7,q8⟩:=h.li.gn _ G hG;obtain⟨_,k,hk,hkC,Dq,hkl,A2⟩:=h.cr.Wr hG (by rw[hC]; simp);rw[hC]at hkC;cases hkC;have c:=h.cr;rw[hk]at c;have c:HG gs.size w γ.AP γ.ids γ.Aw γ.mt γ.q γ.ps k:=c;have L:=h.BX;have hv:=h.wg 0 G a _ hG Az;have all: ∀j∈γ.ids 0,γ.snd j=none∧γ.dec j=none∧∃f,γ.Aw j=some f:=by
  intro j hj;obtain⟨κ,G',sp,o1,o2,o3,o4,o5,o6,o7,o8⟩:=h.li.CO hj;rw[hG]at o2; cases o2;have nd:γ.dec j=none:=by
   cases e:γ.dec j with
   |none=>rfl
   |some x =>
    obtain⟨b,φ⟩:=x;obtain⟨_,_,_,Ii,ψ,r4,r5⟩:=h.li.HE j b φ e;rw[o7,hG]at r4; cases r4;rw[Az]at r5;simp only[AE,AR]at r5;obtain⟨rfl,rfl⟩:=r5;have:=hv.2 j φ e;subst this;have:=En o5 e;have:=hv.1;omega
  rcases o8 with⟨s1,s2,s3⟩|⟨s1,_,f,s3,_⟩
  ·rw[Az]at s3;rw[nd]at s3; cases s3
  ·exact⟨s1,nd,f,s3⟩
 have wc: ∀j b φ,γ.dec j=some (b,φ)→γ.par j≠0:=fun j b φ e e'=>by
  obtain⟨r1,r2,r3,_⟩:=h.li.HE j b φ e;have ny:j≠0:=fun x=>by rw[x,h.li.zd]at e; cases e
  have:=h.li.self j r1 r2 ny;rw[e']at this;rw[(all j this).2.1]at e; cases e
 have mf: ∀{j:Nat} {μ:Ct},k.AL j=some μ→∃f,γ.Aw j=some f∧μ.lp= .fin∧μ.ow= .put f.v∧γ.q.hand j=some f.q:=by
  intro j μ hj;obtain⟨_,_,f,hf⟩:=all j (c.mem j μ hj);exact⟨f,hf,c.bI j f μ hf hj⟩
 obtain⟨Oa,hJ,BO⟩:=c.ci.NC fun j μ hj=>(mf hj).choose_spec.2.1;have Ju: ∀j μ wa,k.AL j=some μ→μ.ow≠ .own wa:=fun j μ wa hj e=>by
  obtain⟨f,_,_,e',_⟩:=mf hj;rw[e']at e; cases e
 have qP: ∀b,k.C.P b→γ.q.P b:=fun b hb=>(c.qP b).2 ⟨hb,Ju⟩;have js: ∀j,j≠0→¬γ.q.on j:=fun j hj ⟨o1,o2⟩=>by
  obtain⟨μ,hμ⟩:=Option.ne_none_iff_exists'.1 (((c.qm j).1 o1).resolve_left hj);obtain⟨f,_,_,_,e⟩:=mf hμ;rw[o2]at e; cases e
 have TZ: ∀{j:Nat} {f:Jc},j∈γ.ids 0→γ.Aw j=some f→j≠0:=fun hj _=>by
  obtain⟨_,_,_,_,_,_,o4,_⟩:=h.li.CO hj;omega
 have flR: ∀{j:Nat} {f:Jc},j∈γ.ids 0→γ.Aw j=some f→∀y,f.R y→γ.R j y∧y.block≠k.C.lb:=fun hj hf y hy=>by
  obtain⟨G',_,_,h3,_⟩:=h.ft _ _ hf;exact⟨h3 y hy,fun e=>js _ (TZ hj hf) (L.br _ y ((c.qB _).2 e) (h3 y hy)).1⟩
 let vs:Nat→Value:=fun τ=>match(γ.ids 0)[τ]? with|some j=>(match γ.Aw j with|some f=>f.v|none=>undef)|none=>undef
 let Rs:Nat→Addr→Prop:=fun τ y=> ∃j f,(γ.ids 0)[τ]? =some j∧γ.Aw j=some f∧f.R y
 let R0:Addr→Prop:=fun y=>(γ.R 0 y∧y.block≠k.C.lb)∨∃τ,τ<G.kids.length∧Rs τ y
 let γ':Gh:={γ with M:=upd γ.M 0 (fun b=>γ.M 0 b∨b=k.C.lb∨k.C.P b),R:=upd γ.R 0 R0,AP:=upd γ.AP 0 none,acc:=fun g=>if γ.acc g∈γ.ids 0 then 0 else γ.acc g,ids:=upd γ.ids 0 [],Aw:=fun j=>if j∈γ.ids 0 then none else γ.Aw j,q:=⟨fun _=>False,fun _=>False,fun _=>False,⟨0,0,none⟩,fun _=>False,fun _=>none⟩,nn:=upd γ.nn 0 n',ps:=L6 γ 0 (mayWake P g),cr:=none}
 have yJ: ∀{τ:Nat} {y:Addr},Rs τ y→∃j,j∈γ.ids 0∧γ.R j y∧y.block≠k.C.lb:=fun⟨j,f,h1,h2,h3⟩=>⟨j,Cg h1,flR (Cg h1) h2 _ h3⟩;have up: ∀{j b:Nat},γ'.M j b→γ.M j b∨(j=0∧(γ.q.P b∨γ.q.B b)):=by
  intro j b hb;have hb:upd γ.M 0 (fun b=>γ.M 0 b∨b=k.C.lb∨k.C.P b) j b:=hb;by_cases e:j=0
  ·subst e;rw[upd_same]at hb;rcases hb with x|x|x
   ·exact .inl x
   ·exact .inr ⟨rfl,.inr ((c.qB b).2 x)⟩
   ·exact .inr ⟨rfl,.inl (qP b x)⟩
  ·rw[upd_ne _ _ e]at hb; exact .inl hb
 have ur: ∀{j:Nat} {y:Addr},γ'.R j y→∃j',γ.R j' y∧y.block≠k.C.lb∧(j'=j∨j'∈γ.ids 0):=by
  intro j y hy;have hy:upd γ.R 0 R0 j y:=hy;by_cases e:j=0
  ·subst e;rw[upd_same]at hy;rcases hy with⟨x1,x2⟩|⟨τ,_,x⟩
   ·exact⟨0,x1,x2,.inl rfl⟩
   ·obtain⟨j,x1,x2,x3⟩:=yJ x;exact⟨j,x2,x3,.inr x1⟩
  ·rw[upd_ne _ _ e]at hy;exact⟨j,hy,fun e'=>js j e (L.br j y ((c.qB _).2 e') hy).1,.inl rfl⟩
 have S': ∀{p b:Nat},Cj (upd γ.AP 0 none) p b→Cj γ.AP p b∧p≠0:=by
  rintro p b ⟨G',Ar,hb⟩;by_cases e:p=0
  ·subst e; rw[upd_same]at Ar; cases Ar
  ·rw[upd_ne _ _ e]at Ar; exact⟨⟨G',Ar,hb⟩,e⟩
 have dS: ∀{j b:Nat} {φ:IE},γ.dec j=some (b,φ)→Cj (upd γ.AP 0 none) (γ.par j) b:=by
  intro j b φ e;obtain⟨_,_,_,G',ψ,q4,q5⟩:=h.li.HE j b φ e;exact⟨G',by rw[upd_ne _ _ (wc j b φ e)]; exact q4,.inr ⟨ψ,q5⟩⟩
 have aO: ∀{p j:Nat},p≠0→j∈γ.ids p→j∉γ.ids 0:=fun hp hj ny=>by
  obtain⟨_,_,_,_,_,_,_,_,_,o7,_⟩:=h.li.CO hj;obtain⟨_,_,_,_,_,_,_,_,_,o7',_⟩:=h.li.CO ny;exact hp (o7.symm.trans o7')
 refine h.mark hi Aq hr JJ ⟨_,.inl rfl⟩ (γ':=γ') hn rfl rfl rfl (Links.NP _ h.li rfl hG (fun j hj=>(all j hj).2.2) wc) ?_ (fun op e1 e2=> ?_) ?_ (fun j b hb=>(up hb).elim (h.mz j b) fun x=>by rw[x.1]; exact Ac) (fun op e1 e2 j f hf=> ?_) (fun p G' Ar I2=> ?_) (fun p G' b φ Ar hb=> ?_) (fun j hj=> ?_) (fun p j hj=> ?_) ?_
 ·refine⟨fun p q y hp hq=> ?_,fun j b hj=>(up hj).elim (L.ml j b) fun x=>x.2.elim (L.pl b) (L.bl b),fun j p b hj hp=> ?_,fun j y hy=> ?_,fun p j y hp hj=> ?_,fun j p y hy hp=> ?_,fun p q b hp hq=>L.ss p q b (S' hp).1 (S' hq).1,fun p b hp=>L.sl p b (S' hp).1,fun j b hb=> ?_,fun _ x=>x.elim,fun _ _ x=>x.elim,fun _ _ x=>x.elim,fun _ _ x=>x.elim,fun _ _ x=>x.elim,fun _ x=>x.elim,fun _ _ x=>x.elim,fun _ _ x=>x.elim,fun _ _ x=>x.elim,fun _ x=>x.elim,fun _ x=>x.elim⟩
  ·rcases up hp with p1|⟨p1,p2⟩<;>rcases up hq with z1|⟨z1,z2⟩
   ·exact L.mm p q y p1 z1
   ·exact(z2.elim (L.pm p y) (L.bm p y) p1).elim
   ·exact(p2.elim (L.pm q y) (L.bm q y) z1).elim
   ·rw[p1,z1]
  ·rcases up hj with x|⟨_,x⟩
   ·exact L.ms j p b x (S' hp).1
   ·exact x.elim (fun z=>L.ps p b z (S' hp).1) fun z=>L.bs p b z (S' hp).1
  ·obtain⟨j',x,_⟩:=ur hy;exact L.rl j' y x
  ·obtain⟨j',x,x2,_⟩:=ur hp;rcases up hj with z|⟨_,z⟩
   ·exact L.rm j' j y x z
   ·rcases z with z|z
    ·exact L.pr j' y z x
    ·exact x2 ((c.qB _).1 z)
  ·obtain⟨j',x,_⟩:=ur hy;exact L.rs j' p y x (S' hp).1
  ·exact hb.elim (fun x=>⟨j,x⟩) fun⟨φ,x⟩=>⟨_,dS x⟩
 ·have T:=h.ti.NP (a:=stA a) (h.W9 _) Ac (z:=op) ⟨e1,e2⟩ (by rw[h.df 0 Ac,hd]) (fl:=fun j=>if j∈γ.ids 0 then(γ.Aw j).map fun f=>(f.q,f.R)else none) (fun j f hf=>by
   by_cases e:j∈γ.ids 0
   ·rw[AD e]at hf;obtain⟨f',D8,rfl⟩:=CL.1 hf;obtain⟨G',h1,h2,_⟩:=h.ft j f' D8;obtain⟨_,_,_,_,_,_,_,_,_,o7,_⟩:=h.li.CO e;rw[o7,hG]at h1; cases h1;unfold Fe at h2;rw[hC]at h2;obtain⟨a',φ,h3,h4⟩:=h2;rw[Az]at h3; cases h3;exact h4
   ·rw[AA e]at hf; cases hf) ((c.qm 0).2 (.inl rfl)) (fun j hj=>by
   rcases(c.qm j).1 hj with e|e
   ·exact .inl e
   ·obtain⟨μ,hμ⟩:=Option.ne_none_iff_exists'.1 e;obtain⟨f,hf,_,_,e4⟩:=mf hμ;exact .inr ⟨(f.q,f.R),by rw[AD (c.mem j μ hμ),hf]; rfl,e4⟩) (acc':=γ'.acc) (fun g=>by
   show(if γ.acc g∈γ.ids 0 then 0 else γ.acc g)=_;by_cases e:γ.acc g∈γ.ids 0
   ·obtain⟨_,_,f,hf⟩:=all _ e;simp[e,hf]
   ·simp[e]) (R':=γ'.R) (fun j y hy=>by
   have hy:upd γ.R 0 R0 j y:=hy;by_cases e:j=0
   ·subst e;rw[upd_same]at hy;rcases hy with⟨x1,x2⟩|⟨τ,_,j,f,x1,x2,x3⟩
    ·exact .inl x1
    ·exact .inr ⟨rfl,j,(f.q,f.R),by rw[AD (Cg x1),x2]; rfl,x3⟩
   ·rw[upd_ne _ _ e]at hy; exact .inl hy) (M':=γ'.M) (fun j b=>up) (Q':=γ'.q) (fun _=>id) (fun _=>id) (fun _=>id)
  refine T.freeze (fun _ _=>id) (fun _ _=> .inl) (fun j b p hb hp=> .inl ⟨?_,(S' hp).1⟩);exact hb.imp (fun x=>(S' x).1) id
 ·refine⟨fun p=> ?_,fun j=> ?_,fun _=>id,fun _=>id,fun _=>id,fun _=>id⟩
  ·show Fy (upd γ.AP 0 none) p=none;unfold Fy;by_cases e:p=0
   ·subst e; rw[upd_same]; rfl
   ·rw[upd_ne _ _ e]; exact c.no p e
  ·show γ.mt j=none;rw[c.TO j];cases e:γ.Aw j with
   |some f=>rfl
   |none =>
    cases e':k.AL j with
    |none=>rfl
    |some μ =>
     obtain⟨f,hf,_⟩:=mf e';rw[e]at hf; cases hf
 ·have hf:(if j∈γ.ids 0 then none else γ.Aw j)=some f:=hf;by_cases e:j∈γ.ids 0
  ·rw[AD e]at hf; cases hf
  ·rw[AA e]at hf;obtain⟨G',h1,h2,h3,h4⟩:=h.ft j f hf;obtain⟨_,_,r1,_,_,r5,_⟩:=h.li.K4 hf;have hp:γ.par j≠0:=fun x=>e (x ▸Cg r1);refine⟨G',by show upd γ.AP 0 none (γ.par j)=_; rw[upd_ne _ _ hp]; exact h1,(Et (by rw[e2]; rfl) h2).XX fun g hg=> ?_,fun y hy=> ?_,h4⟩
   ·have hg:(if γ.acc g∈γ.ids 0 then 0 else γ.acc g)=j:=hg;by_cases e':γ.acc g∈γ.ids 0
    ·rw[AD e']at hg; omega
    ·rwa [AA e']at hg
   ·show upd γ.R 0 R0 j y;rw[upd_ne _ _ (by omega)]; exact h3 y hy
 ·have Ar:upd γ.AP 0 none p=some G':=Ar;by_cases e:p=0
  ·subst e; rw[upd_same]at Ar; cases Ar
  ·rw[upd_ne _ _ e]at Ar;obtain⟨buf,s,r,hc⟩:=h.ch p G' Ar I2;have QW:γ'.ids p=γ.ids p:=upd_ne _ _ e;rw[QW];have same: ∀j∈γ.ids p,γ'.Aw j=γ.Aw j:=fun j hj=>AA (aO e hj);refine⟨buf,s,r,hc.at_,hc.un,hc.sum, ?_,fun q u hq=> ?_⟩
   ·rw[← hc.cnt];exact List.countP_congr fun j hj=>by simp only[Cw,same j hj]
   ·obtain⟨j,f,r1,r2,r3⟩:=hc.msg q u hq;exact⟨j,f,r1,(same j r1).trans r2,r3⟩
 ·have Ar:upd γ.AP 0 none p=some G':=Ar;by_cases e:p=0
  ·subst e; rw[upd_same]at Ar; cases Ar
  ·rw[upd_ne _ _ e]at Ar;exact(h.wg p G' b φ Ar hb).mono rfl fun x=>(Ik x).1
 ·simp[γ',Gh.cx,upd_ne _ _ hj]
 ·have hj:j∈upd γ.ids 0 [] p:=hj;by_cases e:p=0
  ·subst e; rw[upd_same]at hj; cases hj
  ·rwa [upd_ne _ _ e]at hj
 ·have QW: ∀τ,τ<G.kids.length→∃j f,(γ.ids 0)[τ]? =some j∧γ.Aw j=some f:=fun τ hτ=>by
   have h1:τ<(γ.ids 0).length:=by omega
   obtain⟨_,_,f,hf⟩:=all _ (List.getElem_mem h1);exact⟨_,f,EE h1,hf⟩
  have e:γ'.cx 0={γ.cx 0 with M:=fun b=>γ.M 0 b∨b=k.C.lb∨k.C.P b,R:=R0,AP:=none}:=by simp only[γ',Gh.cx,upd_same]
  rw[e];refine hW vs Rs (fun τ sp Kw=> ?_) (fun τ y hτ hy=> ?_) ?_ Oa (fun b hb=> ?_)
  ·obtain⟨j,f,h1,h2⟩:=QW τ (DU.1 Kw).1;obtain⟨G',Lx,g1,g2,_,_,_,_,g8⟩:=h.li.JU 0 τ j h1;rw[hG]at g1; cases g1;rw[Kw]at g2; cases g2;obtain⟨_,_,_,_,h4⟩:=h.ft j f h2;have RU:f.sp=sp:=by
    rcases g8 with⟨_,s2,_⟩|⟨_,_,f',s3,s4⟩
    ·rw[h2]at s2; cases s2
    ·rw[h2]at s3; cases s3; exact s4
   have ev:vs τ=f.v:=by simp only[vs,h1,h2]
   rw[ev, ← RU];exact f.sp.keep f.v f.R w w (fun _ _=>⟨rfl,rfl⟩) h4 |> fun x=>by
    have:Rs τ=f.R:=by
     funext y;refine propext ⟨fun⟨j',f',z1,z2,z3⟩=> ?_,fun z=>⟨j,f,h1,h2,z⟩⟩;rw[h1]at z1; cases z1;rw[h2]at z2; cases z2;exact z3
    rw[this]; exact x
  ·obtain⟨j,f,h1,h2,h3⟩:=hy;have hj:=Cg h1;obtain⟨x1,x2⟩:=flR hj h2 y h3;exact⟨L.rl j y x1,L.rm j 0 y x1,x2,fun z=>L.pr j y (qP _ z) x1⟩
  ·have:(fun τ=>if τ<G.kids.length then some (vs τ)else none)=k.σ:=by
    funext τ;by_cases hτ:τ<G.kids.length
    ·rw[AD hτ];obtain⟨j,f,h1,h2⟩:=QW τ hτ;obtain⟨μ,hμ,htk⟩:=c.JU τ j h1;obtain⟨_,_,e3,_⟩:=c.bI j f μ h2 hμ |> fun x=>(⟨x.1,x.1,x.2.1,x.2.2⟩:_∧_∧_∧_);have ev:vs τ=f.v:=by simp only[vs,h1,h2]
     rw[ev];exact((c.ci.sig τ f.v).2 ⟨j,μ,hμ,htk,e3⟩).symm
    ·rw[AA hτ];cases e:k.σ τ with
     |none=>rfl
     |some v =>
      obtain⟨j,μ,h1,h2,_⟩:=(c.ci.sig τ v).1 e;have:=c.ci.pI j μ h1;omega
   rw[this]; exact hJ
  ·refine⟨hb.elim (fun x=>L.bl b ((c.qB b).2 x)) fun x=>L.pl b (qP b x),fun hm=>hb.elim (fun x=>L.bm 0 b ((c.qB b).2 x) hm) fun x=>L.pm 0 b (qP b x) hm,fun y hy hp=>L.pr 0 y (qP _ hp) hy⟩
end
end Go.Gw
namespace Go.Gw
open Go Go.Conc Go.ConcN
open Go.ConcR (KK wgBlock WgAt stA smA)
open Go.Gm (Bz)
section
variable{P:Program}{ty:TypeId}{Post:Value→World→Prop}{gs:Array Goroutine}{w:World}{t:Trace}{γ:Gh}{i:Nat}{g g':Goroutine}{w':World}{es:Array Event}{sl:Option (Nat×Nat)}
theorem GI.NC(h:GI P ty Post gs w t γ)(hi:gs[i]? =some g){g₂:Goroutine}{z:Value}{FG:Bool}{G:CZ}{n':Nat}(Aq:stepG P (i==0) g w= .comm g₂ #[rcase G.ch z] true (.recv FG) w es)(hn:n'<γ.nn i)
  (hG:γ.AP i=some G) (hk:G.kids= []) (BW:G.AY=none) (Dq:G.closed=true) (hd:γ.d i=0) (hf:BQ (γ.cx i) w w es) (N5:deafBehind 0 es=0)
  (hW:W P ty Post (i==0) n' (γ.cx i) (Conc.served g₂ (Conc.recvd FG z false)) w):Qz P ty Post gs w t γ sl i:=by
 have Ac:i<gs.size:=(A6.1 hi).1;obtain⟨q1,q2,q3,q4,q5,q6,q7,q8⟩:=h.li.gn _ G hG;have rB:=h.Oo hG;obtain⟨buf,s,r,hc⟩:=h.ch _ G hG BW;have QW:γ.ids i= []:=Ge.1 (by rw[q3,hk]; rfl);have gW:buf= #[]:=Eo (by rw[← hc.cnt,QW]; rfl);have Bg:w.heap[G.ch]? =some (.chan G.cap #[] true s r false):=by rw[hc.at_,Dq,gW]
 have hp:=h.LY hG BW fun j hj=>by rw[QW]at hj; cases hj
 have AT:=crowd_recv_closed (sl:=sl) hi Aq Bg hp;rw[finishComm_recv]at AT;generalize dp:({g:=i,fn:=g₂.frame.fn,pos:=g₂.frame.place,act:= .recvClosed G.ch}:MemOp)=x1 at AT;have e1:x1.g=i∧x1.act= .recvClosed G.ch:=by subst dp; exact⟨rfl,rfl⟩
 have n1:x1.act.touch?=none:=by rw[e1.2]; rfl
 obtain⟨T1,Mc⟩:=h.Hj Ac q2 hf g.frame.fn g.frame.place;generalize hE:MemOp.ofEvents i g.frame.fn g.frame.place es=E at AT T1 Mc;have tY: ∀op∈E,∀a,op.act≠ .mark (.release a):=hE ▸GJ hf.1;have T2:=T1.quiet (u:= #[x1]) Ac (by intro op ho; simp at ho; subst ho; exact⟨e1.1,n1⟩);have Bp:(gs.setIfInBounds i (Conc.served g₂ (recvd FG z false))).size=gs.size:=by simp
 refine⟨_,_,_,AT, ?_,gs.setIfInBounds i (Conc.served g₂ (recvd FG z false)),w,sl,{γ with nn:=upd γ.nn i n',ps:=upd γ.ps i .run},rfl,⟨by rw[Bp]; exact h.li,h.BX,by rw[Bp, ← Array.append_assoc]; exact T2,by
  rw[Bp];refine h.cr.keep (fun _ _ h=>h) (fun _ _=>rfl) (fun _ _=>rfl) (fun _=>rfl) (fun _=>rfl) (fun _ _=>rfl) (fun q e=> ?_);have e:upd γ.ps i .run q= .HC:=e;by_cases e1:q=i
  ·rw[e1,upd_same]at e; cases e
  ·rwa [upd_ne _ _ e1]at e,by
  refine FW h.W9 fun op A5 a=> ?_;rcases Ea.1 A5 with A5|A5
  ·exact tY op A5 a
  ·simp only[List.mem_toArray,AZ,List.not_mem_nil,or_false]at A5;subst A5; simp[e1.2],fun q b hb=>by rw[Bp]; exact h.mz q b hb,fun q hq=> ?_,fun q f hq=> ?_,h.ch,fun p G' a φ Ar Cx=> ?_,fun q gq hq=> ?_,fun p' He j' Hg hs=> ?_⟩,rfl⟩
 ·refine .left _ _ ?_;have:sumTo gs.size (upd γ.nn i n')+γ.nn i=sumTo gs.size γ.nn+n':=sumTo_upd γ.nn n' (fun x=>x) Ac;rw[Bp];show sumTo gs.size (upd γ.nn i n')<_;omega
 ·rw[Bp]at hq;rw[← Array.append_assoc,Deaf_push];simp only[deafStep,e1.2];show _=γ.d q;by_cases e:q=i
  ·subst e; rw[← hE,Deaf_own,h.df q Ac,hd,N5]
  ·rw[← hE,Deaf_other t (fun x=>e x.symm) _ (fun op ho=>(Dd ho).1),h.df q hq]
 ·obtain⟨G',g1,g2,g3,g4⟩:=h.ft q f hq;refine⟨G',g1, ?_,g3,g4⟩;rw[← Array.append_assoc];exact Et n1 (h.rZ q2 rB (sz':=w.heap.size) (fun op ho x hx=>⟨(Mc op ho).1,(Mc op ho).2 x hx⟩) hq g2 g3)
 ·rw[Bp];refine(h.wg p G' a φ Ar Cx).mono rfl fun hs=> ?_;have hs:upd γ.ps i .run p= .Di:=hs;by_cases e':p=i
  ·subst e'; rw[upd_same]at hs; cases hs
  ·rwa [upd_ne _ _ e']at hs
 ·show KD P ty Post (q==0) (upd γ.nn i n' q) (γ.cx q) _ _ (upd γ.ps i .run q);by_cases e:q=i
  ·subst e;rw[Bs Ac]at hq;cases hq;rw[upd_same,upd_same]; exact .run hW
  ·rw[Bb (fun x=>e x.symm)]at hq;rw[upd_ne _ _ e,upd_ne _ _ e]; exact h.Ms q gq hq
 ·have aux: ∀{q:Nat} {x:PS},upd γ.ps i .run q=x→x≠ .run→γ.ps q=x:=by
   intro q x hq hx;by_cases e:q=i
   ·subst e; rw[upd_same]at hq; exact absurd hq.symm hx
   ·rwa [upd_ne _ _ e]at hq
  exact h.nr p' (aux He (by simp)) j' Hg (aux hs (by simp))
theorem GI.close(h:GI P ty Post gs w t γ)(hi:gs[i]? =some g){G:CZ}{a n' s r:Nat}{buf:Array Value}(hn:n'<γ.nn i)(hG:γ.AP i=some G)(BW:G.AY=none)(Az:G.wg=some (a,.fin))
  (Bg:w.heap[G.ch]? =some (.chan G.cap buf false s r false)) (oG:UU G (γ.ids i) γ.Aw w buf s r) (Aq:stepG P (i==0) g w= .go g' (w.setChan G.ch G.cap buf true s r false) es) (hr:g'.status= .running) (WS:GV G.ch es) (hd:deafBehind (γ.d i) es=γ.d i)
  (hW:W P ty Post (i==0) n' {γ.cx i with AP:=some {G with closed:=true}} g' (w.setChan G.ch G.cap buf true s r false)):Qz P ty Post gs w t γ sl i:=by
 obtain⟨q1,q2,q3,q4,q5,q6,q7,q8⟩:=h.li.gn i G hG;have hS:=Ul (G':={G with closed:=true}) hG rfl rfl rfl;have own:Cj γ.AP i G.ch:=⟨G,hG,.inl ⟨BW,rfl⟩⟩;have nf:=h.Oo hG;have fr:=Fr.setChan Bg G.cap buf true s r false;have Md:=HS Bg G.cap buf true s r false;generalize w.setChan G.ch G.cap buf true s r false=w' at Aq hW fr Md;refine h.go hi Aq WS.1 (.inl hr) fr (h.V8 (i:=i) fr (fun b hb=> .inr ⟨i,by rw[hb]; exact own⟩)) (h.V9 (i:=i) fr (fun b hb=> .inr ⟨i,by rw[hb]; exact own⟩)) (Mi:=γ.M i) (Ri:=γ.R i) hn (fun b hb=>⟨AV (h.BX.ml i b hb) fr.size,.inl hb⟩) (fun _=>id) (fun _=> .inl) (fun e he x hx=> .inr (.inr (.inl ⟨G.ch,(WS.2 e he x hx).1,.inl own,(WS.2 e he x hx).2,fun _=>own⟩))) (.inl q2) (fun f hf=>by rw[nf]at hf; cases hf)
  (h.li.ph (G':={G with closed:=true}) hG rfl rfl rfl rfl (fun _=>⟨a,Az⟩)) hS
  (fun j b hb=>hb.imp (hS j b).1 id) (fun p G' Ar=> ?_) (fun _ _=>rfl) (fun j hj=>upd_ne _ _ hj) (fun _ _=>rfl) (h.wm (i:=i) fr (fun b hb=> .inr ⟨i,by rw[hb]; exact own⟩) (Qm (G':={G with closed:=true}) hG (by rw[Ev BW,Ev (G:={G with closed:=true}) BW])) _) (fun p G' Ar I2=> ?_) (fun p G' a' XI Ar Cx=> ?_) (by simp only[hd,upd_same]; exact hW)
 ·by_cases e:p=i
  ·subst e; rw[hG]at Ar; cases Ar; exact⟨_,upd_same _ _ _,rfl,rfl,rfl⟩
  ·exact⟨G',by rw[upd_ne _ _ e]; exact Ar,.refl _⟩
 ·by_cases e:p=i
  ·subst e;rw[upd_same]at Ar; cases Ar;exact⟨buf,s,r,Md,oG.un,oG.sum,oG.cnt,oG.msg⟩
  ·rw[upd_ne _ _ e]at Ar;exact h.HF fr Ar I2 fun x=>e (h.BX.ss p i G.ch ⟨G',Ar,.inl ⟨I2,x.symm⟩⟩ own)
 ·by_cases e:p=i
  ·subst e;rw[upd_same]at Ar; cases Ar;have wI:G.wg=some (a',XI):=Cx;exact h.KF fr _ hG wI (q8 a' XI wI)
  ·rw[upd_ne _ _ e]at Ar;exact h.KF fr _ Ar Cx fun x=>e (h.BX.ss p i G.ch ⟨G',Ar,.inr ⟨XI,by rw[← x]; exact Cx⟩⟩ own)
theorem GI.leave(h:GI P ty Post gs w t γ)(hi:gs[i]? =some g){n':Nat}(h0:i≠0)(hsn:γ.snd i=none)(N5:γ.dec i=none)(xe:γ.AP i=none)(IW:γ.mt i=none)(hn:n'<γ.nn i)(Aq: ∀w,stepG P false g w= .go g' w es)(hm: ∀e∈es,Event.mute e=true)(hq:QuitsD P n' (deafBehind (γ.d i) es) g'):Qz P ty Post gs w t γ sl i:=by
 have e0:(i==0)=false:=by simpa using h0
 have nt: ∀e∈es,(MemAct.ofEvent e).touch?=none:=fun e he=>by
  have:=hm e he;obtain⟨loc,wr,sy⟩:=e;cases loc with
  |mark m=>cases m<;>simp[Event.mute]at this<;>rfl
  |_=>simp[Event.mute]at this
 have fr:=Fr.refl w (fun _=>False);refine h.go hi (by rw[e0]; exact Aq w) (fun e he a ha=>by
  have:=hm e he;obtain⟨loc,wr,sy⟩:=e;cases loc with
  |mark m=>cases m<;>simp[Event.mute]at this<;>simp[MemAct.ofEvent]at ha
  |_=>simp[Event.mute]at this) hq.status fr (h.V8 (i:=i) fr (fun b hb=>hb.elim)) (h.V9 (i:=i) fr (fun b hb=>hb.elim)) (Mi:=γ.M i) (Ri:=γ.R i) hn (fun b hb=>⟨h.BX.ml i b hb,.inl hb⟩) (fun _=>id) (fun _=> .inl) (fun e he x hx=>by rw[nt e he]at hx; cases hx) (.inr nt) (fun f _=>lA.none nt) h.li (fun _ _=>Iff.rfl) (fun _ _=>id) (fun p G hG=>⟨G,hG,.refl G⟩) (fun _ _=>rfl) (fun _ _=>rfl) (fun _ _=>rfl) (h.wm (i:=i) fr (fun b hb=>hb.elim) (fun _=>rfl) _)
  (fun p G hG hc=>h.HF fr hG hc id) (fun p G a φ hG ha=>h.KF fr _ hG ha id) (by rw[e0]; exact .leave hsn N5 xe IW hq)
theorem GI.done(h:GI P ty Post gs w t γ)(hi:gs[0]? =some g){v:Value}(hG:γ.AP 0=none)(Aq:stepG P true g w= .ended (.done v) w' es)(hf:BQ (γ.cx 0) w w' es)(Bp:w.heap.size≤w'.heap.size)(hP:Post v w') :
  ∃o w' ops,runT P (crowd gs w sl) 0=(.ended o w',ops)∧∀w₀ ZI,Good P Post (crowd gs w₀ ZI) o w' (t++ops):=by
 have Ac:0<gs.size:=h.li.pos;have AT:runT P (crowd gs w sl) 0=(.ended (.done v) w',MemOp.ofEvents 0 g.frame.fn g.frame.place es):=by
  obtain⟨Ac,rfl⟩:=A6.1 hi;have hsw:=swapAt_of_lt Ac {(default:Goroutine)with status:= .finished};show runT P {world:=w,gs:=gs,rest:={timers:= #[],alone:=none,slice:=sl}} 0=_;unfold runT;simp only[hsw,beq_self_eq_true,Aq,GStep.es]
 have mX: ∀m j,j<m→j≠0→γ.acc j≠j∨gs.size≤j:=by
  intro m;induction m with
  |zero=>intro j hj; omega
  |succ m ih =>
   intro j hj h0;rcases Nat.lt_or_ge j gs.size with eQ|eQ
   ·refine .inl fun ha=> ?_;obtain⟨k,G,sp,o1,o2,o3,o4,o5,o6,o7,o8⟩:=h.li.CO (h.li.self j eQ ha h0);have hp0:γ.par j≠0:=fun e=>by rw[e,hG]at o2; cases o2
    rcases ih (γ.par j) (by omega) hp0 with e|e
    ·exact e (h.li.gn _ G o2).2.1
    ·omega
   ·exact .inr eQ
 have others: ∀j,j<gs.size→j≠0→γ.acc j≠j:=fun j hj h0=>by
  rcases mX (j+1) j (by omega) h0 with e|e
  ·exact e
  ·omega
 have acc0: ∀j,j<gs.size→γ.acc j=0:=fun j hj=>by
  by_cases e:γ.acc j=0
  ·exact e
  ·exact absurd (h.li.W0 j) (others _ (h.li.W1 j hj) e)
 have quit: ∀(j:Nat) (o:Goroutine),gs[j]? =some o→j≠0→∃m,QuitsD P m (γ.d j) o:=fun j o hj h0=>by
  have eQ:j<gs.size:=(A6.1 hj).1;obtain⟨r1,r2,r3,r4⟩:=h.li.gone j (others j eQ h0);have hs:=h.Ms j o hj;have e0:(j==0)=false:=by simpa using h0
  rw[e0]at hs;generalize γ.ps j=x at hs;cases hs with
  |run hw=>exact hw.quits rfl r1 r2 r3 (by
    show γ.mt j=none;cases e:γ.mt j with
    |none=>rfl
    |some x =>
     obtain⟨k,K⟩:=h.GZ e;exact absurd K.acc (others j eQ h0))
  |HC hx hl Aq ho hw =>
   obtain⟨k,K⟩:=h.GZ hx;exact absurd K.acc (others j eQ h0)
  |snd hm hg hc hG IW To hd AO hR k=>have:γ.snd j=_:=hc; rw[r1]at this; cases this
  |Nt hg hG hk BW A2 Dq hd k=>have:γ.AP j=_:=hG; rw[r3]at this; cases this
  |Di hG Az Aq ho hw=>have:γ.AP j=_:=hG; rw[r3]at this; cases this
 have Mc: ∀op∈MemOp.ofEvents 0 g.frame.fn g.frame.place es,op.g=0∧∀x,op.act.touch?=some x→jS (fun b=>γ.M 0 b∨(w.heap.size≤b∧b<w'.heap.size)) (γ.R 0) (Cj γ.AP) (Dh γ.AP γ.dec) γ.q 0 x:=fun op ho=>by
  obtain⟨h1,e,he,h2⟩:=Dd ho;exact⟨h1,fun x hx=>(hf.2 e he x (h2 ▸hx)).imp id fun y=> .inl y⟩
 have T:=h.ti.step h.BX Ac Bp (.inl h.li.za) Mc;refine⟨_,_,_,AT,fun w₀ ZI=>⟨v,rfl,hP,T.nr,fun k gk hk BK hc=> ?_,⟨fun o ho=> ?_,rfl⟩,fun j o hj BK=> ?_⟩⟩
 ·obtain⟨op,ho,bC⟩:=CL.1 hk;have hgk:gk<gs.size:=by rw[← bC]; exact T.gs k op ho
  have kn:=T.Z3 k gk hk hc;rw[acc0 gk hgk]at kn;obtain⟨q,z,h1,h2,h3⟩:=kn;rcases h3 with rfl|h3
  ·rw[ho]at h1; cases h1;exact absurd (bC.symm.trans h2) BK
  ·exact⟨q,by simp[Trace.g?,h1,h2],h3⟩
 ·obtain⟨j,hj⟩:=List.getElem?_of_mem ho;rw[List.getElem?_drop]at hj;have Hg:gs[1+j]? =some o:=by simpa[crowd]using hj
  obtain⟨m,hq⟩:=quit (1+j) o Hg (by omega);exact⟨m,hq.leaves⟩
 ·have Hg:gs[j]? =some o:=hj;have eQ:j<gs.size:=(A6.1 Hg).1;obtain⟨m,hq⟩:=quit j o Hg BK;refine⟨m, ?_⟩;have:(t++MemOp.ofEvents 0 g.frame.fn g.frame.place es).deaf j (t++MemOp.ofEvents 0 g.frame.fn g.frame.place es).size=γ.d j:=by
   show Deaf _ j=_;rw[Deaf_other t (fun x=>BK x.symm) _ (fun op ho=>(Dd ho).1),h.df j eQ]
  rw[this];exact hq.hears _
theorem GI.at(h:GI P ty Post gs w t γ)(d:Nat):GI P ty Post gs (w.at d) t γ:=by
 refine⟨h.li,h.BX,h.ti,h.cr.keep (fun _ _ h=>h) (fun _ _=>rfl) (fun _ _=>rfl) (fun _=>rfl) (fun _=>rfl) (fun _ _=>rfl) (fun _=>id),h.W9,h.mz,h.df,fun j f hf=> ?_,fun p G hG I2=> ?_,fun p G a φ hG ha=>(h.wg p G a φ hG ha).mono rfl id,fun j o hj=>(h.Ms j o hj).rely (AS.at _ _ _),h.nr⟩
 ·obtain⟨G,h1,h2,h3,h4⟩:=h.ft j f hf;exact⟨G,h1,h2,h3,f.sp.keep _ _ w (w.at d) (fun _ _=>⟨rfl,rfl⟩) h4⟩
 ·obtain⟨buf,s,r,hc⟩:=h.ch p G hG I2;exact⟨buf,s,r,hc.mono rfl⟩
end
section
variable{P:Program}{ty:TypeId}{Post:Value→World→Prop}
def Stp(P:Program)(ty:TypeId)(Post:Value→World→Prop)(gs:Array Goroutine)(w:World)(t:Trace)(γ:Gh)(sl:Option (Nat×Nat))(i:Nat):Prop :=
 (∃o w' ops,runT P (crowd gs w sl) i=(.ended o w',ops)∧∀w₀ ZI,Good P Post (crowd gs w₀ ZI) o w' (t++ops))∨Qz P ty Post gs w t γ sl i
theorem mg{a b c b':Nat×Nat}(h:Lt2 a b')(h1:b'.1≤b.1)(h2:b'.2=b.2)(_:c=b):Lt2 a b:=by
 obtain⟨a1,a2⟩:=a;obtain⟨b1,b2⟩:=b;obtain⟨c1,c2⟩:=b';simp only at h1 h2;subst h2;cases h with
 |left _ _ h=>exact .left _ _ (by omega)
 |right _ h =>
  rcases Nat.lt_or_ge a1 b1 with e|e
  ·exact .left _ _ e
  ·obtain rfl:a1=b1:=by omega
   exact .right _ h
theorem Stp.of{gs:Array Goroutine}{w:World}{t:Trace}{γ γ':Gh}{sl:Option (Nat×Nat)}{i:Nat}(h:Stp P ty Post gs w t γ' sl i)(h1:sumTo gs.size γ'.nn≤sumTo gs.size γ.nn)(h2:γ'.ps=γ.ps):Stp P ty Post gs w t γ sl i:=by
 rcases h with h|⟨m',ops,μ',r1,r2,r3⟩
 ·exact .inl h
 ·refine .inr ⟨m',ops,μ',r1,mg r2 h1 ?_ rfl,r3⟩;rw[h2]
theorem GI.step{main:Bool}{n:Nat}{c:Ctx}{g:Goroutine}{w:World}(hW:W P ty Post main n c g w): ∀{gs:Array Goroutine} {t:Trace} {γ:Gh} {sl:Option (Nat×Nat)} {i:Nat},GI P ty Post gs w t γ→gs[i]? =some g→g.status= .running→γ.ps i= .run→γ.cx i=c→γ.nn i=n→main=(i==0)→Stp P ty Post gs w t γ sl i:=by
 induction hW with
 |@MN main n c g w N hs hb hh k ih =>
  intro gs t γ sl i h hi Aq EJ hc hn hm;subst hc hm;obtain⟨h1,h2,h3,h4⟩:=hh w (AS.refl _ _);refine .inr (h.MN hi h1 h2 (n':=n) (by omega) h3 h4 ?_ (k w (AS.refl _ _)));rcases hb with hb|hb|hb
  ·exact .inl (by simpa using hb)
  ·exact .inr (.inl hb)
  ·exact .inr (.inr ⟨hb.1,hb.2 w (AS.refl _ _)⟩)
 |@spawn main n n₁ n₂ c g w N G Je hs hle hd hG Dq A2 Az hh k₁ k₂ _ _ =>
  intro gs t γ sl i h hi Aq EJ hc hn hm;subst hc hm;obtain⟨h1,h2,h3,h4,h5,h6⟩:=hh w (AS.refl _ _);exact .inr (h.spawn hi h1 (n₁:=n₁) (n₂:=n₂) (by omega) hd hG Dq A2 Az h4 h5 h6 (k₁ w (AS.refl _ _)) (k₂ w (AS.refl _ _)))
 |@send n c g w N ch sp hs hd hsend hG IW hh k ih =>
  intro gs t γ sl i h hi Aq EJ hc hn hm;subst hc;obtain⟨h1,h2,h3,h4,h5⟩:=hh w (AS.refl _ _);exact .inr (h.send hi (by rw[← hm]; exact h1) (n':=n) (by omega) hsend IW hG hd h2 h3 h4 h5 (k w (AS.refl _ _)))
 |@recv main n c g w N G hs hd hG hk BW A2 hh k ih =>
  intro gs t γ sl i h hi Aq EJ hc hn hm;subst hc hm;obtain⟨h1,h2,h3⟩:=hh w (AS.refl _ _);exact .inr (h.recv hi h1 (n':=n) (by omega) hG hk BW A2 hd h2 h3 (k w (AS.refl _ _)))
 |@close main n c g w N G a hs hd hG A2 Az Dq BW hh k ih =>
  intro gs t γ sl i h hi Aq EJ hc hn hm;subst hc hm;obtain⟨buf,s,r,hc⟩:=h.ch i G hG BW;have Bg:w.heap[G.ch]? =some (.chan G.cap buf false s r false):=by rw[hc.at_,Dq]
  obtain⟨h1,h2,h3,h4⟩:=hh w (AS.refl _ _) buf s r Bg;have G3:γ.d i=0:=hd;have Q7:Apart (γ.cx i) G.ch:=⟨fun m=>h.BX.ms i i _ m ⟨G,hG,.inl ⟨BW,rfl⟩⟩,fun x hx e=>h.BX.rs i i x hx ⟨G,hG,.inl ⟨BW,e⟩⟩⟩;exact .inr (h.close hi (n':=n) (by omega) hG BW Az Bg hc h1 h2 h3 (by rw[G3]; exact h4) (k w (AS.refl _ _) Q7 buf s r Bg))
 |@NC main n c g w N G hs hd hG hk BW Dq hh k ih =>
  intro gs t γ sl i h hi Aq EJ hc hn hm;subst hc hm;obtain⟨h1,h2,h3⟩:=hh w (AS.refl _ _);exact .inr (h.NC hi h1 (n':=n) (by omega) hG hk BW Dq hd h2 h3 (k w (AS.refl _ _)))
 |@XP main n c g w N G a mx hs hG Az hd gS hh k ih =>
  intro gs t γ sl i h hi Aq EJ hc hn hm;subst hc hm;obtain⟨v1,v2,v3,v4⟩:=h.wg i G a _ hG Az;obtain⟨h1,h2,h3,h4⟩:=hh w (AS.refl _ _) _ v1 v4;exact .inr (h.jg hi h1 h2 hG Az (by simp) (Fr.setCell w (stA a) _) h3 h4 (n':=n) (by omega) (φ':= .pend (mx+1)) ⟨by omega,by omega,v3,v4.setSt _⟩ (k w (AS.refl _ _) ⟨fun m=>h.BX.ms i i _ m ⟨G,hG,.inr ⟨_,Az⟩⟩,fun x hx e=>h.BX.rs i i x hx ⟨G,hG,.inr ⟨_,by rw[e]; exact Az⟩⟩⟩ _ v1 v4))
 |@XJ main n c g w N G a φ hs hG Az hφ hh k ih =>
  intro gs t γ sl i h hi Aq EJ hc hn hm;subst hc hm;have hv:=h.wg i G a _ hG Az;obtain⟨h1,h2,h3,h4⟩:=hh w (AS.refl _ _);rw[EJ]at hv;exact .inr (h.jg hi h1 h2 hG Az hφ (Fr.refl w _) h3 h4 (n':=n) (by omega) (φ':=φ) hv (k w (AS.refl _ _)))
 |@O6 main n c g w N G a mx hs hG Az hd hh k ih =>
  intro gs t γ sl i h hi Aq EJ hc hn hm;subst hc hm;obtain⟨v1,v2,v3,v4⟩:=h.wg i G a _ hG Az;obtain⟨h1,h2,h3,h4⟩:=hh w (AS.refl _ _) _ v1 v4;have hk:=k w (AS.refl _ _) _ v1 v4;by_cases e:C8 gs.size γ.dec a=0
  ·rw[AD e]at hk;exact .inr (h.jg hi h1 h2 hG Az (by simp) (Fr.refl w _) h3 h4 (n':=n) (by omega) (φ':= .fin) ⟨e,v3⟩ hk)
  ·rw[AA e]at hk;exact .inr (h.jg hi h1 h2 hG Az (by simp) (Fr.refl w _) h3 h4 (n':=n) (by omega) (φ':= .w2 _) ⟨AN _,by omega,v3,v4⟩ hk)
 |@XO main n c g w N N' G a vs hs hG Az hd Zk hh k hh' k' ih ih' =>
  intro gs t γ sl i h hi Aq EJ hc hn hm;subst hc hm;obtain⟨v1,v2,v3,v4⟩:=h.wg i G a _ hG Az;by_cases e:C8 gs.size γ.dec a=vs
  ·rw[e]at v4;obtain⟨h1,h2,h3,h4⟩:=hh w (AS.refl _ _) v4;exact .inr (h.jg hi h1 h2 hG Az (by simp) (Fr.setCell w (stA a) _) h3 h4 (n':=n) (by omega) (φ':= .reg) ⟨by omega,.inl ⟨by omega,v3,by rw[e]; exact v4.setSt _⟩⟩ (k w (AS.refl _ _) ⟨fun m=>h.BX.ms i i _ m ⟨G,hG,.inr ⟨_,Az⟩⟩,fun x hx e=>h.BX.rs i i x hx ⟨G,hG,.inr ⟨_,by rw[e]; exact Az⟩⟩⟩ v4))
  ·obtain⟨h1,h2,h3,h4⟩:=hh' w (AS.refl _ _) _ (by omega) v4;exact .inr (h.jg hi h1 h2 hG Az (by simp) (Fr.refl w _) h3 h4 (n':=n) (by omega) (φ':= .idle _) ⟨AN _,by omega,v3,v4⟩ (k' w (AS.refl _ _) _ (by omega) v4))
 |@Ud main n c g w N G a hs hG Az hd ho h0 hh k ih =>
  intro gs t γ sl i h hi Aq EJ hc hn hm;subst hc hm;obtain⟨v1,v2⟩:=h.wg i G a _ hG Az;have blk: ∀st,WgAt ty a w st 0→Stp P ty Post gs w t γ sl i:=fun st WE =>
   .inr (h.block hi EJ (h0 w (AS.refl _ _) st WE) hG Az ho hs (fun st' sm nP=>(nP.unique WE).2) (by rw[hn]; exact .Ud N hs hG Az hd ho h0 hh k))
  rcases v2 with⟨u1,u2,u3⟩|⟨u1,L,φ,u2,u3,u4,u5|u5⟩|⟨u1,u2,u3,u4⟩
  ·exact blk _ u3
  ·exact blk _ u5.2
  ·exact blk _ u5.2
  ·obtain⟨h1,h2,h3,h4⟩:=hh w (AS.refl _ _) u3;exact .inr (h.jg hi h1 h2 hG Az (by simp) (Fr.setCell w (smA a) _) h3 h4 (n':=n) (by omega) (φ':= .w4) ⟨u1,u2,u3.setSm _⟩ (k w (AS.refl _ _) ⟨fun m=>h.BX.ms i i _ m ⟨G,hG,.inr ⟨_,Az⟩⟩,fun x hx e=>h.BX.rs i i x hx ⟨G,hG,.inr ⟨_,by rw[e]; exact Az⟩⟩⟩ u3))
 |@XN main n c g w N G a hs hG Az hd hh k ih =>
  intro gs t γ sl i h hi Aq EJ hc hn hm;subst hc hm;obtain⟨v1,v2,v3⟩:=h.wg i G a _ hG Az;obtain⟨h1,h2,h3,h4⟩:=hh w (AS.refl _ _) v3;exact .inr (h.jg hi h1 h2 hG Az (by simp) (Fr.refl w _) h3 h4 (n':=n) (by omega) (φ':= .fin) ⟨v1,v2⟩ (k w (AS.refl _ _) v3))
 |@Ye n c g w N a hs A0 hsend hG hd hh k ih =>
  intro gs t γ sl i h hi Aq EJ hc hn hm;subst hc;have A0:γ.dec i=some (a,.cnt):=A0;have hsend:γ.snd i=none:=hsend;obtain⟨q1,q2,q3,G,ψ,q4,q5⟩:=h.li.HE i a _ A0;have hv:=h.wg _ G a _ q4 q5;have hpos:=En q1 A0;have go: ∀(V wt:Nat),wt≤1→V<4→C8 gs.size γ.dec a=V+1→WgAt ty a w ((V+1)*KK+wt) 0→(∀x:Option (Nat×IE),x=(if V=0∧wt=1 then some (a,.k1)else none)→∀w':World,WgAt ty a w' (V*KK+wt) 0→C8 gs.size (upd γ.dec i x) a=V→Kk ty V (upd γ.dec i x) (L6 γ i (mayWake P g) (γ.par i)) a w' ψ)→Stp P ty Post gs w t γ sl i:=by
   intro V wt N4 hV hcV Bg RV;obtain⟨h1,h2,h3,h4⟩:=hh w (AS.refl _ _) V wt N4 hV Bg;refine .inr (h.sF hi (by rw[← hm]; exact h1) h2 A0 hsend (x:=if V=0∧wt=1 then some (a,.k1)else none) (fun b ψ' e=> ?_) (Fr.setCell w (stA a) _) h3 h4 (n':=n) (by omega) (fun G' ψ' g1 g2=> ?_) (by rw[← hm]; exact k w (AS.refl _ _) V wt N4 hV Bg))
   ·split at e
    ·cases e; rfl
    ·cases e
   ·rw[q4]at g1; cases g1;rw[q5]at g2;simp only[AE,AR,true_and]at g2;subst g2;have vx:=GQ (dec:=γ.dec) q1 (if V=0∧wt=1 then some (a,.k1)else none) a;have e1:cw a (γ.dec i)=1:=by rw[A0]; simp[cw]
    have e2:cw a (if V=0∧wt=1 then some (a,IE.k1)else none)=0:=by split<;>rfl
    have e3:C8 gs.size (upd γ.dec i (if V=0∧wt=1 then some (a,.k1)else none)) a=V:=by omega
    rw[e3];exact RV _ rfl _ (Bg.setSt _) e3
  have nl:GR γ.dec a→∀x:Option (Nat×IE),(∀b φ,x=some (b,φ)→φ= .cnt)→GR (upd γ.dec i x) a:=fun Tl x hx j φ e=>by
   by_cases ej:j=i
   ·subst ej; rw[upd_same]at e; exact hx a φ e
   ·rw[upd_ne _ _ ej]at e; exact Tl j φ e
  obtain⟨V,hV⟩: ∃V,C8 gs.size γ.dec a=V+1:=⟨C8 gs.size γ.dec a-1,by omega⟩;cases ψ with
  |idle mx =>
   obtain⟨v1,v2,v3,v4⟩:=hv;refine go V 0 (by omega) (by omega) hV (by rw[hV]at v4; simpa using v4) fun x hx w' Kv _=> ?_;simp only[Nat.zero_ne_one,and_false,BS]at hx;subst hx;exact⟨by omega,v2,nl v3 _ (fun b φ e=>by cases e),by simpa using Kv⟩
  |pend mx =>
   obtain⟨v1,v2,v3,v4⟩:=hv;refine .inr (?_:Qz P ty Post gs w t γ sl i);have e:γ.par i≠i:=by
    intro e;rw[e]at q4;have:γ.AP i=none:=hG;rw[this]at q4; cases q4
   obtain⟨h1,h2,h3,h4⟩:=hh w (AS.refl _ _) (V+1) 0 (by omega) (by omega) (by rw[hV]at v4; simpa using v4);refine h.sF hi (by rw[← hm]; exact h1) h2 A0 hsend (x:=if V+1=0∧(0:Nat)=1 then some (a,.k1)else none) (fun b ψ' e=> ?_) (Fr.setCell w (stA a) _) h3 h4 (n':=n) (by omega) (fun G' ψ' g1 g2=> ?_) (by rw[← hm]; exact k w (AS.refl _ _) (V+1) 0 (by omega) (by omega) (by rw[hV]at v4; simpa using v4))
   ·split at e
    ·cases e; rfl
    ·cases e
   ·rw[q4]at g1; cases g1;rw[q5]at g2;simp only[AE,AR,true_and]at g2;subst g2;have hx:(if V+1=0∧(0:Nat)=1 then some (a,IE.k1)else none)=none:=by simp
    rw[hx];have vx:=GQ (dec:=γ.dec) q1 none a;have e1:cw a (γ.dec i)=1:=by rw[A0]; simp[cw]
    have e2:cw a none=0:=rfl;have e3:C8 gs.size (upd γ.dec i none) a=V:=by omega
    rw[e3];have Bg:WgAt ty a w ((((V+1:Nat):Int)+1)*KK+((0:Nat):Int)) 0:=by rw[hV]at v4; simpa using v4
    have:=Bg.setSt (((V+1:Nat):Int)*KK+((0:Nat):Int));exact⟨by omega,v2,nl v3 _ (fun b φ e=>by cases e),by simpa using this⟩
  |w2 vs =>
   obtain⟨v1,v2,v3,v4⟩:=hv;refine go V 0 (by omega) (by omega) hV (by rw[hV]at v4; simpa using v4) fun x hx w' Kv _=> ?_;simp only[Nat.zero_ne_one,and_false,BS]at hx;subst hx;exact⟨by omega,v2,nl v3 _ (fun b φ e=>by cases e),by simpa using Kv⟩
  |reg =>
   obtain⟨v1,⟨u1,u2,u3⟩|⟨u1,_⟩|⟨u1,_⟩⟩:=hv
   ·refine go V 1 (by omega) (by omega) hV (by rw[hV]at u3; simpa using u3) fun x hx w' Kv _=> ?_;by_cases e:V=0
    ·rw[AD ⟨e,rfl⟩]at hx;subst hx;refine⟨by omega,.inr (.inl ⟨e,i,.k1,upd_same _ _ _,by simp,fun j ψ hj=> ?_,.inl ⟨by simp,by rw[e]at Kv; simpa using Kv⟩⟩)⟩;by_cases ej:j=i
     ·exact ej
     ·exfalso;rw[upd_ne _ _ ej]at hj;have:=u2 j ψ hj;subst this;obtain⟨j1,j2⟩:=h.li.HE j a _ hj;have vx:=GQ (dec:=γ.dec) q1 none a;have e1:cw a (γ.dec i)=1:=by rw[A0]; simp[cw]
      have e2:cw a none=0:=rfl;have:=En (dec:=upd γ.dec i none) (a:=a) j1 (by rw[upd_ne _ _ ej]; exact hj);omega
    ·rw[AA (fun x=>e x.1)]at hx;subst hx;exact⟨by omega,.inl ⟨by omega,nl u2 _ (fun b φ e=>by cases e),by simpa using Kv⟩⟩
   ·omega
   ·omega
  |w4=>have:=hv.1; omega
  |fin=>have:=hv.1; omega
 |@QH n c g w N a hs A0 hsend hG hd hh k ih =>
  intro gs t γ sl i h hi Aq EJ hc hn hm;subst hc;have A0:γ.dec i=some (a,.k1):=A0;have hsend:γ.snd i=none:=hsend;obtain⟨q1,q2,q3,G,ψ,q4,q5⟩:=h.li.HE i a _ A0;have hv:=h.wg _ G a _ q4 q5;cases ψ with
  |reg =>
   obtain⟨v1,⟨u1,u2,u3⟩|⟨u1,L,φ,u2,u3,u4,u5⟩|⟨u1,u2,u3,u4⟩⟩:=hv
   ·have:=u2 i _ A0; cases this
   ·have hL:=u4 i _ A0;subst hL;rw[A0]at u2; cases u2;have Bg:WgAt ty a w 1 0:=(u5.resolve_right fun x=>by have:=x.1; cases this).2;obtain⟨h1,h2,h3,h4⟩:=hh w (AS.refl _ _) Bg;refine .inr (h.sF hi (by rw[← hm]; exact h1) h2 A0 hsend (x:=some (a,.k2)) (fun b ψ' e=>by cases e; rfl) (Fr.refl w _) h3 h4 (n':=n) (by omega) (fun G' ψ' g1 g2=> ?_) (by rw[← hm]; exact k w (AS.refl _ _) Bg));rw[q4]at g1; cases g1;rw[q5]at g2;simp only[AE,AR,true_and]at g2;subst g2;have vx:=GQ (dec:=γ.dec) q1 (some (a,.k2)) a;have e1:cw a (γ.dec i)=0:=by rw[A0]; rfl
    have e2:cw a (some (a,IE.k2))=0:=rfl;refine⟨by omega,.inr (.inl ⟨by omega,i,.k2,upd_same _ _ _,by simp,fun j ψ hj=> ?_,.inl ⟨by simp,Bg⟩⟩)⟩;by_cases ej:j=i
    ·exact ej
    ·rw[upd_ne _ _ ej]at hj; exact u4 j ψ hj
   ·have:=u2 i _ A0; cases this
  |idle mx=>have:=hv.2.2.1 i _ A0; cases this
  |pend mx=>have:=hv.2.2.1 i _ A0; cases this
  |w2 mx=>have:=hv.2.2.1 i _ A0; cases this
  |w4=>have:=hv.2.1 i _ A0; cases this
  |fin=>have:=hv.2 i _ A0; cases this
 |@Lf n c g w N a hs A0 hsend hG hd hh k ih =>
  intro gs t γ sl i h hi Aq EJ hc hn hm;subst hc;have A0:γ.dec i=some (a,.k2):=A0;have hsend:γ.snd i=none:=hsend;obtain⟨q1,q2,q3,G,ψ,q4,q5⟩:=h.li.HE i a _ A0;have hv:=h.wg _ G a _ q4 q5;cases ψ with
  |reg =>
   obtain⟨v1,⟨u1,u2,u3⟩|⟨u1,L,φ,u2,u3,u4,u5⟩|⟨u1,u2,u3,u4⟩⟩:=hv
   ·have:=u2 i _ A0; cases this
   ·have hL:=u4 i _ A0;subst hL;rw[A0]at u2; cases u2;have Bg:WgAt ty a w 1 0:=(u5.resolve_right fun x=>by have:=x.1; cases this).2;obtain⟨h1,h2,h3,h4⟩:=hh w (AS.refl _ _) Bg;refine .inr (h.sF hi (by rw[← hm]; exact h1) h2 A0 hsend (x:=some (a,.k3)) (fun b ψ' e=>by cases e; rfl) (Fr.setCell w (stA a) _) h3 h4 (n':=n) (by omega) (fun G' ψ' g1 g2=> ?_) (by rw[← hm]; exact k w (AS.refl _ _) Bg));rw[q4]at g1; cases g1;rw[q5]at g2;simp only[AE,AR,true_and]at g2;subst g2;have vx:=GQ (dec:=γ.dec) q1 (some (a,.k3)) a;have e1:cw a (γ.dec i)=0:=by rw[A0]; rfl
    have e2:cw a (some (a,IE.k3))=0:=rfl;refine⟨by omega,.inr (.inl ⟨by omega,i,.k3,upd_same _ _ _,by simp,fun j ψ hj=> ?_,.inr ⟨rfl,Bg.setSt _⟩⟩)⟩;by_cases ej:j=i
    ·exact ej
    ·rw[upd_ne _ _ ej]at hj; exact u4 j ψ hj
   ·have:=u2 i _ A0; cases this
  |idle mx=>have:=hv.2.2.1 i _ A0; cases this
  |pend mx=>have:=hv.2.2.1 i _ A0; cases this
  |w2 mx=>have:=hv.2.2.1 i _ A0; cases this
  |w4=>have:=hv.2.1 i _ A0; cases this
  |fin=>have:=hv.2 i _ A0; cases this
 |@Lg n c g w N a hs A0 hsend hG hd hw hh k ih =>
  intro gs t γ sl i h hi Aq EJ hc hn hm;subst hc;have A0:γ.dec i=some (a,.k3):=A0;have hsend:γ.snd i=none:=hsend;obtain⟨q1,q2,q3,G,ψ,q4,q5⟩:=h.li.HE i a _ A0;have hv:=h.wg _ G a _ q4 q5;cases ψ with
  |reg =>
   obtain⟨v1,⟨u1,u2,u3⟩|⟨u1,L,φ,u2,u3,u4,u5⟩|⟨u1,u2,u3,u4⟩⟩:=hv
   ·have:=u2 i _ A0; cases this
   ·have hL:=u4 i _ A0;subst hL;rw[A0]at u2; cases u2;have Bg:WgAt ty a w 0 0:=(u5.resolve_left fun x=>x.1 rfl).2;obtain⟨h1,h2,h3,h4⟩:=hh w (AS.refl _ _) Bg;refine .inr (h.sF hi (by rw[← hm]; exact h1) h2 A0 hsend (x:=none) (fun b ψ' e=>by cases e) (Fr.setCell w (smA a) _) h3 h4 (n':=n) (by omega) (fun G' ψ' g1 g2=> ?_) (by rw[← hm]; exact k w (AS.refl _ _) Bg));rw[q4]at g1; cases g1;rw[q5]at g2;simp only[AE,AR,true_and]at g2;subst g2;have vx:=GQ (dec:=γ.dec) q1 none a;have e1:cw a (γ.dec i)=0:=by rw[A0]; rfl
    have e2:cw a none=0:=rfl;refine⟨by omega,.inr (.inr ⟨by omega,fun j ψ hj=> ?_,Bg.setSm _,fun e=> ?_⟩)⟩
    ·by_cases ej:j=i
     ·subst ej; rw[upd_same]at hj; cases hj
     ·rw[upd_ne _ _ ej]at hj; exact absurd (u4 j ψ hj) ej
    ·have:=(Ik e).2.2;rw[hw]at this; cases this
   ·have:=u2 i _ A0; cases this
  |idle mx=>have:=hv.2.2.1 i _ A0; cases this
  |pend mx=>have:=hv.2.2.1 i _ A0; cases this
  |w2 mx=>have:=hv.2.2.1 i _ A0; cases this
  |w4=>have:=hv.2.1 i _ A0; cases this
  |fin=>have:=hv.2 i _ A0; cases this
 |@leave n c g w hsend A0 hG IW hq =>
  intro gs t γ sl i h hi Aq EJ hc hn hm;subst hc;have h0:i≠0:=by
   intro e; subst e; simp at hm
  cases n with
  |zero=>rw[hq.1]at Aq; cases Aq
  |succ n =>
   rcases hq with hq|⟨_,g',es,Zn,Bh,iT⟩
   ·rw[hq.1]at Aq; cases Aq
   ·exact .inr (h.leave hi h0 hsend A0 hG IW (n':=n) (by omega) Bh Zn iT)
 |@done n c g w N hs hd hG hh =>
  intro gs t γ sl i h hi Aq EJ hc hn hm;subst hc;have h0:i=0:=by simpa using hm.symm
  subst h0;obtain⟨h1,h2,h3,h4⟩:=hh w (AS.refl _ _);exact .inl (h.done hi hG h1 h2 h3 h4)
 |@found main n c g w ch cap wg hb hG Hh hw Az gV hk ih =>
  intro gs t γ sl i h hi Aq EJ hc hn hm;subst hc hm;have B7:i=0∨γ.snd i≠none:=hb.imp (fun e=>by simpa using e) id;have h':=h.found hi EJ (n':=n) B7 hG Hh hw Az gV hk;refine(ih (sl:=sl) h' hi Aq EJ (by simp[Gh.cx,upd_same]) (upd_same _ _ _) rfl).of ?_ rfl;show sumTo gs.size (upd γ.nn i n)≤_;rw[← hn,EF];exact AN _
 |@free main n c g w G hb hG BW hk Az CP ih =>
  intro gs t γ sl i h hi Aq EJ hc hn hm;subst hc hm;have h':=h.free hi EJ (n':=n) hG BW hk Az CP;refine(ih (sl:=sl) h' hi Aq EJ (by simp[Gh.cx,upd_same]) (upd_same _ _ _) rfl).of ?_ rfl;show sumTo gs.size (upd γ.nn i n)≤_;rw[← hn,EF];exact AN _
 |@freeze main n c g w M' R' hb hM hR Ox hk ih =>
  intro gs t γ sl i h hi Aq EJ hc hn hm;subst hc hm;have h':=h.freeze hi EJ (n':=n) hM hR Ox hk;refine(ih (sl:=sl) h' hi Aq EJ (by simp[Gh.cx,upd_same]) (upd_same _ _ _) rfl).of ?_ rfl;show sumTo gs.size (upd γ.nn i n)≤_;rw[← hn,EF];exact AN _
 |@more main n c g w hk ih =>
  intro gs t γ sl i h hi Aq EJ hc hn hm;subst hc hm;have h':=h.more hi EJ (n':=n) hk;refine(ih (sl:=sl) h' hi Aq EJ rfl (upd_same _ _ _) rfl).of ?_ rfl;have Ac:i<gs.size:=(A6.1 hi).1;have:sumTo gs.size (upd γ.nn i n)+γ.nn i=sumTo gs.size γ.nn+n:=sumTo_upd γ.nn n (fun x=>x) Ac;show sumTo gs.size (upd γ.nn i n)≤_;omega
 |@Vv n c g w N x hs hx hh k ih =>
  intro gs t γ sl i h hi Aq EJ hc hn hm;subst hc;obtain⟨κ,K⟩:=h.GZ hx;obtain⟨C0,μ⟩:=x;obtain rfl:C0=κ.C:=K.C;have C:=K.at_;have hf:=C.ci.few.1;have OZ:=C.ci.yI K.AL;have Oa:Bz κ.C w κ.m κ.s:=C.ci.lk;obtain⟨h1,h2,h3,h4,h5,h6⟩:=hh w (AS.refl _ _) κ.m κ.s hf OZ Oa;have hk:=k w (AS.refl _ _) κ.m κ.s hf OZ Oa;have vJ: ∀j,L6 γ i (mayWake P g) j= .HC→κ.s=0:=fun j e=>C.Di j (Gx e (by simp)).1;rcases h6 with⟨t1,t2⟩|⟨t1,t2,t3⟩
  ·obtain⟨u1,u2⟩:=C.ci.SY K.AL t1 h5;have t2:(N w).w=w.setCell κ.C.wa (.int .i32 (N w).m.val):=t2;rw[← t2]at u2;exact .inr (h.TT hi (by rw[← hm]; exact h1) h2 K (.inl rfl) (.inr ⟨_,_,C.ci.lk.word,t2⟩) h3 h4 (n':=n) (by omega) (μ':={μ with lp:=(N w).lp,φ:=μ.φ-1,sn:=some (N w).m}) u2 rfl rfl vJ (fun rr=>by rw[← hm]; exact hk rr _ ⟨Nat.sub_le _ _,fun _=>Nat.sub_lt u1 Nat.one_pos⟩))
  ·obtain⟨φ',u1,u2,u3⟩:=C.ci.look K.AL t1 h5;rw[t2]at hk;exact .inr (h.TT hi (by rw[← hm]; exact h1) h2 K (.inl rfl) (.inl t3) h3 h4 (n':=n) (by omega) (μ':={μ with lp:=(N w).lp,φ:=φ',sn:=some κ.m}) (m':=κ.m) (by rw[t3]; exact u3) rfl rfl vJ (fun rr=>by rw[← hm]; exact hk rr φ' ⟨u1,fun e=>e.elim (fun e=>absurd rfl e) fun⟨m₀,e1,e2⟩=>u2 m₀ e1 e2⟩))
 |@aJ n c g w N x hs hx hl ho h0 hh k ih =>
  intro gs t γ sl i h hi Aq EJ hc hn hm;subst hc;obtain⟨κ,K⟩:=h.GZ hx;obtain⟨C0,μ⟩:=x;obtain rfl:C0=κ.C:=K.C;have C:=K.at_;have hf:=C.ci.few.2;have Oa:Bz κ.C w κ.m κ.s:=C.ci.lk;cases e:κ.s with
  |zero =>
   rw[e]at Oa;exact .inr (h.iG hi EJ (by rw[← hm]; exact h0 w (AS.refl _ _) κ.m Oa) K hx hl ho hs e (by rw[hn, ← hm]; exact .aJ N hs hx hl ho h0 hh k))
  |succ s =>
   rw[e]at Oa hf;obtain⟨h1,h2,h3,h4⟩:=hh w (AS.refl _ _) κ.m s (by omega) Oa;have u:=C.ci.Di K.AL (lp':= .up) (s':=s) (.inl ⟨hl,rfl,e⟩);exact .inr (h.TT hi (by rw[← hm]; exact h1) h2 K (.inr rfl) (.inr ⟨_,_,C.ci.lk.sema,rfl⟩) h3 h4 (n':=n) (by omega) (μ':={μ with lp:= .up,sn:=none}) u rfl rfl (fun j e'=>by
    have:=C.Di j (Gx e' (by simp)).1;omega) (fun rr=>by rw[← hm]; exact k w (AS.refl _ _) κ.m s (by omega) Oa rr))
 |@P6 n c g w N x hs hx hl hw hh k ih =>
  intro gs t γ sl i h hi Aq EJ hc hn hm;subst hc;obtain⟨κ,K⟩:=h.GZ hx;obtain⟨C0,μ⟩:=x;obtain rfl:C0=κ.C:=K.C;have C:=K.at_;have hf:=C.ci.few.2;have Oa:Bz κ.C w κ.m κ.s:=C.ci.lk;obtain⟨h1,h2,h3,h4⟩:=hh w (AS.refl _ _) κ.s hf ⟨_,Oa⟩;have u:=C.ci.Di K.AL (lp':= .fin) (s':=κ.s+1) (.inr ⟨hl,rfl,rfl⟩);exact .inr (h.TT hi (by rw[← hm]; exact h1) h2 K (.inr rfl) (.inr ⟨_,_,C.ci.lk.sema,rfl⟩) h3 h4 (n':=n) (by omega) (μ':={μ with lp:= .fin,sn:=none}) u rfl rfl (fun j e'=>absurd rfl ((Gx e' (by simp)).2.2 hw).2) (fun rr=>by rw[← hm]; exact k w (AS.refl _ _) κ.s hf ⟨_,Oa⟩ rr))
 |@YY n c g w N x hs hx hd hl ho hh k ih =>
  intro gs t γ sl i h hi Aq EJ hc hn hm;subst hc;obtain⟨κ,K⟩:=h.GZ hx;obtain⟨h1,h2,h3⟩:=hh w (AS.refl _ _);exact .inr (h.YY hi (by rw[← hm]; exact h1) h2 K hd hl ho h3 (n':=n) (by omega) (fun σ a b c=>by rw[← hm]; exact k w (AS.refl _ _) σ a b c))
 |@YU n c g w N x wa hs hx hd ho hP hh k ih =>
  intro gs t γ sl i h hi Aq EJ hc hn hm;subst hc;obtain⟨κ,K⟩:=h.GZ hx;obtain⟨h1,h2,h3,h4⟩:=hh w (AS.refl _ _);exact .inr (h.YU hi (by rw[← hm]; exact h1) h2 K hd ho hP h3 (n':=n) (by omega) h4 (by rw[← hm]; exact k w (AS.refl _ _)))
 |@P8 n c g w N x v ch a sp hs hx hd hl ho hsend A0 hG hh k ih =>
  intro gs t γ sl i h hi Aq EJ hc hn hm;subst hc;obtain⟨κ,K⟩:=h.GZ hx;obtain⟨h1,h2,h3,h4,h5⟩:=hh w (AS.refl _ _);exact .inr (h.P8 hi (by rw[← hm]; exact h1) h2 K hd hl ho hsend A0 hG h3 (n':=n) (by omega) h4 h5 (by rw[← hm]; exact k w (AS.refl _ _)))
 |@Jx n c g w C ch a R' hG Hr ha hP R7 kL Hh hw hR RY hk hJ hW ih =>
  intro gs t γ sl i h hi Aq EJ hc hn hm;have h0:i=0:=by simpa using hm.symm
  subst h0;subst hc;have h':=h.Jx hi EJ (n':=n) hG Hr ha hP R7 kL Hh hw hR RY hk hJ hW;refine(ih (sl:=sl) h' hi Aq EJ (by simp[Gh.cx,upd_same]) (upd_same γ.nn 0 n) rfl).of ?_ rfl;show sumTo gs.size (upd γ.nn 0 n)≤_;rw[← hn,EF];exact AN _
 |@Iv n c g w N G C a hs hd hG hC Az hh k ih =>
  intro gs t γ sl i h hi Aq EJ hc hn hm;have h0:i=0:=by simpa using hm.symm
  subst h0;subst hc;obtain⟨h1,h2,h3⟩:=hh w (AS.refl _ _);exact .inr (h.Iv hi h1 h2 hd hG hC Az h3 (n':=n) (by omega) (k w (AS.refl _ _)))
theorem Ls{dec:Nat→Option (Nat×IE)}{a:Nat}: ∀{n:Nat},0<C8 n dec a→∃j,j<n∧dec j=some (a,.cnt)
 |0,h=>by simp[C8,sumTo]at h
 |n+1,h=>by
  by_cases e:dec n=some (a,.cnt)
  ·exact⟨n,by omega,e⟩
  ·have h0:cw a (dec n)=0:=by
    cases e1:dec n with
    |none=>rfl
    |some x =>
     obtain⟨b,φ⟩:=x;cases φ<;>simp only[cw];by_cases e2:b=a
     ·exact absurd (by rw[e1,e2]) e
     ·rw[AA e2]
   have:0<C8 n dec a:=by simp only[C8,sumTo,h0]at h ⊢; simpa using h
   obtain⟨j,h1,h2⟩:=Ls this;exact⟨j,by omega,h2⟩
def Ni(γ:Gh)(i:Nat):Prop:=γ.ps i= .HC
theorem GI.H7{gs:Array Goroutine}{w:World}{t:Trace}{γ:Gh}(h:GI P ty Post gs w t γ){i:Nat}(hi:i<gs.size)(ha:Ni γ i): ∃x k,Q0 gs w γ i x k∧x.μ.lp= .Cs:=by
 have hs:=h.Ms i _ (CR hi);rw[show γ.ps i= .HC from ha]at hs;cases hs with
 |HC hx hl Aq ho hw =>
  obtain⟨κ,K⟩:=h.GZ hx;exact⟨_,κ,K,hl⟩
theorem GI.Ui{gs:Array Goroutine}{w:World}{t:Trace}{γ:Gh}(h:GI P ty Post gs w t γ): ∀(m i:Nat),gs.size-i≤m→i<gs.size→i≠0→¬Ni γ i→¬Ni γ (γ.par i)→(γ.snd i≠none∨γ.dec i≠none)→∃(k:Nat) (g:Goroutine),gs[k]? =some g∧g.status= .running:=by
 intro m;induction m with
 |zero=>intro i h1 h2; omega
 |succ m ih =>
  intro i h1 h2 h0 hna hnp nZ;have hg:=CR h2;have JU: ∀j,j∈γ.ids i→(γ.snd j≠none∨γ.dec j≠none)→∃(k:Nat) (g:Goroutine),gs[k]? =some g∧g.status= .running:=by
   intro j hj nZ;obtain⟨_,_,_,_,_,_,o4,o5,_,o7,_⟩:=h.li.CO hj;refine ih j (by omega) o5 (by omega) (fun e=> ?_) (by rw[o7]; exact hna) nZ;obtain⟨x,κ,K,_⟩:=h.H7 o5 e;exact h0 (o7.symm.trans K.par)
  have hs:=h.Ms i _ hg;generalize hp:γ.ps i=s at hs;cases hs with
  |run hw =>
   rcases hw.status with e|⟨_,e0,e1,e2,_⟩
   ·exact⟨i,_,hg,e⟩
   ·rcases nZ with e|e
    ·exact absurd e1 e
    ·exact absurd e2 e
  |HC hx hl Aq ho hw=>exact absurd hp hna
  |snd hm aV hc hG IW To hd AO hR k =>
   have hc:γ.snd i=some _:=hc;obtain⟨k,G,o1,o2,o3,o4,o5,_,_,_,o9⟩:=h.li.NB hc;have Yk:=(h.li.gn _ G o2).1;have kG:=CR Yk;have Kw:=h.Ms _ _ kG;generalize rM:γ.ps (γ.par i)=x at Kw;cases Kw with
   |run hw =>
    rcases hw.status with e|⟨_,_,_,_,e⟩
    ·exact⟨_,_,kG,e⟩
    ·have e:γ.AP (γ.par i)=none:=e;rw[o2]at e; cases e
   |snd Zn hg'' Ig Ar iY hdc' G3 EP RY k' =>
    have Ar:γ.AP (γ.par i)=none:=Ar;rw[o2]at Ar; cases Ar
   |Nt hg'' Ar CP BW A2 Dq G3 k'=>exact absurd hp (h.nr _ rM i (Cg o1))
   |HC hx hl Aq ho hw=>exact absurd rM hnp
   |Di Ar Az Aq ho hw =>
    rename_i G' a;have Ar:γ.AP (γ.par i)=some G':=Ar;rw[o2]at Ar; cases Ar;have To:γ.dec i=none:=To;rw[o9,Az]at To; cases To
  |Nt aV hG hk BW A2 Dq hd k =>
   rename_i g₀ G z FG;have hG:γ.AP i=some G:=hG;obtain⟨q1,q2,q3,_⟩:=h.li.gn i G hG;obtain⟨buf,s,r,hc⟩:=h.ch i G hG BW;cases e:γ.ids i with
   |nil =>
    rw[e]at q3;exact absurd (Ge.1 q3.symm) hk
   |cons j l =>
    have hj:j∈γ.ids i:=by rw[e]; simp
    obtain⟨_,_,_,_,_,_,_,_,_,_,o8⟩:=h.li.CO hj;refine JU j hj (.inl ?_);rcases o8 with⟨s1,_⟩|⟨_,_,f,s3,_⟩
    ·rw[s1]; simp
    ·exfalso;have h0:(γ.ids i).countP (Cw γ.Aw)=0:=by rw[hc.cnt]; exact hc.un A2
     have:=List.countP_eq_zero.1 h0 j hj;simp[Cw,s3]at this
  |Di hG Az Aq ho hw =>
   rename_i G a;have hG:γ.AP i=some G:=hG;have DJ: ∀j φ,γ.dec j=some (a,φ)→j∈γ.ids i:=fun j φ hj=>by
    obtain⟨r1,r2,r3,Ii,ψ,r4,r5⟩:=h.li.HE j a φ hj;have e:=h.BX.ss _ _ a ⟨Ii,r4,.inr ⟨ψ,r5⟩⟩ ⟨G,hG,.inr ⟨_,Az⟩⟩;have ny:j≠0:=fun e=>by rw[e,h.li.zd]at hj; cases hj
    have hm:=h.li.self j r1 r2 ny
    rwa [e]at hm
   obtain⟨v1,⟨u1,_⟩|⟨_,L,φ,u2,_⟩|⟨_,_,_,u4⟩⟩:=h.wg i G a _ hG Az
   ·obtain⟨j,_,hj⟩:=Ls u1;exact JU j (DJ j _ hj) (.inr (by rw[hj]; simp))
   ·exact JU L (DJ L _ u2) (.inr (by rw[u2]; simp))
   ·exact absurd hp u4
theorem GI.K9{gs:Array Goroutine}{w:World}{t:Trace}{γ:Gh}(h:GI P ty Post gs w t γ): ¬Ni γ 0:=fun e=>by
 obtain⟨x,κ,K,_⟩:=h.H7 h.li.pos e;exact K.pos rfl
theorem GI.bY{gs:Array Goroutine}{w:World}{t:Trace}{γ:Gh}(h:GI P ty Post gs w t γ){i:Nat}(hi:i<gs.size)(ha:Ni γ i): ∃(k:Nat) (g:Goroutine),gs[k]? =some g∧g.status= .running:=by
 obtain⟨x,κ,K,hl⟩:=h.H7 hi ha;have C:=K.at_;have hs:=C.Di i ha;have Zp:=C.ci;rw[hs]at Zp;obtain⟨j,ν,e1,e2,e3⟩:=Zp.MB K.AL hl;have hj:=Zp.lt j ν e1;have XD:γ.Aw j=none:=by
  cases e:γ.Aw j with
  |none=>rfl
  |some f=>exact absurd (C.bI j f ν e e1).1 e3
 have IW:γ.mt j=some ⟨κ.C,ν⟩:=by rw[C.TO j,XD,e1]; rfl
 obtain⟨κ',K'⟩:=h.GZ IW;refine h.Ui gs.size j (by omega) hj K'.pos (fun e=> ?_) (by rw[K'.par]; exact h.K9) (.inl K'.snd);obtain⟨y,κ₂,K₂,vY⟩:=h.H7 hj e;have:κ₂=κ:=by have a:=K₂.cr; have b:=K.cr; rw[a]at b; cases b; rfl
 subst this;have:=K₂.AL;rw[e1]at this; cases this;exact e2 vY
theorem GI.MB{gs:Array Goroutine}{w:World}{t:Trace}{γ:Gh}(h:GI P ty Post gs w t γ): ∃(k:Nat) (g:Goroutine),gs[k]? =some g∧g.status= .running:=by
 have hg:=CR h.li.pos;have JU: ∀j,j∈γ.ids 0→(γ.snd j≠none∨γ.dec j≠none)→∃(k:Nat) (g:Goroutine),gs[k]? =some g∧g.status= .running:=by
  intro j hj nZ;obtain⟨_,_,_,_,_,_,o4,o5,_,o7,_⟩:=h.li.CO hj;by_cases e:Ni γ j
  ·exact h.bY o5 e
  ·exact h.Ui gs.size j (by omega) o5 (by omega) e (by rw[o7]; exact h.K9) nZ
 have hs:=h.Ms 0 _ hg;generalize hp:γ.ps 0=s at hs;cases hs with
 |run hw =>
  rcases hw.status with e|⟨_,e0,_⟩
  ·exact⟨0,_,hg,e⟩
  ·cases e0
 |HC hx hl Aq ho hw=>exact absurd hp h.K9
 |snd hm aV hc hG IW To hd AO hR k=>cases hm
 |Nt aV hG hk BW A2 Dq hd k =>
  rename_i g₀ G z FG;have hG:γ.AP 0=some G:=hG;obtain⟨q1,q2,q3,_⟩:=h.li.gn 0 G hG;obtain⟨buf,s,r,hc⟩:=h.ch 0 G hG BW;cases e:γ.ids 0 with
  |nil =>
   rw[e]at q3;exact absurd (Ge.1 q3.symm) hk
  |cons j l =>
   have hj:j∈γ.ids 0:=by rw[e]; simp
   obtain⟨_,_,_,_,_,_,_,_,_,_,o8⟩:=h.li.CO hj;refine JU j hj (.inl ?_);rcases o8 with⟨s1,_⟩|⟨_,_,f,s3,_⟩
   ·rw[s1]; simp
   ·exfalso;have h0:(γ.ids 0).countP (Cw γ.Aw)=0:=by rw[hc.cnt]; exact hc.un A2
    have:=List.countP_eq_zero.1 h0 j hj;simp[Cw,s3]at this
 |Di hG Az Aq ho hw =>
  rename_i G a;have hG:γ.AP 0=some G:=hG;have DJ: ∀j φ,γ.dec j=some (a,φ)→j∈γ.ids 0:=fun j φ hj=>by
   obtain⟨r1,r2,r3,Ii,ψ,r4,r5⟩:=h.li.HE j a φ hj;have e:=h.BX.ss _ _ a ⟨Ii,r4,.inr ⟨ψ,r5⟩⟩ ⟨G,hG,.inr ⟨_,Az⟩⟩;have ny:j≠0:=fun e=>by rw[e,h.li.zd]at hj; cases hj
   have hm:=h.li.self j r1 r2 ny
   rwa [e]at hm
  obtain⟨v1,⟨u1,_⟩|⟨_,L,φ,u2,_⟩|⟨_,_,_,u4⟩⟩:=h.wg 0 G a _ hG Az
  ·obtain⟨j,_,hj⟩:=Ls u1;exact JU j (DJ j _ hj) (.inr (by rw[hj]; simp))
  ·exact JU L (DJ L _ u2) (.inr (by rw[u2]; simp))
  ·exact absurd hp u4
theorem KD.awake{main:Bool}{n:Nat}{c:Ctx}{g:Goroutine}{w:World}{s:PS}(h:KD P ty Post main n c g w s):awake g:=by
 intro tm;cases h with
 |run hw =>
  rcases hw.status with e|e
  ·rw[e]; simp
  ·rw[e.1]; simp
 |snd hm hg hc hG IW To hd AO hR k=>rw[hg]; simp[parked]
 |Nt hg hG hk BW A2 Dq hd k=>rw[hg]; simp[parked]
 |Di hG Az Aq ho hw=>rw[Aq]; simp
 |HC hx hl Aq ho hw=>rw[Aq]; simp
theorem Inv.step{μ:Nat×Nat}{m:Machine}{t:Trace}(h:Inv P ty Post μ m t) :
  (∃o w ops,stepT P m=(.ended o w,ops)∧Good P Post m o w (t++ops))∨(∃m' ops μ',stepT P m=(.next m',ops)∧Lt2 μ' μ∧Inv P ty Post μ' m' (t++ops)):=by
 obtain⟨gs,w,sl,γ,rfl,h,rfl⟩:=h;obtain⟨i,g,d,sl',hg,AT,Bh⟩:=crowd_pick (P:=P) (w:=w) (sl:=sl) (fun g hg=>by
  obtain⟨j,hj⟩:=Array.mem_iff_getElem?.1 hg;exact(h.Ms j g hj).awake) h.MB
 rw[Bh];have h':=h.at d;have EJ:γ.ps i= .run:=by
  have hs:=h.Ms i g hg;generalize γ.ps i=x at hs;cases hs with
  |run hw=>rfl
  |snd hm aV hc hG IW To hd AO hR k=>rw[aV]at AT; cases AT
  |Nt aV hG hk BW A2 Dq hd k=>rw[aV]at AT; cases AT
  |Di hG Az Aq ho hw=>rw[Aq]at AT; cases AT
  |HC hx hl Aq ho hw=>rw[Aq]at AT; cases AT
 have hs:=h'.Ms i g hg;rw[EJ]at hs;cases hs with
 |run hw =>
  rcases GI.step hw (sl:=sl') h' hg AT EJ rfl rfl rfl with⟨o,w',ops,h1,h2⟩|h1
  ·exact .inl ⟨o,w',ops,h1,h2 _ _⟩
  ·exact .inr h1
theorem W.runs{n:Nat}{M:Nat→Prop}{R:Addr→Prop}{a:Goroutine}{w:World}(hW:W P ty Post true n ⟨M,R,0,none,none,none,none⟩ a w)(hM: ∀b,M b→b<w.heap.size)(hR: ∀x,R x→x.block<w.heap.size∧¬M x.block) :
  ∃N last o w' t',runNT P (N+1) (solo a w) #[]=(.ended o w',t')∧runN P N (solo a w)= .next last∧step P last= .ended o w'∧Good P Post last o w' t':=by
 refine run_of_inv (r:=Lt2) (Prod.lex Nat.lt_wfRel Nat.lt_wfRel).wf (Inv P ty Post) (Good P Post) (fun μ m t h=>h.step) _ (solo a w) #[] ⟨#[a],w,none,
  {M:=fun i b=>i=0∧M b,R:=fun i x=>i=0∧R x,d:=fun _=>0,snd:=fun _=>none,dec:=fun _=>none,AP:=fun _=>none,par:=fun _=>0,acc:=fun i=>i,ids:=fun _=> [],Aw:=fun _=>none,nn:=fun _=>n,ps:=fun _=> .run,q:=⟨fun _=>False,fun _=>False,fun _=>False,⟨0,0,none⟩,fun _=>False,fun _=>none⟩,mt:=fun _=>none,cr:=none},rfl, ?_,rfl⟩
 refine⟨⟨by simp,rfl,rfl,rfl,fun p G h=>by simp at h,fun p k j h=>by simp at h,fun j h=>by simp at h,fun j a φ h=>by simp at h,fun j h1 _ h3=>by simp at h1; exact absurd h1 h3,fun j h=>absurd rfl h,fun _=>rfl,fun j h=>h,fun j _=>⟨rfl,rfl⟩⟩, ?_, ?_,⟨fun p=>rfl,fun _=>rfl,fun _=>id,fun _=>id,fun _=>id,fun _=>id⟩,fun a k hk=>(by simp[Trace.act?]at hk), ?_, ?_, ?_, ?_, ?_, ?_, ?_⟩
 ·refine⟨fun i j b h1 h2=>h1.1.trans h2.1.symm,fun i b h=>hM b h.2,fun i p b _ h=> ?_,fun i x h=>(hR x h.2).1,fun i j x h1 h2=>(hR x h1.2).2 h2.2,fun i p x _ h=> ?_,fun p q b h=> ?_,fun p b h=> ?_,fun i b h=> ?_,fun _ h=>h.elim,fun _ _ h=>h.elim,fun _ _ h=>h.elim,fun _ _ h=>h.elim,fun _ _ h=>h.elim,fun _ h=>h.elim,fun _ _ h=>h.elim,fun _ _ h=>h.elim,fun _ _ h=>h.elim,fun _ h=>h.elim,fun _ h=>h.elim⟩
  ·obtain⟨G,h,_⟩:=h; simp at h
  ·obtain⟨G,h,_⟩:=h; simp at h
  ·obtain⟨G,h,_⟩:=h; simp at h
  ·obtain⟨G,h,_⟩:=h; simp at h
  ·rcases h with⟨G,h,_⟩|⟨φ,h⟩<;>simp at h
 ·refine⟨fun i b _ k x h=>by simp[touchAt,Trace.act?]at h,fun i a _ k x h=>by simp[touchAt,Trace.act?]at h,fun i b p _ _ k x h=>by simp[touchAt,Trace.act?]at h,noRace_nil,fun k op h=>by simp at h,fun k x b h=>by simp[touchAt,Trace.act?]at h,fun k g h=>by simp[Trace.g?]at h,fun _ h=>h.elim,fun _ h=>h.elim,fun _ h=>h.elim⟩
 ·intro j b h; simp[h.1]
 ·intro j _; rfl
 ·intro j f h; simp at h
 ·intro p G h; simp at h
 ·intro p G a φ h; simp at h
 ·intro i g h;have:i=0:=by
   have:=(A6.1 h).1;simp at this; exact this
  subst this;simp at h;subst h;refine .run ?_;simpa[Gh.cx]using hW
 ·intro p h; cases h
end
end Go.Gw
namespace Go.Gd
inductive T(α:Type)where
 |nil
 |node (l:T α) (v:Option α) (r:T α)
namespace T
variable{α:Type}
def get(t:T α):Nat→Option α :=
 T.rec (motive:=fun _=>Nat→Option α) (fun _=>none)
  (fun _ v _ dm dk n=>Bool.rec (Bool.rec (dk (Nat.sub (Nat.div n (nat_lit 2)) (nat_lit 1))) (dm (Nat.div n (nat_lit 2))) (Nat.beq (Nat.mod n (nat_lit 2)) (nat_lit 1))) v (Nat.beq n (nat_lit 0))) t
def single(v:α)(f:Nat):Nat→T α :=
 Nat.rec (motive:=fun _=>Nat→T α) (fun _=> .node .nil (some v) .nil)
  (fun _ ih n=>Bool.rec (Bool.rec (.node .nil none (ih (Nat.sub (Nat.div n (nat_lit 2)) (nat_lit 1)))) (.node (ih (Nat.div n (nat_lit 2))) none .nil) (Nat.beq (Nat.mod n (nat_lit 2)) (nat_lit 1))) (.node .nil (some v) .nil) (Nat.beq n (nat_lit 0))) f
def deep:Nat:=40
def set(t:T α):Nat→α→T α :=
 T.rec (motive:=fun _=>Nat→α→T α) (fun n v=>single v deep n)
  (fun l v₀ r dm dk n v=>Bool.rec (Bool.rec (.node l v₀ (dk (Nat.sub (Nat.div n (nat_lit 2)) (nat_lit 1)) v)) (.node (dm (Nat.div n (nat_lit 2)) v) v₀ r) (Nat.beq (Nat.mod n (nat_lit 2)) (nat_lit 1))) (.node l (some v) r) (Nat.beq n (nat_lit 0))) t
theorem cL{β:Type}(n:Nat)(x y z:β):(Bool.rec (motive:=fun _=>β) (Bool.rec (motive:=fun _=>β) z y (Nat.beq (Nat.mod n 2) 1)) x (Nat.beq n 0))=if n=0 then x else if n%2=1 then y else z:=by
 have e: ∀a b:Nat,Nat.beq a b=decide (a=b):=fun a b=>by
  cases h:Nat.beq a b
  ·exact(decide_eq_false (Bl h)).symm
  ·exact(decide_eq_true (AJ h)).symm
 rw[e,e];show _=if n=0 then x else if Nat.mod n 2=1 then y else z
 by_cases h:n=0
 ·simp[h]
 ·by_cases h':Nat.mod n 2=1<;>simp[h,h']
theorem get_nil(n:Nat):(nil:T α).get n=none:=rfl
theorem Ci(l r:T α)(v:Option α)(n:Nat):(node l v r).get n=if n=0 then v else if n%2=1 then l.get (n/2)else r.get (n/2-1):=by
 refine(cL n v (l.get (n/2)) (r.get (n/2-1))).trans ?_;by_cases h:n=0
 ·simp[h]
 ·by_cases h':n%2=1<;>simp[h,h']
theorem bc(l r:T α)(v:Option α)(n:Nat)(x:α):(node l v r).set n x=if n=0 then node l (some x) r else if n%2=1 then node (l.set (n/2) x) v r else node l v (r.set (n/2-1) x):=by
 refine(cL n (node l (some x) r) (node (l.set (n/2) x) v r) (node l v (r.set (n/2-1) x))).trans ?_;by_cases h:n=0
 ·simp[h]
 ·by_cases h':n%2=1<;>simp[h,h']
theorem Uk(v:α)(f n:Nat):single v (f+1) n=if n=0 then node nil (some v) nil else if n%2=1 then node (single v f (n/2)) none nil else node nil none (single v f (n/2-1)):=by
 refine(cL n (node nil (some v) nil) (node (single v f (n/2)) none nil) (node nil none (single v f (n/2-1)))).trans ?_;by_cases h:n=0
 ·simp[h]
 ·by_cases h':n%2=1<;>simp[h,h']
theorem Lm(v:α): ∀(f n m:Nat),n<2^f→(single v f n).get m=if m=n then some v else none
 |0,n,m,h=>by
  have:n=0:=by omega
  subst this;show(node nil (some v) nil).get m=_;rw[Ci];by_cases e:m=0
  ·simp[e]
  ·by_cases e':m%2=1<;>simp[e,e',get_nil]
 |f+1,n,m,h=>by
  have hp:2^(f+1)=2*2^f:=by rw[Nat.pow_succ,Nat.mul_comm]
  rw[Uk];by_cases e:n=0
  ·subst e;rw[AD rfl,Ci];by_cases e:m=0
   ·simp[e]
   ·by_cases e':m%2=1<;>simp[e,e',get_nil]
  ·rw[AA e];by_cases e1:n%2=1
   ·rw[AD e1,Ci,Lm v f (n/2) (m/2) (by omega)];by_cases e2:m=0
    ·simp[e2,Ne.symm e]
    ·rw[AA e2];by_cases e3:m%2=1
     ·rw[AD e3];by_cases e4:m=n
      ·simp[e4]
      ·rw[AA (by omega),AA e4]
     ·rw[AA e3,AA (by intro x; subst x; exact e3 e1)];rfl
   ·rw[AA e1,Ci,Lm v f (n/2-1) (m/2-1) (by omega)];by_cases e2:m=0
    ·simp[e2,Ne.symm e]
    ·rw[AA e2];by_cases e3:m%2=1
     ·rw[AD e3,AA (by intro x; subst x; exact e1 e3)];rfl
     ·rw[AA e3];by_cases e4:m=n
      ·simp[e4]
      ·rw[AA (by omega),AA e4]
theorem AW(v:α): ∀(t:T α) (n m:Nat),n<2^deep→(t.set n v).get m=if m=n then some v else t.get m
 | .nil,n,m,h=>by
  show(single v deep n).get m=_;rw[Lm v deep n m h]; rfl
 | .node l v₀ r,n,m,h=>by
  rw[bc];by_cases e:n=0
  ·subst e;rw[AD rfl,Ci,Ci];by_cases e:m=0
   ·simp[e]
   ·simp[e]
  ·rw[AA e];by_cases e1:n%2=1
   ·rw[AD e1,Ci,Ci,AW v l (n/2) (m/2) (by omega)];by_cases e2:m=0
    ·simp[e2,Ne.symm e]
    ·rw[AA e2,AA e2];by_cases e3:m%2=1
     ·rw[AD e3,AD e3];by_cases e4:m=n
      ·simp[e4]
      ·rw[AA (by omega),AA e4]
     ·rw[AA e3,AA e3,AA (by intro x; subst x; exact e3 e1)]
   ·rw[AA e1,Ci,Ci,AW v r (n/2-1) (m/2-1) (by omega)];by_cases e2:m=0
    ·simp[e2,Ne.symm e]
    ·rw[AA e2,AA e2];by_cases e3:m%2=1
     ·rw[AD e3,AD e3,AA (by intro x; subst x; exact e1 e3)]
     ·rw[AA e3,AA e3];by_cases e4:m=n
      ·simp[e4]
      ·rw[AA (by omega),AA e4]
end T
end Go.Gd
namespace Go.Gd
open Go
structure RB where
 blk:Nat
 size:Nat
 es:Nat
abbrev Ah:=Nat→Option RB
def Ah.le(ρ ρ':Ah):Prop:= ∀b B,ρ b=some B→ρ' b=some B
theorem Ah.le.refl(ρ:Ah):ρ.le ρ:=fun _ _ h=>h
theorem Ah.le.trans{ρ ρ' bO:Ah}(h:ρ.le ρ')(h':ρ'.le bO):ρ.le bO:=fun b B x=>h' b B (h b B x)
def HN:Nat:=2^63
inductive FR(ρ:Ah):Fn→Fn→Prop where
 |func (f:FuncId):FR ρ (.func f) (.func f)
 |method (n:String):FR ρ (.method n) (.method n)
 |methodOf (t:TypeId) (n:String):FR ρ (.methodOf t n) (.methodOf t n)
 |via (t:TypeId) (p:Array FieldStep) (f:FuncId) (b:Bool):FR ρ (.via t p f b) (.via t p f b)
 |yield {l:Nat} {B:RB} (h:ρ l=some B):FR ρ (.yield l) (.yield B.blk)
mutual
inductive VR(ρ:Ah):Value→Value→Prop where
 |bool (b:Bool):VR ρ (.bool b) (.bool b)
 |int (k:IntKind) (n:Int):VR ρ (.int k n) (.int k n)
 |float (k:FloatKind) (n:Nat):VR ρ (.float k n) (.float k n)
 |complex (k:FloatKind) (n m:Nat):VR ρ (.complex k n m) (.complex k n m)
 |string (s:ByteArray):VR ρ (.string s) (.string s)
 |JS:VR ρ (.pointer none) (.pointer none)
 |ptr {a:Addr} {B:RB} (h:ρ a.block=some B):VR ρ (.pointer (some a)) (.pointer (some {a with block:=B.blk}))
 |MC (n c:Nat):VR ρ (.slice none n c) (.slice none n c)
 |sl {a:Addr} {B:RB} {n c c':Nat} (h:ρ a.block=some B) (hc:(c≠HN∧c'=c)∨(c=HN∧n≤c'∧a.off+c'*B.es≤B.size)):VR ρ (.slice (some a) n c) (.slice (some {a with block:=B.blk}) n c')
 |IP:VR ρ (.map none) (.map none)
 |map {r:Nat} {B:RB} (h:ρ r=some B):VR ρ (.map (some r)) (.map (some B.blk))
 |OF:VR ρ (.chan none) (.chan none)
 |chan {r:Nat} {B:RB} (h:ρ r=some B):VR ρ (.chan (some r)) (.chan (some B.blk))
 |func {fn NS:Fn} {xs xs' ys Ij:Array Value} (h:FR ρ fn NS) (hx:CE ρ xs.toList xs'.toList) (hy:CE ρ ys.toList Ij.toList):VR ρ (.func fn xs ys) (.func NS xs' Ij)
 |nilFunc:VR ρ .nilFunc .nilFunc
 |iface {t:TypeId} {v v':Value} (h:VR ρ v v'):VR ρ (.iface t v) (.iface t v')
 |nilIface:VR ρ .nilIface .nilIface
 |agg {xs xs':Array Value} (h:CE ρ xs.toList xs'.toList):VR ρ (.agg xs) (.agg xs')
 |tuple {xs xs':Array Value} (h:CE ρ xs.toList xs'.toList):VR ρ (.tuple xs) (.tuple xs')
inductive CE(ρ:Ah):List Value→List Value→Prop where
 |nil:CE ρ [] []
 |cons {v v':Value} {l l':List Value} (h:VR ρ v v') (t:CE ρ l l'):CE ρ (v::l) (v'::l')
end
theorem FR.mono{ρ ρ':Ah}(hρ:ρ.le ρ'){f f':Fn}(h:FR ρ f f'):FR ρ' f f':=by
 cases h with
 |func=>exact .func _
 |method=>exact .method _
 |methodOf=>exact .methodOf _ _
 |via=>exact .via _ _ _ _
 |yield h=>exact .yield (hρ _ _ h)
mutual
theorem VR.mono{ρ ρ':Ah}(hρ:ρ.le ρ'): ∀{v v':Value},VR ρ v v'→VR ρ' v v'
 |_,_,.bool b=> .bool b
 |_,_,.int k n=> .int k n
 |_,_,.float k n=> .float k n
 |_,_,.complex k n m=> .complex k n m
 |_,_,.string s=> .string s
 |_,_,.JS=> .JS
 |_,_,.ptr h=> .ptr (hρ _ _ h)
 |_,_,.MC n c=> .MC n c
 |_,_,.sl h hc=> .sl (hρ _ _ h) hc
 |_,_,.IP=> .IP
 |_,_,.map h=> .map (hρ _ _ h)
 |_,_,.OF=> .OF
 |_,_,.chan h=> .chan (hρ _ _ h)
 |_,_,.func h hx hy=> .func (h.mono hρ) (CE.mono hρ hx) (CE.mono hρ hy)
 |_,_,.nilFunc=> .nilFunc
 |_,_,.iface h=> .iface (VR.mono hρ h)
 |_,_,.nilIface=> .nilIface
 |_,_,.agg h=> .agg (CE.mono hρ h)
 |_,_,.tuple h=> .tuple (CE.mono hρ h)
theorem CE.mono{ρ ρ':Ah}(hρ:ρ.le ρ'): ∀{l l':List Value},CE ρ l l'→CE ρ' l l'
 |_,_,.nil=> .nil
 |_,_,.cons h t=> .cons (VR.mono hρ h) (CE.mono hρ t)
end
section
variable{ρ:Ah}
theorem CE.length: ∀{l l':List Value},CE ρ l l'→l.length=l'.length
 |_,_,.nil=>rfl
 |_,_,.cons _ t=>by simp[CE.length t]
theorem CE.get: ∀{l l':List Value},CE ρ l l'→∀(k:Nat) (v:Value),l[k]? =some v→∃v',l'[k]? =some v'∧VR ρ v v'
 |_,_,.nil,k,v,h=>by simp at h
 |_,_,.cons h t,0,v,e=>by
  simp only[CM,AE]at e;subst e;exact⟨_,rfl,h⟩
 |_,_,.cons h t,k+1,v,e=>by simpa using CE.get t k v (by simpa using e)
theorem CE.append: ∀{l l' m m':List Value},CE ρ l l'→CE ρ m m'→CE ρ (l++m) (l'++m')
 |_,_,_,_,.nil,h=>h
 |_,_,_,_,.cons h t,h'=> .cons h (CE.append t h')
theorem CE.set: ∀{l l':List Value},CE ρ l l'→∀(k:Nat) {v v':Value},VR ρ v v'→CE ρ (l.set k v) (l'.set k v')
 |_,_,.nil,_,_,_,_=> .nil
 |_,_,.cons _ t,0,_,_,h'=> .cons h' t
 |_,_,.cons h t,k+1,_,_,h'=> .cons h (CE.set t k h')
theorem CE.take: ∀{l l':List Value},CE ρ l l'→∀(k:Nat),CE ρ (l.take k) (l'.take k)
 |_,_,.nil,k=>by simp; exact .nil
 |_,_,.cons _ _,0=> .nil
 |_,_,.cons h t,k+1=> .cons h (CE.take t k)
theorem CE.drop: ∀{l l':List Value},CE ρ l l'→∀(k:Nat),CE ρ (l.drop k) (l'.drop k)
 |_,_,.nil,k=>by simp; exact .nil
 |_,_,.cons h t,0=> .cons h t
 |_,_,.cons _ t,k+1=>CE.drop t k
theorem CE.of: ∀{l l':List Value},l.length=l'.length→(∀(k:Nat) (v:Value),l[k]? =some v→∃v',l'[k]? =some v'∧VR ρ v v')→CE ρ l l'
 | [],[],_,_=> .nil
 |v::l,[],h,_=>by simp at h
 | [],v::l,h,_=>by simp at h
 |v::l,v'::l',h,hg=>by
  obtain⟨u,hu,hr⟩:=hg 0 v rfl;simp only[CM,AE]at hu;subst hu;exact .cons hr (CE.of (by simpa using h) fun k u hu=>by simpa using hg (k+1) u (by simpa using hu))
end
def ground(f:Nat):Value→Bool :=
 Nat.rec (motive:=fun _=>Value→Bool) (fun _=>false) (fun _ ih v=>match v with
  | .bool _| .int .. | .float .. | .complex .. | .string _| .pointer none| .slice none .. | .map none| .chan none| .nilFunc| .nilIface=>true
  | .iface _ v=>ih v
  | .agg xs| .tuple xs=>xs.toList.all ih
  |_=>false) f
theorem Fa{ρ:Ah}: ∀(f:Nat) {v v':Value},VR ρ v v'→ground f v=true→v'=v
 |0,_,_,_,h=>by cases h
 |f+1,v,v',h,hg=>by
  have Q6: ∀{l l':List Value},CE ρ l l'→l.all (ground f)=true→l'=l:=by
   intro l;induction l with
   |nil=>intro l' h _; cases h; rfl
   |cons a l ih =>
    intro l' h ha;cases h with
    |cons h t =>
     simp only[List.all_cons,AF]at ha;rw[Fa f h ha.1,ih t ha.2]
  cases h with
  |ptr h=>cases hg
  |sl h hc=>cases hg
  |map h=>cases hg
  |chan h=>cases hg
  |func h hx hy=>cases hg
  |iface h=>rw[Fa f h hg]
  |agg h =>
   rename_i xs xs';have:=Q6 h hg;rw[show xs'=xs from ED.1 this]
  |tuple h =>
   rename_i xs xs';have:=Q6 h hg;rw[show xs'=xs from ED.1 this]
  |_=>rfl
end Go.Gd
namespace Go.Gd
open Go Go.Gw
inductive AI where
 |cells (c:T Value) (size:Nat) (elem:TypeId) (es:Nat) (own:Bool) (fam:Nat) (ok:Bool) (D4:Bool)
 |obj (o:Obj)
structure PH where
 next:Nat
 t:T AI
 ng:Nat
 BF:T (List Nat)
@[reducible] noncomputable def PH.Ho (H:PH) (t:T AI):PH:=PH.casesOn H fun n _ ng f=>⟨n,t,ng,f⟩
@[reducible] noncomputable def PH.x6 (H:PH) (t:T AI):PH:=PH.casesOn H fun n _ ng f=>⟨n+1,t,ng,f⟩
@[reducible] noncomputable def PH.upF (H:PH) (t:T AI) (f:T (List Nat)):PH:=PH.casesOn H fun n _ ng _=>⟨n+1,t,ng,f⟩
def isHole:Value→Bool
 | .tuple a=>match a.toList with
  | [.tuple _]=>true
  |_=>false
 |_=>false
def hole:Value:= .tuple #[.tuple #[]]
def SL(ρ:Ah)(es es':List MapEntry):Prop:=es.length=es'.length∧∀(k:Nat) (e:MapEntry),es[k]? =some e→∃e',es'[k]? =some e'∧e'.key=e.key∧VR ρ e.val e'.val
def Q5(ρ:Ah)(es es':List MapEntry):Prop:= ∃L:List MapEntry,es'.Perm L∧SL ρ es L
theorem Q5.mono{ρ ρ':Ah}(hρ:ρ.le ρ'){es es':List MapEntry}(h:Q5 ρ es es'):Q5 ρ' es es' :=
 let⟨L,h1,h2,h3⟩:=h
 ⟨L,h1,h2,fun k e he=>let⟨p,a,b,c⟩:=h3 k e he; ⟨p,a,b,c.mono hρ⟩⟩
inductive OR(ρ:Ah):Obj→Obj→Prop where
 |NW:OR ρ (.deferred (some [])) (.deferred (some []))
 |NV:OR ρ (.deferred none) (.deferred none)
 |map {es es':Array MapEntry} (clock BP:Nat) (h:Q5 ρ es.toList es'.toList):OR ρ (.map es clock) (.map es' BP)
 |iter (s:ByteArray) (pos:Nat):OR ρ (.stringIter s pos) (.stringIter s pos)
 |chan (cap:Nat):OR ρ (.chan cap #[] false 0 0 false) (.chan cap #[] false 0 0 false)
 |loop {l l':Loop} (h1:l'.state=l.state) (h2:l'.pending=l.pending) (h3:l'.fn=l.fn) (h4:l'.tmps.size=l.tmps.size∧∀(k:Nat) (v:Value),l.tmps.toList[k]? =some v→isHole v=false→∃v',l'.tmps[k]? =some v'∧VR ρ v v') (h5:l'.params=l.params) (h6:l'.assign=l.assign) (h7:l'.body=l.body)
   (h8: ∃B,ρ l.defers=some B∧l'.defers=B.blk):OR ρ (.loop l) (.loop l')
def Nf(w:World)(b:Nat):Prop:= ∀off,w.frozen? ⟨b,off,none⟩=false
inductive BR(ρ:Ah)(c:Ctx)(w:World)(B:RB):AI→Prop where
 |cells {t:T Value} {size:Nat} {elem:TypeId} {es:Nat} {own:Bool} {fam:Nat} {ok D4:Bool} (hs:w.shape? B.blk=some (elem,B.size)) (he:B.es=es) (hf:fam=0→B.size=size) (hle:size≤B.size)
   (Ax:own=true→c.M B.blk∧(D4=false→Nf w B.blk)) (hR:own=false→ok=true→∀k,k<size→t.get k=none∨c.R ⟨B.blk,k,none⟩)
   (AO:ok=true→∀k,k<size→(own=false∧k≠0∧t.get k=none)∨∃v v',t.get k=some v∧w.cell? ⟨B.blk,k,none⟩=some v'∧VR ρ v v'):BR ρ c w B (.cells t size elem es own fam ok D4)
 |obj {o o':Obj} (hw:w.heap[B.blk]? =some o') (ho:OR ρ o o') (hM:c.M B.blk):BR ρ c w B (.obj o)
def AI.fam:AI→Nat
 | .cells _ _ _ _ _ f _ _=>f
 | .obj _=>0
def AI.mine:AI→Bool
 | .cells _ _ _ _ own _ _ _=>own
 | .obj _=>true
def PH.still(H:PH)(b:Nat):Prop:= ∀o,H.t.get b=some o→o.mine=false
def AI.FG:AI→Bool
 | .cells _ _ _ _ _ _ ok _=>ok
 | .obj _=>true
structure HR(ρ:Ah)(H:PH)(c:Ctx)(w:World):Prop where
 cap:H.next≤2^T.deep
 Dk: ∀b B,ρ b=some B→b<H.next∧B.blk<w.heap.size
 rel: ∀b B o,ρ b=some B→H.t.get b=some o→BR ρ c w B o
 inj: ∀b b' B B',ρ b=some B→ρ b'=some B'→b≠b'→B.blk=B'.blk→(∃o o',H.t.get b=some o∧H.t.get b'=some o'∧o.fam≠0∧o.fam=o'.fam)∨(H.still b∧H.still b')
 EK: ∀g,g<H.ng→∃B,ρ g=some B∧B.blk=g
 mem: ∀b B o,ρ b=some B→H.t.get b=some o→o.fam≠0→o.FG=true→∃l,H.BF.get o.fam=some l∧b∈l
section
variable{ρ:Ah}{H:PH}{c:Ctx}{w w':World}
theorem BR.rely{B:RB}{o:AI}(h:BR ρ c w B o)(hb:B.blk<w.heap.size)(r:AS c w w'):BR ρ c w' B o:=by
 cases h with
 |cells hs he hf hle Ax hR AO =>
  rename_i t size elem es own fam ok D4;refine .cells ((r.shape _ hb).trans hs) he hf hle (fun e=>⟨(Ax e).1,fun ei off=> ?_⟩) hR (fun e k hk=> ?_)
  ·have:=(Ax e).2 ei off;simp only[World.frozen?,r.mine _ (Ax e).1]at this ⊢;exact this
  ·rcases AO e k hk with hn|⟨v,v',h1,h2,h3⟩
   ·exact .inl hn
   refine .inr ⟨v,v',h1, ?_,h3⟩;cases ho:own with
   |true=>simp only[World.cell?,r.mine _ (Ax ho).1]at h2 ⊢; exact h2
   |false=>rw[r.roc _ ((hR ho e k hk).resolve_left (by rw[h1]; simp))]; exact h2
 |obj hw ho hM=>exact .obj ((r.mine _ hM).trans hw) ho hM
theorem HR.rely(h:HR ρ H c w)(r:AS c w w'):HR ρ H c w' :=
 ⟨h.cap,fun b B hb=>⟨(h.Dk b B hb).1,AV (h.Dk b B hb).2 r.size⟩,fun b B o hb ho=>(h.rel b B o hb ho).rely (h.Dk b B hb).2 r,h.inj,h.EK,h.mem⟩
theorem OR.mono{ρ':Ah}(hρ:ρ.le ρ'){o o':Obj}(h:OR ρ o o'):OR ρ' o o':=by
 cases h with
 |NW=>exact .NW
 |NV=>exact .NV
 |map clock BP h=>exact .map clock BP (h.mono hρ)
 |iter s pos=>exact .iter s pos
 |chan cap=>exact .chan cap
 |loop h1 h2 h3 h4 h5 h6 h7 h8=>exact .loop h1 h2 h3 ⟨h4.1,fun k v hk hh=>let⟨v',p,q⟩:=h4.2 k v hk hh; ⟨v',p,q.mono hρ⟩⟩ h5 h6 h7 (let⟨B,x,y⟩:=h8; ⟨B,hρ _ _ x,y⟩)
theorem BR.mono{ρ':Ah}(hρ:ρ.le ρ'){B:RB}{o:AI}(h:BR ρ c w B o):BR ρ' c w B o:=by
 cases h with
 |cells hs he hf hle Ax hR AO=>exact .cells hs he hf hle Ax hR fun e k hk=>(AO e k hk).imp id fun⟨v,v',h1,h2,h3⟩=>⟨v,v',h1,h2,h3.mono hρ⟩
 |obj hw ho hM=>exact .obj hw (ho.mono hρ) hM
end
def DT(t:T Value)(off n:Nat):Option (List Value) :=
 Nat.rec (motive:=fun _=>Nat→Option (List Value)) (fun _=>some []) (fun _ ih off=>match t.get off with
  |some v=>match ih (off+1)with
   |some l=>some (v::l)
   |none=>none
  |none=>none) n off
theorem Fv(t:T Value)(off n:Nat):DT t off (n+1)=match t.get off with
  |some v=>match DT t (off+1) n with
   |some l=>some (v::l)
   |none=>none
  |none=>none:=rfl
theorem G5{t:T Value}: ∀{n off:Nat} {l:List Value},DT t off n=some l→∀k,off≤k→k<off+n→t.get k≠none
 |0,off,l,_,k,h1,h2,_=>by omega
 |n+1,off,l,h,k,h1,h2,hk=>by
  rw[Fv]at h;by_cases e:k=off
  ·subst e; rw[hk]at h; cases h
  ·cases e1:t.get off with
   |none=>rw[e1]at h; cases h
   |some v =>
    rw[e1]at h;simp only at h;cases e2:DT t (off+1) n with
    |none=>rw[e2]at h; cases h
    |some m=>exact G5 e2 k (by omega) (by omega) hk
def Gg(b off n:Nat):List Event:=(List.range n).map fun k=>⟨.cell ⟨b,off+k,none⟩,false,false⟩
theorem RE(b off n:Nat):Gg b off (n+1)=⟨.cell ⟨b,off,none⟩,false,false⟩::Gg b (off+1) n:=by
 unfold Gg;rw[List.range_succ_eq_map,Du,List.map_map];simp only[Nat.add_zero,Function.comp_def]
 congr 1
 apply List.map_congr_left;intro k _;rw[show off+(k+1)=off+1+k by omega]
theorem Mo(b off k:Nat):(⟨b,off,none⟩:Addr).add k=⟨b,off+k,none⟩:=by
 unfold Addr.add;by_cases e:k=0
 ·subst e; rfl
 ·rw[AA e]
theorem KL{α:Type}(a:Array α)(x:α)(l:List α):a.push x++l.toArray=a++(x::l).toArray:=by
 apply Array.ext'; simp
theorem TC{p q:Prop}(h:(true=false∧p)∨q):q:=h.resolve_left fun h=>Bool.noConfusion h.1
theorem known{ρ:Ah}{w:World}{b:Nat}{t:T Value}{size:Nat}{own:Bool}(AO: ∀k,k<size→(own=false∧k≠0∧t.get k=none)∨∃v v',t.get k=some v∧w.cell? ⟨b,k,none⟩=some v'∧VR ρ v v'): ∀k v,k<size→t.get k=some v→∃v',w.cell? ⟨b,k,none⟩=some v'∧VR ρ v v':=fun k v hk hv=>by
 rcases AO k hk with⟨_,_,h⟩|⟨u,v',h1,h2,h3⟩
 ·rw[hv]at h; cases h
 ·rw[hv]at h1; cases h1; exact⟨v',h2,h3⟩
section
variable{P:Program}{ρ:Ah}{w:World}{b:Nat}{t:T Value}{size:Nat}
theorem FK(AO: ∀k v,k<size→t.get k=some v→∃v',w.cell? ⟨b,k,none⟩=some v'∧VR ρ v v'): ∀(n i off:Nat) (l:List Value) (acc:Array Value) (es:Array Event),off+i+n≤size→DT t (off+i) n=some l→
  ∃l',CE ρ l l'∧(loadCellsFrom ⟨b,off,none⟩ i n acc).runT P w es=(.ok (acc++l'.toArray) w,es++(Gg b (off+i) n).toArray)
 |0,i,off,l,acc,es,_,h=>by
  have:l= []:=(As h).symm;subst this;exact⟨[],.nil,by simp[loadCellsFrom,pure,Gg]⟩
 |n+1,i,off,l,acc,es,hle,h=>by
  rw[Fv]at h;cases h1:t.get (off+i)with
  |none=>rw[h1]at h; cases h
  |some v =>
  obtain⟨v',h2,h3⟩:=AO (off+i) v (by omega) h1;rw[h1]at h;simp only at h;cases e:DT t (off+i+1) n with
  |none=>rw[e]at h; cases h
  |some m =>
   rw[e]at h;simp only[AE]at h;subst h;obtain⟨m',r1,r2⟩:=FK AO n (i+1) off m (acc.push v') (es.push ⟨.cell ⟨b,off+i,none⟩,false,false⟩) (by omega) (by rw[← Bf]; exact e);refine⟨v'::m',.cons h3 r1, ?_⟩;show(Sem.load .plain ((⟨b,off,none⟩:Addr).add i) fun v=>(Sem.pure v).bind fun v=>loadCellsFrom ⟨b,off,none⟩ (i+1) n (acc.push v)).runT P w es=_;rw[Mo];simp only[Sem.runT,h2];show(loadCellsFrom ⟨b,off,none⟩ (i+1) n (acc.push v')).runT P w (es.push ⟨.cell ⟨b,off+i,none⟩,false,false⟩)=_;rw[r2,RE, ← Bf];rw[KL,KL]
end
abbrev DD:=T (TypeInfo×TypeDesc)
def A8(P:Program)(ty:DD):Prop:= ∀t x,ty.get t=some x→P.info? t=some x.1∧P.underlying t=some x.2
def UK:TypeDesc→Bool
 | .struct _| .array _ _=>true
 |_=>false
section
variable{P:Program}{t:TypeId}{i:TypeInfo}{d:TypeDesc}{w:World}{es:Array Event}
theorem BT{α β:Type}(P:Program): ∀(s:Sem α) (f:α→Sem β) (w:World) (es:Array Event),(s.bind f).runT P w es=match s.runT P w es with
  |(.ok a w',es')=>(f a).runT P w' es'
  |(.halt h w',es')=>(.halt h w',es')
 | .pure a,f,w,es=>rfl
 | .load m a k,f,w,es=>by
  simp only[Sem.bind,Sem.runT];split
  ·exact BT P _ f w _
  ·split
   ·exact BT P _ f w _
   ·rfl
 | .store m a v k,f,w,es=>by
  cases v<;>simp only[Sem.bind,Sem.runT]<;>first|rfl|skip
  all_goals
   split
   ·split
    ·rfl
    ·exact BT P k f _ _
   ·split
    ·exact BT P k f _ _
    ·rfl
 | .new o k,f,w,es=>by simp only[Sem.bind,Sem.runT]; exact BT P _ f _ es
 | .shape r k,f,w,es=>by simp only[Sem.bind,Sem.runT]; exact BT P _ f w es
 | .freeze a n k,f,w,es=>by simp only[Sem.bind,Sem.runT]; exact BT P k f _ es
 | .frozen a k,f,w,es=>by simp only[Sem.bind,Sem.runT]; exact BT P _ f w es
 | .getObj r k,f,w,es=>by
  simp only[Sem.bind,Sem.runT];split
  ·rfl
  ·exact BT P _ f w _
  ·rfl
 | .setObj r o k,f,w,es=>by
  simp only[Sem.bind,Sem.runT];split
  ·rfl
  ·exact BT P k f _ _
  ·rfl
 | .choose q k,f,w,es=>by
  simp only[Sem.bind,Sem.runT];split
  ·exact BT P _ f w es
  ·exact BT P _ f _ es
 | .sys c k,f,w,es=>by simp only[Sem.bind,Sem.runT]; exact BT P _ f _ _
 | .program k,f,w,es=>by simp only[Sem.bind,Sem.runT]; exact BT P _ f w es
 | .mark m k,f,w,es=>by simp only[Sem.bind,Sem.runT]; exact BT P k f w _
 | .halt h,f,w,es=>rfl
theorem AB{α β:Type}{s:Sem α}{f:α→Sem β}{w w':World}{es es':Array Event}{a:α}(h:s.runT P w es=(.ok a w',es')):(s.bind f).runT P w es=(f a).runT P w' es':=by
 rw[BT,h]
theorem B6(h:P.info? t=some i):(typeInfo t).runT P w es=(.ok i w,es):=by
 show(match P.info? t with|some i=>pure i|none=>stuck "no such type" :Sem TypeInfo).runT P w es=_;rw[h]; rfl
theorem Aa(h:P.underlying t=some d):(underlying t).runT P w es=(.ok d w,es):=by
 show(match P.underlying t with|some d=>pure d|none=>stuck "no such type" :Sem TypeDesc).runT P w es=_;rw[h]; rfl
theorem runT_size(h:P.info? t=some i):(sizeOf t).runT P w es=(.ok i.size w,es):=by
 show((typeInfo t).bind fun i=>pure i.size).runT P w es=_;rw[AB (B6 h)]; rfl
theorem LI(h:P.underlying t=some d):(isAgg t).runT P w es=(.ok (UK d) w,es):=by
 show((underlying t).bind fun d=>match d with| .struct _| .array _ _=>pure true|_=>pure false).runT P w es=_;rw[AB (Aa h)];cases d<;>rfl
end
def UP(b lo hi:Nat)(l:List Event):Prop:= ∀e∈l,∃k,lo≤k∧k<hi∧e=⟨.cell ⟨b,k,none⟩,false,false⟩
theorem Kp(b off n:Nat):UP b off (off+n) (Gg b off n):=by
 intro e he;obtain⟨k,hk,rfl⟩:=Bd.1 he;rw[Cq]at hk;exact⟨off+k,by omega,by omega,rfl⟩
def Ru(ty:DD)(H:PH)(t:TypeId)(a:Addr):Option Value :=
 match ty.get t with
 |some (i,d)=>match H.t.get a.block with
  |some (.cells c size _ _ _ _ true _)=>match a.spot with
   |none=>cond (UK d) (cond (Nat.ble (a.off+i.size) size) (match DT c a.off i.size with|some l=>some (.agg l.toArray)|none=>none) none) (cond (Nat.ble (a.off+1) size) (c.get a.off) none)
   |_=>none
  |_=>none
 |none=>none
section
variable{P:Program}{ty:DD}{ρ:Ah}{H:PH}{c:Ctx}{w:World}
theorem run_load(A7:A8 P ty)(h:HR ρ H c w){t:TypeId}{a:Addr}{v:Value}(hp:Ru ty H t a=some v){B:RB}(hB:ρ a.block=some B)(es:Array Event) :
  ∃v' l,VR ρ v v'∧(loadVar t {a with block:=B.blk}).runT P w es=(.ok v' w,es++l.toArray)∧(∃lo hi,UP B.blk lo hi l∧(c.M B.blk∨∀k,lo≤k→k<hi→c.R ⟨B.blk,k,none⟩)):=by
 unfold Ru at hp;cases e1:ty.get t with
 |none=>rw[e1]at hp; cases hp
 |some x =>
  obtain⟨i,d⟩:=x;obtain⟨hi,hd⟩:=A7 t _ e1;rw[e1]at hp;simp only at hp;cases e2:H.t.get a.block with
  |none=>rw[e2]at hp; cases hp
  |some o =>
   rw[e2]at hp;have hr:=h.rel _ _ _ hB e2;cases o with
   |obj o=>cases hp
   |cells tr size elem es' own fam ok D4 =>
    cases ok with
    |false=>cases hp
    |true =>
     obtain⟨blk,off,spot⟩:=a;cases spot with
     |some s=>cases hp
     |none =>
      simp only at hp hB hr ⊢;cases hr with
      |cells hs he hf hle Ax hR AO =>
       have AO:=AO rfl;have hU:c.M B.blk∨∀k,k<size→tr.get k=none∨c.R ⟨B.blk,k,none⟩:=by
        cases own with
        |true=>exact .inl (Ax rfl).1
        |false=>exact .inr (hR rfl rfl)
       have base:(loadVar t ⟨B.blk,off,none⟩).runT P w es=(if UK d=true then(do pure (.agg (← loadCells ⟨B.blk,off,none⟩ (← sizeOf t))):Sem Value)else load ⟨B.blk,off,none⟩).runT P w es:=by
        show((isAgg t).bind fun b=>if b=true then _ else _).runT P w es=_;rw[AB (LI hd)]
       cases ea:UK d with
       |true =>
        rw[ea]at hp base;simp only[AG]at hp;simp only[Ad]at base;cases eb:Nat.ble (off+i.size) size with
        |false=>rw[eb]at hp; cases hp
        |true =>
         rw[eb]at hp;simp only[AG]at hp;have QV:=AH eb;cases ec:DT tr off i.size with
         |none=>rw[ec]at hp; cases hp
         |some l =>
          rw[ec]at hp;simp only[AE]at hp;subst hp;obtain⟨l',r1,r2⟩:=FK (P:=P) (known AO) i.size 0 off l #[] es (by omega) (by rw[Nat.add_zero]; exact ec);refine⟨.agg l'.toArray,Gg B.blk off i.size,.agg (by simpa using r1), ?_,off,off+i.size,Kp _ _ _,hU.imp id fun h k h1 h2=>(h k (by omega)).resolve_left (G5 ec k h1 h2)⟩;rw[base];show((sizeOf t).bind fun n=>(loadCells ⟨B.blk,off,none⟩ n).bind fun cs=>pure (Value.agg cs)).runT P w es=_;rw[AB (runT_size hi)];rw[AB (s:=loadCells ⟨B.blk,off,none⟩ i.size) r2];show(Result.ok (Value.agg (#[]++l'.toArray)) w,_)=_;simp
       |false =>
        rw[ea]at hp base;simp only[Av]at hp;simp only[Bq,BS]at base;cases eb:Nat.ble (off+1) size with
        |false=>rw[eb]at hp; cases hp
        |true =>
         rw[eb]at hp;simp only[AG]at hp;have QV:=AH eb;obtain⟨u',g2,g3⟩:=known AO off v (by omega) hp;refine⟨u',[⟨.cell ⟨B.blk,off,none⟩,false,false⟩],g3, ?_,off,off+1, ?_,hU.imp id fun h k h1 h2=>(h k (by omega)).resolve_left (by rw[show k=off by omega,hp]; simp)⟩
         ·rw[base];show(Sem.load .plain ⟨B.blk,off,none⟩ .pure).runT P w es=_;simp only[Sem.runT,g2];rfl
         ·intro e he;simp at he;exact⟨off,by omega,by omega,he⟩
end
def Em:Value→Bool
 | .agg _| .tuple _=>false
 |_=>true
def setFrom(l:List Value):T Value→Nat→T Value :=
 List.rec (motive:=fun _=>T Value→Nat→T Value) (fun t _=>t) (fun v _ ih t off=>ih (t.set off v) (off+1)) l
theorem ME(v:Value)(l:List Value)(t:T Value)(off:Nat):setFrom (v::l) t off=setFrom l (t.set off v) (off+1):=rfl
theorem EB{w:World}{b k:Nat}{v u:Value}{j:Nat}{b':Nat}(h:w.cell? ⟨b,k,none⟩=some u):(w.setCell ⟨b,k,none⟩ v).cell? ⟨b',j,none⟩=if b'=b∧j=k then some v else w.cell? ⟨b',j,none⟩:=by
 unfold World.cell? at h ⊢;unfold World.setCell;simp only[E5];by_cases e:b=b'
 ·subst e;rw[AD rfl];cases hh:w.heap[b]? with
  |none=>rw[hh]at h; cases h
  |some o =>
   rw[hh]at h;cases o with
   |cells cs elem fr =>
    simp only[Bc,Option.isSome_none,Bq,BS,true_and]at h ⊢;have Ac:k<cs.size:=(A6.1 h).1;by_cases e':j=k
    ·subst e'; rw[AD rfl,Bs Ac]
    ·rw[AA e',Bb (fun x=>e' x.symm)]
   |_=>simp at h
 ·rw[AA e,AA fun x=>e x.1.symm]
theorem Dy(w:World)(a:Addr)(v:Value)(a':Addr):(w.setCell a v).frozen? a'=w.frozen? a':=by
 unfold World.frozen? World.setCell;simp only[E5];by_cases e:a.block=a'.block
 ·rw[AD e];cases h:w.heap[a'.block]? with
  |none=>rfl
  |some o=>cases o<;>rfl
 ·rw[AA e]
section
variable{ρ:Ah}{H H':PH}{c:Ctx}{w:World}
theorem JK{w:World}{a:Addr}{v:Value}{b:Nat}(h:b≠a.block):(w.setCell a v).heap[b]? =w.heap[b]? :=by
 simp only[World.setCell,E5];rw[AA fun e=>h e.symm]
structure CK(c:Ctx)(w:World):Prop where
 ml: ∀b,c.M b→b<w.heap.size
 rl: ∀a,c.R a→a.block<w.heap.size
 rm: ∀a,c.R a→¬c.M a.block
theorem HR.setCell(h:HR ρ H c w){b k size:Nat}{B:RB}{t:T Value}{elem:TypeId}{es:Nat}{v v':Value}(hB:ρ b=some B)(ho:H.t.get b=some (.cells t size elem es true 0 true false))(hk:k<size)(hd:k<2^T.deep)(hv:VR ρ v v')
  (hn:H'.next=H.next) (El:H'.ng=H.ng) (Fx:H'.BF=H.BF) (h1:H'.t.get b=some (.cells (t.set k v) size elem es true 0 true false)) (h2: ∀b',b'≠b→H'.t.get b'=H.t.get b'):HR ρ H' c (w.setCell ⟨B.blk,k,none⟩ v'):=by
 have hr:=h.rel _ _ _ hB ho;cases hr with
 |cells hs he hf hle Ax hR AO =>
  obtain⟨u,u',g1,g2,g3⟩:=TC (AO rfl k hk);have hM:=(Ax rfl).1;have sz:(w.setCell ⟨B.blk,k,none⟩ v').heap.size=w.heap.size:=by simp[World.setCell]
  refine⟨by rw[hn]; exact h.cap,fun b' B' B7=>by rw[hn,sz]; exact h.Dk b' B' B7,fun b' B' o B7 hg=> ?_,fun b₁ b₂ B₁ B₂ e1 e2 BK Bn=> ?_,by rw[El]; exact h.EK,fun b₁ B₁ o wC hg kH na=> ?_⟩
  ·by_cases e:b'=b
   ·subst e;rw[hB]at B7; cases B7;rw[h1]at hg; cases hg;refine .cells ((E9 _ _ _ _).trans hs) he hf hle (fun _=>⟨hM,fun _ off=>by rw[Dy]; exact(Ax rfl).2 rfl off⟩) (fun e=>Bool.noConfusion e) (fun _ j hj=> .inr ?_);rw[EB g2,T.AW _ _ _ _ hd];by_cases e:j=k
    ·subst e;exact⟨v,v',by rw[AD rfl],by rw[AD ⟨rfl,rfl⟩],hv⟩
    ·obtain⟨x,x',y1,y2,y3⟩:=TC (AO rfl j hj);exact⟨x,x',by rw[AA e]; exact y1,by rw[AA fun z=>e z.2]; exact y2,y3⟩
   ·rw[h2 b' e]at hg;have BK:B'.blk≠B.blk:=fun eb=>by
     rcases h.inj b' b B' B B7 hB e eb with⟨o1,o2,p1,p2,p3,p4⟩|⟨_,q⟩
     ·rw[ho]at p2; cases p2;rw[p4]at p3;exact p3 rfl
     ·cases q _ ho
    have vM:=h.rel _ _ _ B7 hg;cases vM with
    |cells hs he hf hle kC RY EP =>
     refine .cells ((E9 _ _ _ _).trans hs) he hf hle (fun e=>⟨(kC e).1,fun ei off=>by rw[Dy]; exact(kC e).2 ei off⟩) RY (fun e j hj=> ?_);rcases EP e j hj with hn|⟨x,x',y1,y2,y3⟩
     ·exact .inl hn
     exact .inr ⟨x,x',y1,by rw[EB g2,AA fun z=>BK z.1]; exact y2,y3⟩
    |obj hw Ym wJ=>exact .obj ((JK BK).trans hw) Ym wJ
  ·rcases h.inj b₁ b₂ B₁ B₂ e1 e2 BK Bn with⟨o1,o2,p1,p2,p3,p4⟩|⟨q1,q2⟩
   ·have nb: ∀{x:Nat} {o:AI},H.t.get x=some o→o.fam≠0→x≠b:=fun hx hf e=>by
     rw[e,ho]at hx; cases hx; exact hf rfl
    exact .inl ⟨o1,o2,by rw[h2 _ (nb p1 p3)]; exact p1,by rw[h2 _ (nb p2 (by rw[← p4]; exact p3))]; exact p2,p3,p4⟩
   ·have st: ∀{x:Nat},H.still x→H'.still x:=fun {x} hs z hz=>by
     by_cases e:x=b
     ·subst e; cases hs _ ho
     ·rw[h2 _ e]at hz; exact hs z hz
    exact .inr ⟨st q1,st q2⟩
  ·rw[Fx];by_cases e:b₁=b
   ·rw[e,h1]at hg; cases hg;exact absurd rfl kH
   ·rw[h2 b₁ e]at hg;exact h.mem b₁ B₁ o wC hg kH na
theorem HR.congr(h:HR ρ H c w)(hn:H'.next=H.next)(El:H'.ng=H.ng)(Fx:H'.BF=H.BF)(hg: ∀b,H'.t.get b=H.t.get b):HR ρ H' c w :=
 ⟨by rw[hn]; exact h.cap,fun b B hb=>by rw[hn]; exact h.Dk b B hb,fun b B o hb ho=>h.rel b B o hb (by rw[← hg]; exact ho),fun b b' B B' e1 e2 BK hb=>by
  rcases h.inj b b' B B' e1 e2 BK hb with⟨o,o',p1,p2,p3⟩|⟨q1,q2⟩
  ·exact .inl ⟨o,o',by rw[hg]; exact p1,by rw[hg]; exact p2,p3⟩
  ·exact .inr ⟨fun z hz=>q1 z (by rw[← hg]; exact hz),fun z hz=>q2 z (by rw[← hg]; exact hz)⟩,by rw[El]; exact h.EK,fun b B o hb ho=>by rw[Fx]; exact h.mem b B o hb (by rw[← hg]; exact ho)⟩
structure ES(b:Nat)(w w':World):Prop where
 tape:w'.tape=w.tape
 os:w'.os=w.os
 output:w'.output=w.output
 size:w'.heap.size=w.heap.size
 shape: ∀x,w'.shape? x=w.shape? x
 keep: ∀x,x≠b→w'.heap[x]? =w.heap[x]?
theorem ES.refl(b:Nat)(w:World):ES b w w:=⟨rfl,rfl,rfl,rfl,fun _=>rfl,fun _ _=>rfl⟩
theorem ES.trans{b:Nat}{w w' ji:World}(h:ES b w w')(h':ES b w' ji):ES b w ji :=
 ⟨h'.tape.trans h.tape,h'.os.trans h.os,h'.output.trans h.output,h'.size.trans h.size,fun x=>(h'.shape x).trans (h.shape x),fun x hx=>(h'.keep x hx).trans (h.keep x hx)⟩
theorem ES.setCell(b k:Nat)(w:World)(v:Value):ES b w (w.setCell ⟨b,k,none⟩ v):=⟨rfl,rfl,rfl,by simp[World.setCell],fun x=>E9 _ _ _ _,fun x hx=>JK hx⟩
def Nd(b:Nat)(l:List Event):Prop:= ∀e∈l,∃k,e=⟨.cell ⟨b,k,none⟩,true,false⟩
theorem Qf{P:Program}{v:Value}(h:Em v=true)(m:Mode)(a:Addr)(k:Sem Unit){w:World}{u:Value}(hu:w.cell? a=some u)(hf:w.frozen? a=false)(es:Array Event):(Sem.store m a v k).runT P w es=k.runT P (w.setCell a v) (es.push ⟨.cell a,true,m== .atomic⟩):=by
 cases v with
 |agg xs=>cases h
 |tuple xs=>cases h
 |_=>simp only[Sem.runT,hu,hf,Bq,BS]
theorem O2{v v':Value}(h:VR ρ v v')(hf:Em v=true):Em v'=true:=by
 cases h with
 |agg h=>cases hf
 |tuple h=>cases hf
 |_=>rfl
theorem Fl{P:Program}{b:Nat}{B:RB}(hB:ρ b=some B){size:Nat}{elem:TypeId}{es:Nat}: ∀{l l':List Value},CE ρ l l'→∀(t:T Value) (off i:Nat) (H:PH) (w:World) (oc:Array Event),HR ρ H c w→
  H.t.get b=some (.cells t size elem es true 0 true false)→l.all Em=true→off+i+l.length≤size→size≤2^T.deep→
  ∃w' ev,(storeCells ⟨B.blk,off,none⟩ l' i).runT P w oc=(.ok () w',oc++ev.toArray)∧Nd B.blk ev∧HR ρ {H with t:=H.t.set b (.cells (setFrom l t (off+i)) size elem es true 0 true false)} c w'∧ES B.blk w w'
 |_,_,.nil,t,off,i,H,w,oc,h,ho,_,_,_=>by
  have hb:b<2^T.deep:=AV (h.Dk b B hB).1 h.cap;refine⟨w,[], ?_,(fun e he=>by cases he),h.congr rfl rfl rfl fun x=> ?_,.refl _ _⟩
  ·simp only[storeCells];show(Result.ok () w,_)=_;simp
  show(H.t.set b (.cells t size elem es true 0 true false)).get x=_;rw[T.AW _ _ _ _ hb];by_cases e:x=b
  ·subst e; rw[AD rfl,ho]
  ·rw[AA e]
 |_,_,.cons (v:=v) (v':=v') (l:=l) (l':=l') hv hl,t,off,i,H,w,oc,h,ho,hf,hle,Bp=>by
  have hb:b<2^T.deep:=AV (h.Dk b B hB).1 h.cap;simp only[List.all_cons,AF]at hf;simp only[Dv]at hle;have hr:=h.rel _ _ _ hB ho;cases hr with
  |cells hs he Fx QV Ax hR AO =>
   obtain⟨u,u',g1,g2,g3⟩:=TC (AO rfl (off+i) (by omega));have kI:=(Ax rfl).2 rfl (off+i);have h1:HR ρ {H with t:=H.t.set b (.cells (t.set (off+i) v) size elem es true 0 true false)} c (w.setCell ⟨B.blk,off+i,none⟩ v') :=
    h.setCell hB ho (by omega) (by omega) hv rfl rfl rfl (by show(H.t.set b _).get b=_; rw[T.AW _ _ _ _ hb,AD rfl]) (fun b' B7=>by show(H.t.set b _).get b'=_; rw[T.AW _ _ _ _ hb,AA B7])
   obtain⟨w',ev,r1,r2,r3,r4⟩:=Fl hB (P:=P) hl (t.set (off+i) v) off (i+1) _ _ (oc.push ⟨.cell ⟨B.blk,off+i,none⟩,true,false⟩) h1 (by show(H.t.set b _).get b=_; rw[T.AW _ _ _ _ hb,AD rfl]) hf.2 (by omega) Bp;refine⟨w',⟨.cell ⟨B.blk,off+i,none⟩,true,false⟩::ev, ?_, ?_, ?_,(ES.setCell _ _ _ _).trans r4⟩
   ·show(Sem.store .plain ((⟨B.blk,off,none⟩:Addr).add i) v' ((Sem.pure ()).bind fun _=>storeCells ⟨B.blk,off,none⟩ l' (i+1))).runT P w oc=_;rw[Mo,Qf (O2 hv hf.1) .plain _ _ g2 kI];show(storeCells ⟨B.blk,off,none⟩ l' (i+1)).runT P (w.setCell ⟨B.blk,off+i,none⟩ v') (oc.push ⟨.cell ⟨B.blk,off+i,none⟩,true,false⟩)=_;rw[r1,KL]
   ·intro e he;rcases AZ.1 he with rfl|he
    ·exact⟨_,rfl⟩
    ·exact r2 e he
   ·refine r3.congr rfl rfl rfl fun x=> ?_;show(H.t.set b (.cells (setFrom (v::l) t (off+i)) size elem es true 0 true false)).get x=((H.t.set b (.cells (t.set (off+i) v) size elem es true 0 true false)).set b (.cells (setFrom l (t.set (off+i) v) (off+(i+1))) size elem es true 0 true false)).get x;rw[T.AW _ _ _ _ hb,T.AW _ _ _ _ hb,T.AW _ _ _ _ hb,ME,Bf];by_cases e:x=b
    ·rw[AD e,AD e]
    ·rw[AA e,AA e,AA e]
end
theorem Gq: ∀(l:List Value) (t:T Value) (off k:Nat),off+l.length≤2^T.deep→(setFrom l t off).get k=if off≤k∧k<off+l.length then l[k-off]? else t.get k
 | [],t,off,k,_=>by
  rw[AA (by simp)]; rfl
 |v::l,t,off,k,h=>by
  simp only[Dv]at h;rw[ME,Gq l _ _ _ (by omega),T.AW _ _ _ _ (by omega)];simp only[Dv];by_cases e:k=off
  ·subst e;rw[AA (by omega),AD rfl,AD (by omega)];simp
  ·by_cases e':off+1≤k∧k<off+1+l.length
   ·rw[AD e',AD (by omega)];have:k-off=(k-(off+1))+1:=by omega
    rw[this]; rfl
   ·rw[AA e',AA e,AA (by omega)]
section
variable{ρ:Ah}{H:PH}{c:Ctx}{w:World}
def Ah.put(ρ:Ah)(b:Nat)(B:RB):Ah:=fun x=>if x=b then some B else ρ x
theorem Ah.Ed{ρ:Ah}{b:Nat}{B:RB}(h:ρ b=none):ρ.le (ρ.put b B):=fun x X hx=>by
 unfold Ah.put;rw[AA fun e=>by rw[e,h]at hx; cases hx];exact hx
def Ctx.own(c:Ctx)(b:Nat):Ctx:={c with M:=fun x=>c.M x∨x=b}
def World.grow(w:World)(o:Obj):World:={w with heap:=w.heap.push o}
theorem FZ(w:World)(o:Obj){b:Nat}(h:b<w.heap.size):(World.grow w o).heap[b]? =w.heap[b]? :=by
 simp only[World.grow];rw[Array.getElem?_push_lt h,CR h]
theorem C7(w:World)(o:Obj):(World.grow w o).heap[w.heap.size]? =some o:=by
 show(w.heap.push o)[w.heap.size]? =some o;exact Array.getElem?_push_size
theorem Ai{w:World}{b:Nat}{x:TypeId×Nat}(h:w.shape? b=some x):b<w.heap.size:=by
 unfold World.shape? at h;cases e:w.heap[b]? with
 |none=>rw[e]at h; cases h
 |some o=>exact(A6.1 e).1
theorem BR.grow{B:RB}{o:AI}{x:Obj}{n:Nat}(h:BR ρ c w B o):BR ρ (Ctx.own c n) (World.grow w x) B o:=by
 cases h with
 |cells hs he hf hle Ax hR AO =>
  have Ac:=Ai hs;have hh:=FZ w x Ac;refine .cells (by simp only[World.shape?,hh]; exact hs) he hf hle (fun e=>⟨.inl (Ax e).1,fun ei off=>by
   have:=(Ax e).2 ei off;simp only[World.frozen?,hh]at this ⊢; exact this⟩) hR (fun e k hk=> ?_)
  rcases AO e k hk with hn|⟨v,v',h1,h2,h3⟩
  ·exact .inl hn
  exact .inr ⟨v,v',h1,by simp only[World.cell?,hh]at h2 ⊢; exact h2,h3⟩
 |obj hw ho hM=>exact .obj (by rw[FZ w x (A6.1 hw).1]; exact hw) ho (.inl hM)
theorem HR.free(h:HR ρ H c w):ρ H.next=none:=by
 cases e:ρ H.next with
 |none=>rfl
 |some B=>exact absurd (h.Dk _ _ e).1 (Nat.lt_irrefl _)
theorem HR.newAt(h:HR ρ H c w){b:Nat}(hb:ρ b=Option.none){H':PH}(A2:H'.next≤2^T.deep)(kE:H.next≤H'.next)(Ac:b<H'.next)(El:H'.ng=H.ng){o:AI}{x:Obj}{B:RB}(Fx:(∀f,H'.BF.get f=H.BF.get f∨f=o.fam∧H.BF.get f=Option.none))(hfo:o.fam≠0→o.FG=true→∃l,H'.BF.get o.fam=some l∧b∈l)(hB:B.blk=w.heap.size)
  (h1:H'.t.get b=some o) (h2: ∀b',b'≠b→H'.t.get b'=H.t.get b') (Mx:BR (ρ.put b B) (Ctx.own c w.heap.size) (World.grow w x) B o) :
  HR (ρ.put b B) H' (Ctx.own c w.heap.size) (World.grow w x):=by
 have hs:(World.grow w x).heap.size=w.heap.size+1:=by simp[World.grow]
 refine⟨A2,fun y B' hy=> ?_,fun y B' o' hy ho=> ?_,fun y y' B₁ B₂ e1 e2 BK Bn=> ?_,fun g hg=> ?_,fun y B' o' hy ho D8 EP=> ?_⟩
 ·unfold Ah.put at hy;rw[hs];by_cases e:y=b
  ·rw[AD e]at hy; cases hy;exact⟨by omega,by omega⟩
  ·rw[AA e]at hy;have:=h.Dk y B' hy;exact⟨by omega,by omega⟩
 ·unfold Ah.put at hy;by_cases e:y=b
  ·rw[AD e]at hy; cases hy;rw[e,h1]at ho; cases ho;exact Mx
  ·rw[AA e]at hy;rw[h2 y e]at ho;exact((h.rel y B' o' hy ho).grow).mono (Ah.Ed hb)
 ·unfold Ah.put at e1 e2;by_cases e:y=b
  ·rw[AD e]at e1; cases e1;rw[AA (by omega)]at e2;have:=(h.Dk _ _ e2).2;omega
  ·rw[AA e]at e1;by_cases e':y'=b
   ·rw[AD e']at e2; cases e2;have:=(h.Dk _ _ e1).2;omega
   ·rw[AA e']at e2;rcases h.inj y y' B₁ B₂ e1 e2 BK Bn with⟨o1,o2,p1,p2,p3,p4⟩|⟨q1,q2⟩
    ·exact .inl ⟨o1,o2,by rw[h2 _ e]; exact p1,by rw[h2 _ e']; exact p2,p3,p4⟩
    ·exact .inr ⟨fun z hz=>q1 z (by rw[h2 _ e]at hz; exact hz),fun z hz=>q2 z (by rw[h2 _ e']at hz; exact hz)⟩
 ·rw[El]at hg;obtain⟨B',h1,h2⟩:=h.EK g hg;exact⟨B',Ah.Ed hb _ _ h1,h2⟩
 ·unfold Ah.put at hy;by_cases e:y=b
  ·rw[e,h1]at ho; cases ho;rw[e];exact hfo D8 EP
  ·rw[AA e]at hy;rw[h2 y e]at ho;obtain⟨l,a1,a2⟩:=h.mem y B' o' hy ho D8 EP;rcases Fx o'.fam with q|⟨_,q⟩
   ·exact⟨l,q.trans a1,a2⟩
   ·rw[q]at a1; cases a1
theorem HR.new(h:HR ρ H c w)(A2:H.next+1≤2^T.deep){o:AI}{x:Obj}{B:RB}(WO:o.fam=0)(hB:B.blk=w.heap.size)(Mx:BR (ρ.put H.next B) (Ctx.own c w.heap.size) (World.grow w x) B o) :
  HR (ρ.put H.next B) {H with next:=H.next+1,t:=H.t.set H.next o} (Ctx.own c w.heap.size) (World.grow w x):=by
 have hn:H.next<2^T.deep:=by omega
 have hg: ∀b,(H.t.set H.next o).get b=if b=H.next then some o else H.t.get b:=fun b=>T.AW _ _ _ _ hn
 exact h.newAt (H':={H with next:=H.next+1,t:=H.t.set H.next o}) h.free A2 (Nat.le_succ _) (Nat.lt_succ_self _) rfl (fun _=> .inl rfl) (fun e=>absurd WO e) hB (by show(H.t.set H.next o).get _=_; rw[hg,AD rfl]) (fun b' hb=>by show(H.t.set H.next o).get _=_; rw[hg,AA hb]) Mx
theorem HR.P5(h:HR ρ H c w){l l':List Value}(hl:CE ρ l l')(A2:H.next+1≤2^T.deep)(hlen:l.length≤2^T.deep)(elem:TypeId)(es:Nat) :
  HR (ρ.put H.next ⟨w.heap.size,l.length,es⟩) {H with next:=H.next+1,t:=H.t.set H.next (.cells (setFrom l .nil 0) l.length elem es true 0 true false)} (Ctx.own c w.heap.size) (World.grow w (.cells l'.toArray elem)):=by
 have hle:=Ah.Ed (B:=⟨w.heap.size,l.length,es⟩) h.free;have hh:=C7 w (.cells l'.toArray elem);refine h.new A2 rfl rfl (.cells ?_ rfl (fun _=>rfl) (AN _) (fun _=>⟨.inr rfl,fun _ off=> ?_⟩) (fun e=>by cases e) (fun _ k hk=> ?_))
 ·simp only[World.shape?,hh];simp[hl.length]
 ·simp only[World.frozen?,hh];simp
 ·have CP:l[k]? =some l[k]:=EE hk;obtain⟨v',h1,h2⟩:=hl.get k _ CP;refine .inr ⟨l[k],v', ?_, ?_,h2.mono hle⟩
  ·rw[Gq l _ _ _ (by omega),AD (by omega)];simp
  ·simp only[World.cell?,hh];simpa using h1
end
end Go.Gd
namespace Go.Gd
open Go Go.Gw Go.Conc
section
variable{P:Program}{ty:TypeId}{Post:Value→World→Prop}{main:Bool}{n:Nat}{c:Ctx}{g g':Goroutine}{w:World}
theorem W.GA(hs:g.status= .running)(hb:main=true∨c.send≠none)
  (h: ∀w₁,AS c w w₁→∃(g':Goroutine) (w':World) (es:Array Event) (M':Nat→Prop) (R':Addr→Prop),stepG P main g w₁= .go g' w' es∧g'.status= .running∧Ca c M' R' w₁ w'∧BQ c w₁ w' es∧
   W P ty Post main n {c with M:=M',R:=R',d:=deafBehind c.d es} g' w'):W P ty Post main (n+1) c g w:=by
 have h': ∀w₁,∃N:Nx,AS c w w₁→stepG P main g w₁= .go N.g N.w N.es∧N.g.status= .running∧Ca c N.M N.R w₁ N.w∧BQ c w₁ N.w N.es∧W P ty Post main n {c with M:=N.M,R:=N.R,d:=deafBehind c.d N.es} N.g N.w:=by
  intro w₁;by_cases r:AS c w w₁
  ·obtain⟨g',w',es,M',R',h1,h2,h3,h4,h5⟩:=h w₁ r;exact⟨{g:=g',w:=w',es:=es,M:=M',R:=R'},fun _=>⟨h1,h2,h3,h4,h5⟩⟩
  ·exact⟨{g:=g,w:=w₁,es:= #[]},fun r'=>absurd r' r⟩
 obtain⟨N,hN⟩:=Classical.axiomOfChoice h';exact .MN N hs (hb.imp id .inl) (fun w₁ r=>⟨(hN w₁ r).1,(hN w₁ r).2.1,(hN w₁ r).2.2.1,(hN w₁ r).2.2.2.1⟩) fun w₁ r=>(hN w₁ r).2.2.2.2
theorem Ca.refl(hc:CK c w):Ca c c.M c.R w w :=
 ⟨rfl,.refl _,.refl _,AN _,fun _ _=>rfl,fun _ _ _=>rfl,fun b hb=>⟨hc.ml b hb,.inl hb⟩,fun _ h=>h,fun _ h=> .inl h⟩
theorem CK.rely{w':World}(h:CK c w)(r:AS c w w'):CK c w' :=
 ⟨fun b hb=>AV (h.ml b hb) r.size,fun a ha=>AV (h.rl a ha) r.size,h.rm⟩
theorem W.wh(hs:g.status= .running)(R5:g'.status= .running)(hb:main=true∨c.send≠none)(hc:CK c w)(h: ∀w₁,stepG P main g w₁= .go g' w₁ #[])(hk:W P ty Post main n c g' w):W P ty Post main (n+1) c g w :=
 W.GA hs hb fun w₁ r=>⟨g',w₁,#[],c.M,c.R,h w₁,R5,Ca.refl (hc.rely r),⟨fun e he=>by simp at he,fun e he=>by simp at he⟩,by
  have:=hk.rely r;exact this⟩
theorem EH(P:Program)(fn:FuncId)(es:Array Event): ∀e∈seen P fn es,e∈es:=by
 have key: ∀(quiet:FuncId→Bool) (l:List Event) (q:Bool) (kept:Array Event),∀e∈(l.foldl (seenStep quiet) (q,kept)).2,e∈kept∨e∈l:=by
  intro quiet l;induction l with
  |nil=>intro q kept e he; exact .inl he
  |cons x l ih =>
   intro q kept e he;rw[List.foldl_cons]at he;rcases ih _ _ e he with h|h
   ·split at h
    ·exact .inl h
    ·have h:e∈(if(q&& !x.sync)=true then kept else kept.push x):=h;by_cases hq:(q&& !x.sync)=true
     ·rw[AD hq]at h; exact .inl h
     ·rw[AA hq]at h;rcases Array.mem_push.1 h with h|h
      ·exact .inl h
      ·exact .inr (by rw[h]; simp)
   ·exact .inr (by simp[h])
 intro e he;rw[seen_def]at he;rcases key _ _ _ _ e he with h|h
 ·simp at h
 ·simpa using h
end
inductive Ab where
 |code (c:Code)
 |inBlock (id:Nat)
 |inLoop (body:Code)
 |inScope (body:Code)
 |ops (all:Array Oper) (i:Nat) (l:List Oper)
 |rf (loop:Nat)
 |fR (loop:Nat)
 |br
 |CH (all:Array Oper) (fs es:List Nat)
 |dcall (all:Array Oper) (fs:List Nat) (e:Nat) (es:List Nat)
structure PF where
 fn:FuncId
 tmps:T Value
 nt:Nat
 todo:List Ab
 defers:List Deferred
 mode:FrameMode
 kind:CallKind
 round:Option Nat
@[reducible] noncomputable def PF.up (pf:PF) (tm:T Value) (k:List Ab):PF:=PF.casesOn pf fun fn _ nt _ ds m kd r=>⟨fn,tm,nt,k,ds,m,kd,r⟩
@[reducible] noncomputable def PF.go (pf:PF) (k:List Ab):PF:=PF.casesOn pf fun fn tm nt _ ds m kd r=>⟨fn,tm,nt,k,ds,m,kd,r⟩
@[reducible] noncomputable def PF.x7 (pf:PF) (tm:T Value) (k:List Ab) (d:Deferred):PF:=PF.casesOn pf fun fn _ nt _ ds m kd r=>⟨fn,tm,nt,k,d::ds,m,kd,r⟩
@[reducible] noncomputable def PF.pH (pf:PF) (m:FrameMode):PF:=PF.casesOn pf fun fn tm nt k ds _ kd r=>⟨fn,tm,nt,k,ds,m,kd,r⟩
@[reducible] noncomputable def PF.OO (pf:PF) (ds:List Deferred):PF:=PF.casesOn pf fun fn tm nt k _ m kd r=>⟨fn,tm,nt,k,ds,m,kd,r⟩
def Qs(b:Array Nat)(i j:Nat):Bool:=(b.getD i 0).testBit j
inductive Mq(b:Array Nat):List Nat→Prop where
 |nil:Mq b []
 |cons {i:Nat} {l:List Nat} (h: ∀j∈l,Qs b i j=false) (hn:i∉l) (t:Mq b l):Mq b (i::l)
def CY(all:Array Oper)(i:Nat):Option Tmp:=(all[i]?).bind (·.dst)
def Ei:Op→Bool
 | .alloc _| .box .. | .buildSlice .. | .makeMap .. | .makeSlice .. =>true
 |_=>false
def Jv:Option Value→List Nat
 |some (.pointer (some a))=> [a.block]
 |some (.slice (some a) _ _)=> [a.block]
 |some (.map (some r))=> [r]
 |_=> []
def Ao(tm:T Value)(all:Array Oper)(fs:List Nat)(L:List Nat):List Nat :=
 L.flatMap fun i=>if i∈fs∧(all[i]?).any (fun o=>Ei o.op)=true then Jv ((CY all i).bind tm.get)else[]
section
variable(ρ:Ah)
inductive Ic:Ab→Item→Prop where
 |code (c:Code):Ic (.code c) (.code c)
 |inBlock (id:Nat):Ic (.inBlock id) (.inBlock id)
 |inLoop (c:Code):Ic (.inLoop c) (.inLoop c)
 |inScope (c:Code):Ic (.inScope c) (.inScope c)
 |ops (all:Array Oper) (i:Nat) (h:i≤all.size):Ic (.ops all i (all.toList.drop i)) (.inRegion all (List.range' i (all.size-i)))
 |rf {l:Nat} {B:RB} (h:ρ l=some B):Ic (.rf l) (.inRangeFunc B.blk)
 |fR {l:Nat} {B:RB} (h:ρ l=some B):Ic (.fR l) (.endRangeFunc B.blk)
 |br:Ic .br .beginRound
inductive lB:Target→Target→Prop where
 |fn {f f':Fn} {xs xs':Array Value} (h:FR ρ f f') (hx:CE ρ xs.toList xs'.toList):lB (.fn f xs) (.fn f' xs')
 |nil:lB .nil .nil
 |builtin (b:Builtin) (ts:Array TypeId) (t:TypeId) (cs:Array Bool):lB (.builtin b ts t cs) (.builtin b ts t cs)
 |collected {r:Nat} {B:RB} (h:ρ r=some B):lB (.collected r) (.collected B.blk)
inductive SN:Deferred→Deferred→Prop where
 |mk {t t':Target} {xs xs':Array Value} (h:lB ρ t t') (hx:CE ρ xs.toList xs'.toList):SN ⟨t,xs⟩ ⟨t',xs'⟩
inductive LR{α β:Type}(R:α→β→Prop):List α→List β→Prop where
 |nil:LR R [] []
 |cons {a:α} {b:β} {l:List α} {m:List β} (h:R a b) (t:LR R l m):LR R (a::l) (b::m)
inductive xx:PanicEntry→PanicEntry→Prop where
 |mk {v v':Value} (r g:Bool) (h:VR ρ v v'):xx ⟨v,r,g⟩ ⟨v',r,g⟩
inductive UY:FrameMode→FrameMode→Prop where
 |run:UY .run .run
 |returning:UY .returning .returning
 |panicking {l l':List PanicEntry} (h:LR (xx ρ) l l'):UY (.panicking l) (.panicking l')
inductive bK:Option Nat→Option Nat→Prop where
 |none:bK none none
 |some {l:Nat} {B:RB} (h:ρ l=some B):bK (some l) (some B.blk)
inductive gZ(tm:T Value):List Ab→List Item→(Tmp→Prop)→List Nat→Prop where
 |plain {k:List Ab} {m:List Item} (h:LR (Ic ρ) k m):gZ tm k m (fun _=>False) []
 |CH {all:Array Oper} {fs es:List Nat} {k:List Ab} {m:List Item} {L:List Nat} (h:LR (Ic ρ) k m) (hf:Mq (Region.before all) L) (h1: ∀i∈es,i∈L) (h2: ∀i∈L,i∈fs∨i∈es) (h3: ∀i∈L,i<all.size) :
   gZ tm (.CH all fs es::k) (.inRegion all L::m) (fun t=> ∃i∈L,i∈fs∧CY all i=some t) (Ao tm all fs L)
 |dcall {all:Array Oper} {fs es:List Nat} {e:Nat} {k:List Ab} {m:List Item} {L:List Nat} (h:LR (Ic ρ) k m) (hf:Mq (Region.before all) (e::L)) (h1: ∀i∈es,i∈L) (h2: ∀i∈L,i∈fs∨i∈es) (h3: ∀i∈e::L,i<all.size) :
   gZ tm (.dcall all fs e es::k) (.inRegion all (e::L)::m) (fun t=> ∃i∈L,i∈fs∧CY all i=some t) (Ao tm all fs L)
structure Br(pf:PF)(fr:Frame)(pd:List Nat):Prop where
 fn:fr.fn=pf.fn
 size:fr.tmps.size=pf.nt
 todo: ∃X,gZ ρ pf.tmps pf.todo fr.todo X pd∧∀k v,pf.tmps.get k=some v→¬X k→∃v',fr.tmps[k]? =some v'∧VR ρ v v'
 defers:LR (SN ρ) pf.defers fr.defers
 mode:UY ρ pf.mode fr.mode
 kind:fr.kind=pf.kind
 round:bK ρ pf.round fr.roundOf
inductive Q8:List PF→List Frame→List Nat→Prop where
 |nil:Q8 [] [] []
 |cons {pf:PF} {fr:Frame} {l:List PF} {m:List Frame} {pd pds:List Nat} (h:Br ρ pf fr pd) (t:Q8 l m pds):Q8 (pf::l) (fr::m) (pd++pds)
end
structure DS where
 fr:PF
 cs:List PF
 H:PH
 d:Nat
structure Env where
 send:Option (Nat×Gw.Spec)
 dec:Option (Nat×IE)
 AP:Option CZ
 AL:Option Jb
 base:List Frame
 kM:Nat→Prop
 kR:Addr→Prop
 w0:World
 kr:Ah
 aM:Nat→Prop:=fun _=>False
 aW:World:=default
def Env.aS(E:Env):Nat:=E.aW.heap.size
def Env.sz(E:Env):Nat:=Nat.max E.w0.heap.size E.aS
def C2:TypeId:=144
def DL:Nat:=7
def BN:Nat:=4
def jX(main:Bool)(E:Env):Prop:=E.AP=none∧∀x,E.AL=some x→main=false∧∃sz,E.w0.shape? x.C.lb=some (C2,sz)
structure Al(E:Env)(ρ:Ah)(c:Ctx)(w:World):Prop where
 al: ∀x B,ρ x=some B→(∃y B',E.kr y=some B'∧B'.blk=B.blk∧(y=x∨E.aM B.blk))∨E.aS≤B.blk
 am: ∀b,c.M b→E.aM b∨E.aS≤b
 AAe:E.aS≤w.heap.size
 sh: ∀b,b<E.aS→w.shape? b=E.aW.shape? b
theorem Al.up{E E':Env}{ρ:Ah}{c c':Ctx}{w w':World}(h:Al E ρ c w)(hw:w.heap.size≤w'.heap.size)(hM: ∀b,c'.M b→c.M b)(hs: ∀b,b<w.heap.size→w'.shape? b=w.shape? b:=by intros; rfl)(e1:E'.kr=E.kr:=by rfl)(e2:E'.aM=E.aM:=by rfl)(e3:E'.aW=E.aW:=by rfl):Al E' ρ c' w':=by
 have e4:E'.aS=E.aS:=by unfold Env.aS; rw[e3]
 exact⟨fun x B hx=>by rw[e1,e2,e4]; exact h.al x B hx,fun b hb=>by rw[e2,e4]; exact h.am b (hM b hb),by rw[e4]; exact A1 h.AAe hw,fun b hb=>by rw[e4]at hb; rw[e3]; exact(hs b (AV hb h.AAe)).trans (h.sh b hb)⟩
theorem Al.step{E E':Env}{ρ ρ':Ah}{c c':Ctx}{w w':World}(h:Al E ρ c w)(hw:w.heap.size≤w'.heap.size)(hM: ∀b,c'.M b→c.M b∨w.heap.size≤b)
  (f: ∀x B,ρ' x=some B→(∃y B',ρ y=some B'∧B'.blk=B.blk∧(y=x∨c.M B.blk))∨w.heap.size≤B.blk) (hs: ∀b,b<w.heap.size→w'.shape? b=w.shape? b) (e1:E'.kr=E.kr:=by rfl) (e2:E'.aM=E.aM:=by rfl) (e3:E'.aW=E.aW:=by rfl):Al E' ρ' c' w':=by
 have e4:E'.aS=E.aS:=by unfold Env.aS; rw[e3]
 refine⟨fun x B hx=> ?_,fun b hb=>by rw[e2,e4]; exact(hM b hb).elim (h.am b) fun e=> .inr (A1 h.AAe e),by rw[e4]; exact A1 h.AAe hw,fun b hb=>by rw[e4]at hb; rw[e3]; exact(hs b (AV hb h.AAe)).trans (h.sh b hb)⟩;rw[e1,e2,e4];rcases f x B hx with⟨y,B',hy,e,EW⟩|hl
 ·rcases h.al y B' hy with⟨z,B2,hz,e2,h2⟩|h2
  ·rw[e]at h2;rcases EW with rfl|hm
   ·exact .inl ⟨z,B2,hz,e2.trans e,h2⟩
   ·rcases h.am _ hm with hm|hm
    ·exact .inl ⟨z,B2,hz,e2.trans e,.inr hm⟩
    ·exact .inr hm
  ·exact .inr (e ▸h2)
 ·exact .inr (A1 h.AAe hl)
structure Kept(E:Env)(ρ:Ah)(c:Ctx)(w:World):Prop where
 m: ∀b,E.kM b→c.M b∧w.heap[b]? =E.w0.heap[b]? ∧∀x B,ρ x=some B→B.blk≠b
 r: ∀a,E.kR a→c.R a∧H8 a E.w0 w
 size:E.w0.heap.size≤w.heap.size
 shape: ∀b,b<E.w0.heap.size→w.shape? b=E.w0.shape? b
 tape:w.tape=E.w0.tape
 os:Z0 E.w0.os w.os
 output:w.output=E.w0.output
 Fq:E.kr.le ρ
 fresh: ∀x B,ρ x=some B→E.w0.heap.size≤B.blk∨∃y B',E.kr y=some B'∧B'.blk=B.blk
 AL:c.AL=E.AL
 al:Al E ρ c w
inductive DR(E:Env)(ρ:Ah)(s:DS)(c:Ctx):Goroutine→World→Prop where
 |mk {fr:Frame} {cs:List Frame} {w:World} {pd pds:List Nat} (hf:Br ρ s.fr fr pd) (hc:Q8 ρ s.cs cs pds) (hn:(pd++pds).Nodup) (hp: ∀b∈pd++pds,ρ b=none∧b<s.H.next) (hH:HR ρ s.H c w) (AO:CK c w) (hd:c.d=s.d)
   (h1:c.send=E.send) (h2:c.dec=E.dec) (h3:c.AP=E.AP) (hk:Kept E ρ c w):DR E ρ s c (G fr (cs++E.base)) w
section
variable{P:Program}{ty:TypeId}{Post:Value→World→Prop}{main:Bool}{n:Nat}{E:Env}{ρ:Ah}{s:DS}{c:Ctx}{g:Goroutine}{w:World}
theorem LR.mono{α β:Type}{R R':α→β→Prop}(hR: ∀a b,R a b→R' a b){l:List α}{m:List β}(h:LR R l m):LR R' l m:=by
 induction h with
 |nil=>exact .nil
 |cons h _ ih=>exact .cons (hR _ _ h) ih
theorem Ic.mono{ρ':Ah}(hρ:ρ.le ρ'){a:Ab}{b:Item}(h:Ic ρ a b):Ic ρ' a b:=by
 cases h with
 |code c=>exact .code c
 |inBlock id=>exact .inBlock id
 |inLoop c=>exact .inLoop c
 |inScope c=>exact .inScope c
 |ops all i h=>exact .ops all i h
 |rf h=>exact .rf (hρ _ _ h)
 |fR h=>exact .fR (hρ _ _ h)
 |br=>exact .br
theorem lB.mono{ρ':Ah}(hρ:ρ.le ρ'){a b:Target}(h:lB ρ a b):lB ρ' a b:=by
 cases h with
 |fn h hx=>exact .fn (h.mono hρ) (hx.mono hρ)
 |nil=>exact .nil
 |builtin b ts t cs=>exact .builtin b ts t cs
 |collected h=>exact .collected (hρ _ _ h)
theorem SN.mono{ρ':Ah}(hρ:ρ.le ρ'){a b:Deferred}(h:SN ρ a b):SN ρ' a b:=by
 cases h with
 |mk ht hx=>exact .mk (ht.mono hρ) (hx.mono hρ)
theorem UY.mono{ρ':Ah}(hρ:ρ.le ρ'){a b:FrameMode}(h:UY ρ a b):UY ρ' a b:=by
 cases h with
 |run=>exact .run
 |returning=>exact .returning
 |panicking hl=>exact .panicking (hl.mono fun _ _ hp=>by cases hp with|mk r g hv=>exact .mk r g (hv.mono hρ))
theorem bK.mono{ρ':Ah}(hρ:ρ.le ρ'){a b:Option Nat}(h:bK ρ a b):bK ρ' a b:=by
 cases h with
 |none=>exact .none
 |some hl=>exact .some (hρ _ _ hl)
theorem gZ.mono{ρ':Ah}(hρ:ρ.le ρ'){tm:T Value}{k:List Ab}{m:List Item}{X:Tmp→Prop}{pd:List Nat}(h:gZ ρ tm k m X pd):gZ ρ' tm k m X pd:=by
 cases h with
 |plain h=>exact .plain (h.mono fun _ _=>Ic.mono hρ)
 |CH h hf h1 h2 h3=>exact .CH (h.mono fun _ _=>Ic.mono hρ) hf h1 h2 h3
 |dcall h hf h1 h2 h3=>exact .dcall (h.mono fun _ _=>Ic.mono hρ) hf h1 h2 h3
theorem Br.mono{ρ':Ah}(hρ:ρ.le ρ'){pf:PF}{fr:Frame}{pd:List Nat}(h:Br ρ pf fr pd):Br ρ' pf fr pd :=
 ⟨h.fn,h.size,let⟨X,a,b⟩:=h.todo; ⟨X,a.mono hρ,fun k v hk hx=>let⟨v',p,q⟩:=b k v hk hx; ⟨v',p,q.mono hρ⟩⟩,h.defers.mono fun _ _=>SN.mono hρ,h.mode.mono hρ,h.kind,h.round.mono hρ⟩
theorem Q8.mono{ρ':Ah}(hρ:ρ.le ρ'){l:List PF}{m:List Frame}{pds:List Nat}(h:Q8 ρ l m pds):Q8 ρ' l m pds:=by
 induction h with
 |nil=>exact .nil
 |cons h _ ih=>exact .cons (h.mono hρ) ih
theorem Kept.rely{w':World}(h:Kept E ρ c w)(r:AS c w w'):Kept E ρ c w' :=
 ⟨fun b hb=>⟨(h.m b hb).1,(r.mine b (h.m b hb).1).trans (h.m b hb).2.1,(h.m b hb).2.2⟩,fun a ha=>⟨(h.r a ha).1,(h.r a ha).2.trans (r.ro a (h.r a ha).1)⟩,A1 h.size r.size,
  fun b hb=>(r.shape b (AV hb h.size)).trans (h.shape b hb),r.tape.trans h.tape,h.os.trans r.os,r.output.trans h.output,h.Fq,h.fresh,h.AL,h.al.up r.size (fun _ h=>h) r.shape⟩
theorem DR.rely{w':World}(h:DR E ρ s c g w)(r:AS c w w'):DR E ρ s c g w':=by
 cases h with
 |mk hf hc hn hp hH AO hd h1 h2 h3 hk=>exact .mk hf hc hn hp (hH.rely r) (AO.rely r) hd h1 h2 h3 (hk.rely r)
def DW(P:Program)(ty:TypeId)(Post:Value→World→Prop)(main:Bool)(E:Env)(n:Nat)(s:DS):Prop:= ∀ρ c g w,DR E ρ s c g w→W P ty Post main n c g w
theorem DW.more{k:Nat}(h:DW P ty Post main E n s):DW P ty Post main E (n+k) s:=by
 induction k with
 |zero=>exact h
 |succ k ih=>exact fun ρ c g w hd=> .more (ih ρ c g w hd)
def Reach(P:Program)(ty:TypeId)(Post:Value→World→Prop)(main:Bool)(_:Env)(s s':DS):Prop:= ∃k,∀E:Env,(main=true∨E.send≠none)→∀n,DW P ty Post main E n s'→DW P ty Post main E (n+k) s
theorem Reach.refl(s:DS):Reach P ty Post main E s s:=⟨0,fun _ _ _ h=>h⟩
theorem Reach.trans{s s' gL:DS}(h:Reach P ty Post main E s s')(h':Reach P ty Post main E s' gL):Reach P ty Post main E s gL:=by
 obtain⟨k,hk⟩:=h;obtain⟨j,hj⟩:=h';exact⟨j+k,fun E hb n hn=>by rw[← Bf]; exact hk E hb _ (hj E hb n hn)⟩
theorem Reach.ctl(_hb:main=true∨E.send≠none){BU:PF}
  (Aq: ∀ρ fr pd,Br ρ s.fr fr pd→∃IC,Br ρ BU IC pd∧∀cs w,stepG P main (G fr cs) w= .go (G IC cs) w #[]):Reach P ty Post main E s {s with fr:=BU}:=by
 refine⟨1,fun E hb n hk ρ c g w h=> ?_⟩;cases h with
 |mk hf hc hn hp hH AO hd h1 h2 h3 Bv =>
  obtain⟨IC,D8,hs⟩:=Aq ρ _ _ hf;exact W.wh rfl rfl (hb.imp id fun e=>by rw[h1]; exact e) AO (fun w₁=>hs _ w₁) (hk ρ c _ w (.mk D8 hc hn hp hH AO hd h1 h2 h3 Bv))
end
def MR(id:Nat):List Ab→Option (List Ab)
 | .inBlock xP::k=>if xP==id then some k else MR id k
 |_::k=>MR id k
 | []=>none
def VB(l:Nat):List Ab→Option (List Ab)
 | .inScope body::k =>
  match findLabel body l with
  |some rest=>some (.code rest:: .inScope body::k)
  |none=>VB l k
 |_::k=>VB l k
 | []=>none
def AQ(ng:Nat)(pf:PF):Operand→Option Value
 | .tmp t=>pf.tmps.get t
 | .const v=>cond (ground 4 v) (some v) none
 | .global g=>cond (Nat.blt g ng) (some (.pointer (some ⟨g,0,none⟩))) none
 | .func f=>some (.func (.func f) #[] #[])
def M9(ng:Nat)(pf:PF):Option PF :=
 match pf.mode with
 | .run=>match pf.todo with
  | .code .skip::k=>some (pf.go (k))
  | .code (.label _)::k=>some (pf.go (k))
  | .inBlock _::k=>some (pf.go (k))
  | .inScope _::k=>some (pf.go (k))
  | .code (.seq a b)::k=>some (pf.go (.code a:: .code b::k))
  | .code (.cond c x y)::k=>match AQ ng pf c with
   |some (.bool b)=>some (pf.go (.code (if b then x else y)::k))
   |_=>none
  | .code (.block id c)::k=>some (pf.go (.code c:: .inBlock id::k))
  | .code (.loop c)::k=>some (pf.go (.code c:: .inLoop c::k))
  | .inLoop c::k=>some (pf.go (.code c:: .inLoop c::k))
  | .code (.scope c)::k=>some (pf.go (.code c:: .inScope c::k))
  | .code (.exit id)::k=>match MR id k with
   |some k'=>some (pf.go (k'))
   |none=>none
  | .code (.goto l)::k=>match VB l k with
   |some k'=>some (pf.go (k'))
   |none=>none
  | .code (.region _ ops false)::k=>some (pf.go (.ops ops 0 ops.toList::k))
  | .ops _ _ []::k=>some (pf.go (k))
  | .code .ret::_=>match pf.round with
   |none=>some (pf.pH .returning)
   |_=>none
  | []=>match pf.round with
   |none=>some (pf.pH .returning)
   |_=>none
  |_=>none
 |_=>none
section
variable{P:Program}{main:Bool}{ρ:Ah}{pf BU:PF}{fr:Frame}
theorem LR.cons_inv{α β:Type}{R:α→β→Prop}{a:α}{l:List α}{m:List β}(h:LR R (a::l) m): ∃b m',m=b::m'∧R a b∧LR R l m':=by
 cases h with
 |cons h t=>exact⟨_,_,rfl,h,t⟩
theorem LR.Co{α β:Type}{R:α→β→Prop}{m:List β}(h:LR R ([]:List α) m):m= []:=by cases h; rfl
theorem Br.run{pd:List Nat}(h:Br ρ pf fr pd)(hm:pf.mode= .run):fr.mode= .run:=by
 have:=h.mode;rw[hm]at this;generalize fr.mode=b at this;cases this; rfl
theorem LR.exit{id:Nat}: ∀{k:List Ab} {m:List Item},LR (Ic ρ) k m→∀{k':List Ab},MR id k=some k'→∃m',exitTo id m=some m'∧LR (Ic ρ) k' m'
 |_,_,.nil,_,h=>by cases h
 |a::k,b::m,.cons fB ht,k',h=>by
  cases fB with
  |inBlock xP =>
   simp only[MR,exitTo]at h ⊢;by_cases e:(xP==id)=true
   ·rw[AD e]at h ⊢;cases h;exact⟨m,rfl,ht⟩
   ·rw[AA e]at h ⊢;exact LR.exit ht h
  |_=>exact LR.exit ht h
theorem LR.goto{l:Nat}: ∀{k:List Ab} {m:List Item},LR (Ic ρ) k m→∀{k':List Ab},VB l k=some k'→∃m',gotoIn l m=some m'∧LR (Ic ρ) k' m'
 |_,_,.nil,_,h=>by cases h
 |a::k,b::m,.cons fB ht,k',h=>by
  cases fB with
  |inScope body =>
   simp only[VB,gotoIn]at h ⊢;cases e:findLabel body l with
   |some rest =>
    rw[e]at h;simp only[AE]at h;subst h;exact⟨_,rfl,.cons (.code rest) (.cons (.inScope body) ht)⟩
   |none =>
    rw[e]at h;exact LR.goto ht h
  |_=>exact LR.goto ht h
theorem Br.with{pd:List Nat}(h:Br ρ pf fr pd)(hv: ∀k v,pf.tmps.get k=some v→∃v',fr.tmps[k]? =some v'∧VR ρ v v'){k:List Ab}{m:List Item}(hk:LR (Ic ρ) k m):Br ρ {pf with todo:=k} {fr with todo:=m} [] :=
 ⟨h.fn,h.size,⟨_,.plain hk,fun k v hk _=>hv k v hk⟩,h.defers,h.mode,h.kind,h.round⟩
theorem Br.plain{pd:List Nat}(h:Br ρ pf fr pd)(hn: ∀all fs es k,pf.todo≠ .CH all fs es::k)(hn': ∀all fs e es k,pf.todo≠ .dcall all fs e es::k) :
  pd= []∧LR (Ic ρ) pf.todo fr.todo∧∀k v,pf.tmps.get k=some v→∃v',fr.tmps[k]? =some v'∧VR ρ v v':=by
 obtain⟨X,ht,hv⟩:=h.todo;generalize hk:pf.todo=todo at ht;generalize hm:fr.todo=m at ht;cases ht with
 |plain hl=>exact⟨rfl,hl,fun k v hk=>hv k v hk id⟩
 |CH _=>exact absurd hk (hn _ _ _ _)
 |dcall _=>exact absurd hk (hn' _ _ _ _ _)
theorem aa{ng:Nat}(h: ∀k v,pf.tmps.get k=some v→∃v',fr.tmps[k]? =some v'∧VR ρ v v'){c:Operand}{b:Bool}(he:AQ ng pf c=some (.bool b)):fr.eval c= .bool b:=by
 cases c with
 |tmp t =>
  obtain⟨v',h1,h2⟩:=h t _ he;cases h2;show fr.tmps.getD t undef=_;rw[Bt,h1]; rfl
 |const v =>
  unfold AQ at he;cases e:ground 4 v with
  |false=>simp only[e]at he; cases he
  |true=>simp only[e]at he; exact As he
 |global g =>
  have he:cond (Nat.blt g ng) (some (Value.pointer (some ⟨g,0,none⟩))) none=some (.bool b):=he;cases e:Nat.blt g ng<;>rw[e]at he<;>cases he
 |func f=>cases he
theorem NX{ng:Nat}{pd:List Nat}(hp:M9 ng pf=some BU)(h:Br ρ pf fr pd): ∃IC,Br ρ BU IC pd∧∀cs w,stepG P main (G fr cs) w= .go (G IC cs) w #[]:=by
 have hm:pf.mode= .run:=by
  unfold M9 at hp;cases e:pf.mode<;>rw[e]at hp<;>first|rfl|cases hp
 have hr:=h.run hm;obtain⟨fn,tmps,nt,todo,defers,mode,kind,round⟩:=pf;simp only at hm;subst hm;have D7: ∀all fs es k,todo≠ .CH all fs es::k:=fun all fs es k e=>by subst e; cases hp
 have vU: ∀all fs e es k,todo≠ .dcall all fs e es::k:=fun all fs e' es k e=>by subst e; cases hp
 obtain⟨Dj,ht,hv⟩:=h.plain D7 vU;subst Dj;have ht:LR (Ic ρ) todo fr.todo:=ht;have to: ∀{k:List Ab} {m:List Item},LR (Ic ρ) k m→some (⟨fn,tmps,nt,k,defers,.run,kind,round⟩:PF)=some BU→(∀cs w,stepG P main (G fr cs) w= .go (G {fr with todo:=m} cs) w #[])→∃IC,Br ρ BU IC []∧∀cs w,stepG P main (G fr cs) w= .go (G IC cs) w #[]:=fun hk e hs=>by
  cases e;exact⟨_,h.with hv hk,hs⟩
 have ret:some (⟨fn,tmps,nt,todo,defers,.returning,kind,none⟩:PF)=some BU→round=none→(∀cs w,stepG P main (G fr cs) w= .go (G {fr with mode:= .returning} cs) w #[])→∃IC,Br ρ BU IC []∧∀cs w,stepG P main (G fr cs) w= .go (G IC cs) w #[]:=fun e er hs=>by
  subst er;cases e;exact⟨{fr with mode:= .returning},⟨h.fn,h.size,⟨_,.plain ht,fun k v hk _=>hv k v hk⟩,h.defers,.returning,h.kind,h.round⟩,hs⟩
 have rnd:round=none→fr.roundOf=none:=fun e=>by
  have:bK ρ round fr.roundOf:=h.round;rw[e]at this;generalize fr.roundOf=b at this;cases this; rfl
 cases todo with
 |nil =>
  have e:=ht.Co;cases round with
  |some l=>cases hp
  |none=>exact ret hp rfl fun cs w=>by simp[G,stepG,stepG.exec,hr,e,rnd rfl]
 |cons it k =>
  obtain⟨b,m,e,hi,E0⟩:=ht.cons_inv;cases hi with
  |inBlock id=>exact to E0 hp fun cs w=>by simp[G,stepG,stepG.exec,hr,e]
  |inScope c=>exact to E0 hp fun cs w=>by simp[G,stepG,stepG.exec,hr,e]
  |inLoop c=>exact to (.cons (.code c) (.cons (.inLoop c) E0)) hp fun cs w=>by simp[G,stepG,stepG.exec,hr,e]
  |rf h=>cases hp
  |fR h=>cases hp
  |br=>cases hp
  |ops all i hle =>
   cases hd:all.toList.drop i with
   |cons o l =>
    have He:M9 ng ⟨fn,tmps,nt,.ops all i (o::l)::k,defers,.run,kind,round⟩=some BU:=by rw[← hd]; exact hp
    cases He
   |nil =>
    have He:M9 ng ⟨fn,tmps,nt,.ops all i []::k,defers,.run,kind,round⟩=some BU:=by rw[← hd]; exact hp
    have rS:all.size-i=0:=by
     have:=congrArg List.length hd;simpa using this
    rw[rS]at e;exact to E0 He fun cs w=>by simp[G,stepG,stepG.exec,hr,e]
  |code c =>
   cases c with
   |skip=>exact to E0 hp fun cs w=>by simp[G,stepG,stepG.exec,hr,e]
   |label l=>exact to E0 hp fun cs w=>by simp[G,stepG,stepG.exec,hr,e]
   |seq a b=>exact to (.cons (.code a) (.cons (.code b) E0)) hp fun cs w=>by simp[G,stepG,stepG.exec,hr,e]
   |cond c x y =>
    simp only[M9]at hp;split at hp
    ·rename_i b ec;have he:=aa hv ec;exact to (.cons (.code (if b then x else y)) E0) hp fun cs w=>by simp[G,stepG,stepG.exec,hr,e,he]
    ·cases hp
   |block id c=>exact to (.cons (.code c) (.cons (.inBlock id) E0)) hp fun cs w=>by simp[G,stepG,stepG.exec,hr,e]
   |loop c=>exact to (.cons (.code c) (.cons (.inLoop c) E0)) hp fun cs w=>by simp[G,stepG,stepG.exec,hr,e]
   |scope c=>exact to (.cons (.code c) (.cons (.inScope c) E0)) hp fun cs w=>by simp[G,stepG,stepG.exec,hr,e]
   |exit id =>
    simp only[M9]at hp;split at hp
    ·rename_i k' ec;obtain⟨m',h1,h2⟩:=LR.exit E0 ec;exact to h2 hp fun cs w=>by simp[G,stepG,stepG.exec,hr,e,h1]
    ·cases hp
   |goto l =>
    simp only[M9]at hp;split at hp
    ·rename_i k' ec;obtain⟨m',h1,h2⟩:=LR.goto E0 ec;exact to h2 hp fun cs w=>by simp[G,stepG,stepG.exec,hr,e,h1]
    ·cases hp
   |region id ops draw =>
    cases draw with
    |true=>cases hp
    |false =>
     have Ky:=Ic.ops (ρ:=ρ) ops 0 (Nat.zero_le _);simp only[List.drop_zero,Nat.sub_zero]at Ky;refine to (.cons Ky E0) hp fun cs w=> ?_;simp[G,stepG,stepG.exec,hr,e,List.range_eq_range']
   |ret =>
    cases round with
    |some l=>cases hp
    |none=>exact ret hp rfl fun cs w=>by simp[G,stepG,stepG.exec,hr,e,rnd rfl]
   |rangeFunc f ps a b=>cases hp
   |refuse why=>cases hp
theorem Reach.M9{ty:TypeId}{Post:Value→World→Prop}{E:Env}{s:DS}{BU:PF}(hb:main=true∨E.send≠none)(hp:Gd.M9 s.H.ng s.fr=some BU):Reach P ty Post main E s {s with fr:=BU} :=
 Reach.ctl hb fun _ _ _ h=>NX hp h
end
section
variable{P:Program}{main:Bool}{fr:Frame}{cs:List Frame}{w w':World}{all:Array Oper}{i:Nat}{rest:List Nat}{m:List Item}{o:Oper}{v:Value}{es:Array Event}
theorem HQ(hr:fr.mode= .run)(ht:fr.todo= .inRegion all (i::rest)::m)(ho:all[i]? =some o)(hw:Region.wanted o (yielded all fr.tmps)=true)(hd: ∀c,o.op= .defer c→fr.roundOf=none) :
  stepG P main (G fr cs) w=stepG.apply P true fr cs none (execOp fr.eval o) w:=by
 have A5:fr.oper?=some o:=by simp[Frame.oper?,ht,ho]
 have e1:stepG P main (G fr cs) w=stepG.exec P main true fr cs none w:=by simp[stepG,G,hr]
 have e2:stepG.exec P main true fr cs none w=stepG.oper P true fr cs none w:=by
  unfold stepG.exec;simp only[ht,ho,Bc,Option.getD_some,hw,Ad]
 have e3:stepG.oper P true fr cs none w=stepG.apply P true fr cs none (execOp fr.eval o) w:=by
  unfold stepG.oper;simp only[A5];cases Ox:fr.roundOf with
  |none=>rfl
  |some l =>
   cases hh:o.op with
   |defer c=>exact absurd (hd c hh) (by rw[Ox]; simp)
   |_=>rfl
 rw[e1,e2,e3]
theorem Cv(hr:fr.mode= .run)(ht:fr.todo= .inRegion all (i::rest)::m)(ho:all[i]? =some o)(hw:Region.wanted o (yielded all fr.tmps)=true)(hk:fr.kind≠ .early)(hd: ∀c,o.op= .defer c→fr.roundOf=none)
  (AT:(execOp fr.eval o).runT P w #[]=(.ok (.value v) w',es)∨((execOp fr.eval o).runT P w #[]=(.ok .skip w',es)∧v=undef)):stepG P main (G fr cs) w= .go (G (fr.finish v) cs) w' (seen P fr.fn es):=by
 rw[HQ hr ht ho hw hd];unfold stepG.apply;have Hs:(fr.kind==CallKind.early)=false:=by simpa using hk
 rcases AT with AT|⟨AT,rfl⟩
 ·simp only[Ad,AT,Hs];rfl
 ·simp only[Ad,AT,Hs];rfl
end
def Aj(pf:PF)(all:Array Oper)(o:Oper):Option Bool :=
 match o.guard with
 |none=>some true
 |some (j,want)=>match(all[j]?).bind (·.dst)with
  |some t=>match pf.tmps.get t with
   |some (.bool b)=>some (b==want)
   |some (.tuple _)=>some false
   |_=>none
  |none=>none
def By(pf:PF)(dst:Option Tmp)(v:Value):Option (T Value) :=
 match dst with
 |none=>some pf.tmps
 |some t=>cond (Nat.blt t pf.nt) (cond (Nat.blt t (2^T.deep)) (some (pf.tmps.set t v)) none) none
structure L4(ρ ρ':Ah)(hn:Nat)(c:Ctx)(M':Nat→Prop)(w w':World):Prop where
 own: ∀b,c.M b→(∀x B,ρ x=some B→B.blk≠b)→M' b∧w'.heap[b]? =w.heap[b]?
 lV: ∀x B,ρ' x=some B→(∃y B',ρ y=some B'∧B'.blk=B.blk∧(y=x∨c.M B.blk))∨w.heap.size≤B.blk
 new: ∀x B,ρ' x=some B→ρ x=some B∨hn≤x
def KC(P:Program)(fn:FuncId)(ρ:Ah)(hn:Nat)(v:Value)(H':PH)(d':Nat)(c:Ctx)(w:World)(s:Sem Next):Prop :=
 ∃(ρ':Ah) (M':Nat→Prop) (R':Addr→Prop) (v':Value) (w':World) (es:Array Event),ρ.le ρ'∧VR ρ' v v'∧(s.runT P w #[]=(.ok (.value v') w',es)∨(s.runT P w #[]=(.ok .skip w',es)∧v'=undef))∧HR ρ' H' {c with M:=M',R:=R'} w'∧CK {c with M:=M',R:=R'} w'∧
  Ca c M' R' w w'∧BQ c w w' es∧deafBehind c.d (seen P fn es)=d'∧L4 ρ ρ' hn c M' w w'
def GU(es:Array Event):Prop:= ∀e∈es,e.loc≠ .mark .disable∧e.loc≠ .mark .enable
def Sound(P:Program)(ρ:Ah)(hn:Nat)(v:Value)(H':PH)(c:Ctx)(w:World)(s:Sem Next):Prop :=
 ∃(ρ':Ah) (M':Nat→Prop) (R':Addr→Prop) (v':Value) (w':World) (es:Array Event),ρ.le ρ'∧VR ρ' v v'∧(s.runT P w #[]=(.ok (.value v') w',es)∨(s.runT P w #[]=(.ok .skip w',es)∧v'=undef))∧HR ρ' H' {c with M:=M',R:=R'} w'∧CK {c with M:=M',R:=R'} w'∧
  Ca c M' R' w w'∧BQ c w w' es∧GU es∧L4 ρ ρ' hn c M' w w'
theorem Cl(d:Nat)(es:Array Event)(h:GU es):deafBehind d es=d:=by
 obtain⟨l⟩:=es;unfold deafBehind;simp only[List.foldl_toArray'];induction l generalizing d with
 |nil=>rfl
 |cons x l ih =>
  rw[List.foldl_cons];have hx:=h x (by simp);refine Eq.trans (congrArg (fun y=>List.foldl _ y l) ?_) (ih d fun e he=>h e (by simp at he ⊢; exact .inr he));cases hl:x.loc with
  |mark m =>
   rw[hl]at hx;cases m<;>first|rfl|exact absurd rfl hx.1|exact absurd rfl hx.2
  |_=>rfl
theorem Sound.d{P:Program}{fn:FuncId}{ρ:Ah}{hn:Nat}{v:Value}{H':PH}{c:Ctx}{w:World}{s:Sem Next}(h:Sound P ρ hn v H' c w s):KC P fn ρ hn v H' c.d c w s:=by
 obtain⟨ρ',M',R',v',w',es,a1,a2,a3,a4,a5,a6,a7,a8,a9⟩:=h;exact⟨ρ',M',R',v',w',es,a1,a2,a3,a4,a5,a6,a7,Cl _ _ fun e he=>a8 e (EH P fn es e he),a9⟩
theorem L4.refl(ρ:Ah)(hn:Nat)(c:Ctx)(w:World):L4 ρ ρ hn c c.M w w:=⟨fun _b hb _=>⟨hb,rfl⟩,fun x B h=> .inl ⟨x,B,h,rfl,.inl rfl⟩,fun _x _B h=> .inl h⟩
def CJ(ng:Nat)(ρ:Ah)(pf:PF)(fr:Frame)(o:Oper):Prop:= ∀x∈o.op.operands,∀v,AQ ng pf x=some v→VR ρ v (fr.eval x)
section
variable{P:Program}{ty:TypeId}{Post:Value→World→Prop}{main:Bool}{n:Nat}{E:Env}{ρ:Ah}{s:DS}{c:Ctx}{g:Goroutine}{w:World}
theorem Kc{a:Addr}{w w':World}(h:w'.heap[a.block]? =w.heap[a.block]?):w'.cell? a=w.cell? a:=by
 simp only[World.cell?,h]
theorem Kept.step{ρ':Ah}{hn:Nat}{M':Nat→Prop}{R':Addr→Prop}{w':World}(h:Kept E ρ c w)(AO:CK c w)(g:Ca c M' R' w w')(f:L4 ρ ρ' hn c M' w w')(hle:ρ.le ρ'){d:Nat}:Kept E ρ' {c with M:=M',R:=R',d:=d} w':=by
 refine⟨fun b hb=> ?_,fun a ha=> ?_,A1 h.size g.size,fun b hb=>(g.shape b (AV hb h.size)).trans (h.shape b hb),g.tape.trans h.tape,h.os.trans g.os,g.output.trans h.output,fun x B hx=>hle _ _ (h.Fq x B hx),fun x B hx=>by
  rcases f.lV x B hx with⟨y,B',hy,e,_⟩|hl
  ·rcases h.fresh y B' hy with h'|⟨z,lK,hz,e'⟩
   ·exact .inl (by omega)
   ·exact .inr ⟨z,lK,hz,e'.trans e⟩
  ·exact .inl (A1 h.size hl),h.AL,h.al.step g.size (fun b hb=>(g.mine b hb).2) f.lV g.shape⟩
 ·obtain⟨h1,h2,h3⟩:=h.m b hb;obtain⟨f1,f2⟩:=f.own b h1 h3;refine⟨f1,f2.trans h2,fun x B hx e=> ?_⟩;rcases f.lV x B hx with⟨y,B',hy,e',_⟩|hl
  ·exact h3 y B' hy (e'.trans e)
  ·have:=AO.ml b h1;omega
 ·obtain⟨h1,h2⟩:=h.r a ha;exact⟨g.more a h1,h2.trans (.of (g.keep a.block (AO.rl a h1) (AO.rm a h1)))⟩
theorem BE{pf:PF}{fr:Frame}{all:Array Oper}{o:Oper}{b:Bool}(h: ∀j want t v,o.guard=some (j,want)→CY all j=some t→pf.tmps.get t=some v→∃v',fr.tmps[t]? =some v'∧VR ρ v v')(hp:Aj pf all o=some b):Region.wanted o (yielded all fr.tmps)=b:=by
 unfold Aj at hp;unfold Region.wanted;cases hg:o.guard with
 |none=>rw[hg]at hp; exact As hp
 |some x =>
  obtain⟨j,want⟩:=x;rw[hg]at hp;simp only at hp ⊢;cases hd:(all[j]?).bind (·.dst)with
  |none=>rw[hd]at hp; cases hp
  |some t =>
   rw[hd]at hp;simp only at hp;unfold yielded;rw[hd];cases ht:pf.tmps.get t with
   |none=>rw[ht]at hp; cases hp
   |some v =>
    obtain⟨v',h1,h2⟩:=h j want t v hg hd ht;rw[ht]at hp;simp only[EC,h1];cases h2 with
    |bool b' =>
     simp only[AE]at hp;rw[← hp];cases b'<;>cases want<;>rfl
    |tuple hx =>
     simp only[AE]at hp;rw[← hp];rfl
    |_=>cases hp
theorem BV{fr:Frame}{all:Array Oper}{i:Nat}{rest:List Nat}{m:List Item}{o:Oper}(e:fr.todo= .inRegion all (i::rest)::m)(ho:all[i]? =some o)(v':Value) :
  fr.finish v'={fr with tmps:=match o.dst with|some d=>fr.tmps.setIfInBounds d v'|none=>fr.tmps,todo:= .inRegion all rest::m}:=by
 simp only[Frame.finish,e,ho,EC];cases o.dst<;>rfl
theorem U0{pf:PF}{fr:Frame}{ρ':Ah}{X:Tmp→Prop}(hs:fr.tmps.size=pf.nt)(hv: ∀k v,pf.tmps.get k=some v→¬X k→∃v',fr.tmps[k]? =some v'∧VR ρ' v v'){dst:Option Tmp}{tm:T Value}{v v':Value}(hp:By pf dst v=some tm)(hr:VR ρ' v v') :
  (match dst with|some d=>fr.tmps.setIfInBounds d v'|none=>fr.tmps).size=pf.nt∧
  ∀k u,tm.get k=some u→(dst≠some k→¬X k)→∃u',(match dst with|some d=>fr.tmps.setIfInBounds d v'|none=>fr.tmps)[k]? =some u'∧VR ρ' u u':=by
 unfold By at hp;cases dst with
 |none =>
  cases hp;exact⟨hs,fun k u hk hx=>hv k u hk (hx (by simp))⟩
 |some t =>
  simp only at hp;cases e1:Nat.blt t pf.nt with
  |false=>rw[e1]at hp; cases hp
  |true =>
   rw[e1]at hp;simp only[AG]at hp;cases e2:Nat.blt t (2^T.deep)with
   |false=>rw[e2]at hp; cases hp
   |true =>
    rw[e2]at hp;simp only[AG,AE]at hp;subst hp;have l1:t<pf.nt:=AH e1;have l2:t<2^T.deep:=AH e2;refine⟨by simp only[Array.size_setIfInBounds]; exact hs,fun j u hj hx=> ?_⟩;rw[T.AW _ _ _ _ l2]at hj;by_cases ej:j=t
    ·subst ej;rw[AD rfl]at hj; cases hj;exact⟨v',by simp only; rw[Bs (by rw[hs]; exact l1)],hr⟩
    ·rw[AA ej]at hj;obtain⟨u',a1,a2⟩:=hv j u hj (hx (by simp; exact fun e=>ej e.symm));exact⟨u',by simp only; rw[Bb (fun x=>ej x.symm)]; exact a1,a2⟩
theorem Br.ops{pf:PF}{fr:Frame}{pd:List Nat}(h:Br ρ pf fr pd){all:Array Oper}{i:Nat}{o:Oper}{l:List Oper}{k:List Ab}(ht:pf.todo= .ops all i (o::l)::k) :
  pd= []∧all[i]? =some o∧(∀k v,pf.tmps.get k=some v→∃v',fr.tmps[k]? =some v'∧VR ρ v v')∧∃rest m,fr.todo= .inRegion all (i::rest)::m∧LR (Ic ρ) k m∧Ic ρ (.ops all (i+1) l) (.inRegion all rest):=by
 obtain⟨Dj,EI,hv⟩:=h.plain (fun _ _ _ _ e=>by rw[ht]at e; cases e) (fun _ _ _ _ _ e=>by rw[ht]at e; cases e);rw[ht]at EI;obtain⟨b,m,e,hi,hk⟩:=EI.cons_inv;generalize vR:o::l=ol at hi;cases hi with
 |ops all i hle =>
  have Ac:i<all.size:=by
   have:=congrArg List.length vR;simp at this;omega
  have ho:all[i]? =some o:=by
   have:=congrArg (fun x=>x[0]?) vR;simp only[CM,List.getElem?_drop,Nat.add_zero]at this;rw[← CQ];exact this.symm
  have hl:l=all.toList.drop (i+1):=by
   have:=congrArg List.tail vR;simpa using this
  have er:List.range' i (all.size-i)=i::List.range' (i+1) (all.size-(i+1)):=by
   have:all.size-i=(all.size-(i+1))+1:=by omega
   rw[this,List.range'_succ]
  rw[er]at e;have Ky:=Ic.ops (ρ:=ρ) all (i+1) Ac;rw[← hl]at Ky;exact⟨Dj,ho,hv,_,m,e,hk,Ky⟩
theorem Br.put{pf:PF}{fr:Frame}{pd:List Nat}{ρ':Ah}(h:Br ρ' pf fr pd){all:Array Oper}{i:Nat}{o:Oper}{l:List Oper}{k:List Ab}{tm:T Value}{v v':Value}(ht:pf.todo= .ops all i (o::l)::k)(hp:By pf o.dst v=some tm)(hv:VR ρ' v v') :
  Br ρ' {pf with tmps:=tm,todo:= .ops all (i+1) l::k} (fr.finish v') []:=by
 obtain⟨-,ho,A9,rest,m,e,hk,Ky⟩:=h.ops ht;rw[BV e ho];obtain⟨p1,p2⟩:=U0 (X:=fun _=>False) h.size (fun k v hk _=>A9 k v hk) hp hv;exact⟨h.fn,p1,⟨_,.plain (.cons Ky hk),fun k u hk _=>p2 k u hk (fun _=>id)⟩,h.defers,h.mode,h.kind,h.round⟩
theorem CJ.of{pf:PF}{fr:Frame}(A9: ∀k v,pf.tmps.get k=some v→∃v',fr.tmps[k]? =some v'∧VR ρ v v'){H:PH}(hH:HR ρ H c w)(o:Oper):CJ H.ng ρ pf fr o:=by
 intro x _ v he;cases x with
 |tmp t =>
  obtain⟨v',h1,h2⟩:=A9 t _ he;have:fr.eval (.tmp t)=v':=by
   show fr.tmps.getD t undef=_;rw[Bt,h1]; rfl
  rw[this]; exact h2
 |const u =>
  have he:cond (ground 4 u) (some u) none=some v:=he;cases e:ground 4 u with
  |false=>rw[e]at he; cases he
  |true =>
   rw[e]at he;simp only[AG,AE]at he;subst he;have gr: ∀(f:Nat) {v:Value},ground f v=true→VR ρ v v:=by
    intro f;induction f with
    |zero=>intro v h; cases h
    |succ f ih =>
     intro v h;have Q6: ∀{l:List Value},l.all (ground f)=true→CE ρ l l:=by
      intro l;induction l with
      |nil=>intro _; exact .nil
      |cons a l ih' =>
       intro ha;simp only[List.all_cons,AF]at ha;exact .cons (ih ha.1) (ih' ha.2)
     cases v with
     |bool b=>exact .bool b
     |int k n=>exact .int k n
     |float k n=>exact .float k n
     |complex k n m=>exact .complex k n m
     |string s=>exact .string s
     |pointer a=>cases a with
      |none=>exact .JS
      |some a=>cases h
     |slice a n c=>cases a with
      |none=>exact .MC n c
      |some a=>cases h
     |map r=>cases r with
      |none=>exact .IP
      |some a=>cases h
     |chan r=>cases r with
      |none=>exact .OF
      |some a=>cases h
     |func fn xs ys=>cases h
     |nilFunc=>exact .nilFunc
     |iface t v=>exact .iface (ih h)
     |nilIface=>exact .nilIface
     |agg xs=>exact .agg (Q6 h)
     |tuple xs=>exact .tuple (Q6 h)
   exact gr 4 e
 |global g =>
  have he:cond (Nat.blt g H.ng) (some (Value.pointer (some ⟨g,0,none⟩))) none=some v:=he;cases e:Nat.blt g H.ng with
  |false=>rw[e]at he; cases he
  |true =>
   rw[e]at he;simp only[AG,AE]at he;subst he;obtain⟨B,h1,h2⟩:=hH.EK g (AH e);have:=VR.ptr (a:=⟨g,0,none⟩) h1;rw[h2]at this;exact this
 |func f =>
  have:=As he;subst this;exact .func (.func f) .nil .nil
theorem Reach.op(_hb:main=true∨E.send≠none)(hm:s.fr.mode= .run){all:Array Oper}{i:Nat}{o:Oper}{l:List Oper}{k:List Ab}(ht:s.fr.todo= .ops all i (o::l)::k)(hk:s.fr.kind≠ .early)(hd: ∀c,o.op≠ .defer c)
  (hw:Aj s.fr all o=some true) {v:Value} {tm:T Value} {H':PH} {d':Nat} (Mv:s.H.next≤H'.next) (hp:By s.fr o.dst v=some tm)
  (hs: ∀ρ c fr w₁,CJ s.H.ng ρ s.fr fr o→HR ρ s.H c w₁→CK c w₁→c.d=s.d→KC P s.fr.fn ρ s.H.next v H' d' c w₁ (execOp fr.eval o)) :
  Reach P ty Post main E s {fr:={s.fr with tmps:=tm,todo:= .ops all (i+1) l::k},cs:=s.cs,H:=H',d:=d'}:=by
 refine⟨1,fun E hb n hn ρ c g w h=> ?_⟩;cases h with
 |mk hf hc D7 ET hH AO Dx h1 h2 h3 Bv =>
  rename_i fr cs pd pds;refine W.GA rfl (hb.imp id fun e=>by rw[h1]; exact e) fun w₁ r=> ?_;obtain⟨Dj,ho,A9,rest,m,e,E0,Ky⟩:=hf.ops ht;have DN:=hH.rely r;have BY:=AO.rely r;obtain⟨ρ',M',R',v',w',es,a1,a2,a3,a4,a5,a6,a7,a8,a9⟩:=hs ρ c fr w₁ (CJ.of A9 DN o) DN BY Dx;have D8:=(hf.mono a1).put ht hp a2;have Aq:=Cv (P:=P) (main:=main) (cs:=cs++E.base) ((Br.run hf) hm) e ho (BE (fun _ _ t v _ _ hv=>A9 t v hv) hw) (by rw[hf.kind]; exact hk) (fun c hc=>absurd hc (hd c)) a3;have Ch:=EH P fr.fn es;refine⟨_,w',_,M',R',Aq,rfl,a6,a7.sub Ch, ?_⟩;rw[hf.fn,a8];subst Dj;simp only[List.nil_append]at D7 ET;refine hn ρ' {c with M:=M',R:=R',d:=d'} _ w' (.mk D8 (hc.mono a1) (by simpa using D7) (fun b hb=> ?_) ?_ ?_ rfl h1 h2 h3 ((Bv.rely r).step BY a6 a9 a1))
  ·obtain⟨q1,q2⟩:=ET b (by simpa using hb);refine⟨?_,AV q2 Mv⟩;cases hx:ρ' b with
   |none=>rfl
   |some B =>
    rcases a9.new b B hx with h|h
    ·rw[q1]at h; cases h
    ·omega
  ·exact⟨a4.cap,a4.Dk,fun b B o hb vS=>(by
    have:=a4.rel b B o hb vS;cases this with
    |cells hs he hf hle Ax hR AO=>exact .cells hs he hf hle Ax hR AO
    |obj hw ho hM=>exact .obj hw ho hM),a4.inj,a4.EK,a4.mem⟩
  ·exact⟨a5.ml,a5.rl,a5.rm⟩
end
theorem B5{ρ:Ah}: ∀(f:Nat) {v:Value},ground f v=true→VR ρ v v
 |0,_,h=>by cases h
 |f+1,v,h=>by
  have Q6: ∀{l:List Value},l.all (ground f)=true→CE ρ l l:=by
   intro l;induction l with
   |nil=>intro _; exact .nil
   |cons a l ih =>
    intro ha;simp only[List.all_cons,AF]at ha;exact .cons (B5 f ha.1) (ih ha.2)
  cases v with
  |bool b=>exact .bool b
  |int k n=>exact .int k n
  |float k n=>exact .float k n
  |complex k n m=>exact .complex k n m
  |string s=>exact .string s
  |pointer a=>cases a with
   |none=>exact .JS
   |some a=>cases h
  |slice a n c=>cases a with
   |none=>exact .MC n c
   |some a=>cases h
  |map r=>cases r with
   |none=>exact .IP
   |some a=>cases h
  |chan r=>cases r with
   |none=>exact .OF
   |some a=>cases h
  |func fn xs ys=>cases h
  |nilFunc=>exact .nilFunc
  |iface t v=>exact .iface (B5 f h)
  |nilIface=>exact .nilIface
  |agg xs=>exact .agg (Q6 h)
  |tuple xs=>exact .tuple (Q6 h)
section
variable{P:Program}{ρ:Ah}{pf:PF}{fr:Frame}{H:PH}{c:Ctx}{w:World}
theorem BQ.nil(c:Ctx)(w w':World):BQ c w w' #[]:=⟨fun e he=>by simp at he,fun e he=>by simp at he⟩
theorem Sound.pure{hn:Nat}{v v':Value}{s:Sem Next}(hH:HR ρ H c w)(AO:CK c w)(hv:VR ρ v v')(AT:s.runT P w #[]=(.ok (.value v') w,#[])):Sound P ρ hn v H c w s :=
 ⟨ρ,c.M,c.R,v',w,#[],.refl ρ,hv,.inl AT,hH,AO,Ca.refl AO,BQ.nil _ _ _,fun e he=>by simp at he,L4.refl _ _ _ _⟩
def CV{α:Type}(P:Program):Sem α→Option α
 | .pure a=>some a
 | .program k=>CV P (k P)
 |_=>none
theorem DG{α:Type}: ∀{s:Sem α} {a:α},CV P s=some a→∀(w:World) (es:Array Event),s.runT P w es=(.ok a w,es)
 | .pure a,b,h,w,es=>by cases h; rfl
 | .program k,b,h,w,es=>DG (s:=k P) h w es
 | .load ..,_,h,_,_=>by cases h
 | .store ..,_,h,_,_=>by cases h
 | .new ..,_,h,_,_=>by cases h
 | .shape ..,_,h,_,_=>by cases h
 | .freeze ..,_,h,_,_=>by cases h
 | .frozen ..,_,h,_,_=>by cases h
 | .getObj ..,_,h,_,_=>by cases h
 | .setObj ..,_,h,_,_=>by cases h
 | .choose ..,_,h,_,_=>by cases h
 | .sys ..,_,h,_,_=>by cases h
 | .mark ..,_,h,_,_=>by cases h
 | .halt ..,_,h,_,_=>by cases h
def NO(ng:Nat)(pf:PF)(l:List Operand):Bool :=
 l.all fun x=>match AQ ng pf x with|some v=>ground 6 v|none=>false
def sX(ng:Nat)(pf:PF)(x:Operand):Value:=(AQ ng pf x).getD undef
def HW(P:Program)(ng:Nat)(pf:PF)(o:Oper):Option Value :=
 cond (NO ng pf o.op.operands.toList) (match CV P (execOp (sX ng pf) o)with
  |some (.value v)=>cond (ground 6 v) (some v) none
  |_=>none) none
theorem U5{hn:Nat}{o:Oper}(h:CJ H.ng ρ pf fr o)(hH:HR ρ H c w)(AO:CK c w)(hs: ∀cs b,o.op≠ .select cs b){v:Value}(hp:HW P H.ng pf o=some v):Sound P ρ hn v H c w (execOp fr.eval o):=by
 unfold HW at hp;cases e:NO H.ng pf o.op.operands.toList with
 |false=>rw[e]at hp; cases hp
 |true =>
  rw[e]at hp;simp only[AG]at hp;have heq:execOp fr.eval o=execOp (sX H.ng pf) o:=execOp_congr o hs fun x hx=>by
   have:=AX.1 e x (by simpa using hx);unfold sX;cases ex:AQ H.ng pf x with
   |none=>simp only[ex]at this; cases this
   |some u =>
    simp only[ex]at this;exact Fa 6 (h x hx u ex) this
  split at hp
  ·rename_i u hu;cases eg:ground 6 u with
   |false=>rw[eg]at hp; cases hp
   |true =>
    rw[eg]at hp;simp only[AG,AE]at hp;subst hp;exact Sound.pure hH AO (B5 6 eg) (by rw[heq]; exact DG hu w #[])
  ·cases hp
theorem P7{hn:Nat}{o:Oper}(h:CJ H.ng ρ pf fr o)(hH:HR ρ H c w)(AO:CK c w){x:Operand}(ho:o.op= .move x∨o.op= .assign x){v:Value}(hp:AQ H.ng pf x=some v):Sound P ρ hn v H c w (execOp fr.eval o):=by
 refine Sound.pure hH AO (h x (by rcases ho with ho|ho<;>simp[ho,Op.operands]) v hp) ?_;rcases ho with ho|ho<;>(unfold execOp; rw[ho]; rfl)
end
section
variable{P:Program}{ty:DD}{ρ:Ah}{pf:PF}{fr:Frame}{H:PH}{c:Ctx}{w:World}
def Pv:Value→Option Addr
 | .pointer (some a)=>some a
 |_=>none
theorem Ya{hn:Nat}(A7:A8 P ty){o:Oper}(h:CJ H.ng ρ pf fr o)(hH:HR ρ H c w)(AO:CK c w){t:TypeId}{x:Operand}(ho:o.op= .load t x){u v:Value}{a:Addr}(hx:AQ H.ng pf x=some u)(ha:Pv u=some a)(hp:Ru ty H t a=some v) :
  Sound P ρ hn v H c w (execOp fr.eval o):=by
 have hv:=h x (by simp[ho,Op.operands]) u hx;cases u with
 |pointer a' =>
  cases a' with
  |none=>cases ha
  |some a' =>
   cases ha;generalize C6:fr.eval x=u' at hv;cases hv with
   |ptr hB =>
    rename_i B;obtain⟨v',l,h1,h2,lo,hi,h4,h5⟩:=run_load A7 hH hp hB #[];refine⟨ρ,c.M,c.R,v',w,#[]++l.toArray,.refl ρ,h1,.inl ?_,hH,AO,Ca.refl AO,⟨fun e he b=>(by obtain⟨k,k1,k2,rfl⟩:=h4 e (by simpa using he); simp[MemAct.ofEvent]),fun e he y hy=> ?_⟩,fun e he=> ?_,L4.refl _ _ _ _⟩
    ·unfold execOp;rw[ho];show((Instr.loadAt t (fr.eval x)).bind fun r=>Sem.pure (Next.value r)).runT P w #[]=_;rw[C6];show(((Instr.sureAddr (.pointer (some {a with block:=B.blk}))).bind fun b=>loadVar t b).bind fun r=>Sem.pure (Next.value r)).runT P w #[]=_;rw[AB (s:=(Instr.sureAddr (.pointer (some {a with block:=B.blk}))).bind fun b=>loadVar t b) (a:=v') (w':=w) (es':= #[]++l.toArray) h2];rfl
    ·obtain⟨k,k1,k2,rfl⟩:=h4 e (by simpa using he);simp only[MemAct.ofEvent,MemAct.touch?,AE]at hy;subst hy;rcases h5 with h5|h5
     ·exact .inl ⟨B.blk,rfl,.inl h5⟩
     ·exact .inr ⟨_,rfl,h5 k k1 k2,rfl⟩
    ·obtain⟨k,k1,k2,rfl⟩:=h4 e (by simpa using he);exact⟨(fun e=>by cases e),(fun e=>by cases e)⟩
 |_=>cases ha
def U7(H:PH)(l:List Value)(elem:TypeId)(es:Nat):Option PH :=
 cond (Nat.ble (H.next+1) (2^T.deep)) (cond (Nat.ble l.length (2^T.deep)) (some (H.x6 (H.t.set H.next (.cells (setFrom l .nil 0) l.length elem es true 0 true false)))) none) none
theorem Ca.grow(AO:CK c w)(o:Obj):Ca c (Ctx.own c w.heap.size).M c.R w (World.grow w o):=by
 have sz:(World.grow w o).heap.size=w.heap.size+1:=by simp[World.grow]
 refine⟨rfl,.refl _,.refl _,by omega,fun b hb=>by simp only[World.shape?,FZ w o hb],fun b hb _=>FZ w o hb,fun b hb=> ?_,fun _ h=>h,fun _ h=> .inl h⟩;rcases hb with hb|rfl
 ·exact⟨by have:=AO.ml b hb; omega,.inl hb⟩
 ·exact⟨by omega,.inr (AN _)⟩
theorem CK.grow(AO:CK c w)(o:Obj):CK (Ctx.own c w.heap.size) (World.grow w o):=by
 have sz:(World.grow w o).heap.size=w.heap.size+1:=by simp[World.grow]
 refine⟨fun b hb=> ?_,fun a ha=>by have:=AO.rl a ha; omega,fun a ha hb=> ?_⟩
 ·rcases hb with hb|rfl
  ·have:=AO.ml b hb; omega
  ·omega
 ·rcases hb with hb|hb
  ·exact AO.rm a ha hb
  ·have:=AO.rl a ha; omega
theorem L4.grow(AO:CK c w)(o:Obj){b hn:Nat}{B:RB}(hB:B.blk=w.heap.size)(hb:hn≤b):L4 ρ (ρ.put b B) hn c (Ctx.own c w.heap.size).M w (World.grow w o):=by
 refine⟨fun x hx _=>⟨.inl hx,FZ w o (AO.ml x hx)⟩,fun x X hx=> ?_,fun x X hx=> ?_⟩
 ·unfold Ah.put at hx;by_cases e:x=b
  ·rw[AD e]at hx; cases hx;exact .inr (by omega)
  ·rw[AA e]at hx;exact .inl ⟨x,X,hx,rfl,.inl rfl⟩
 ·unfold Ah.put at hx;by_cases e:x=b
  ·exact .inr (by omega)
  ·rw[AA e]at hx;exact .inl hx
theorem Sound.alloc(hH:HR ρ H c w)(AO:CK c w){l l':List Value}(hl:CE ρ l l'){elem:TypeId}{es:Nat}{H':PH}(hp:U7 H l elem es=some H'){s:Sem Next}{v:Value}{v':Value}
  (hv:VR (ρ.put H.next ⟨w.heap.size,l.length,es⟩) v v') (AT:s.runT P w #[]=(.ok (.value v') (World.grow w (.cells l'.toArray elem)),#[])):Sound P ρ H.next v H' c w s:=by
 unfold U7 at hp;cases e1:Nat.ble (H.next+1) (2^T.deep)with
 |false=>rw[e1]at hp; cases hp
 |true =>
  rw[e1]at hp;simp only[AG]at hp;cases e2:Nat.ble l.length (2^T.deep)with
  |false=>rw[e2]at hp; cases hp
  |true =>
   rw[e2]at hp;simp only[AG,AE]at hp;subst hp;exact⟨_,(Ctx.own c w.heap.size).M,c.R,v',_,#[],Ah.Ed hH.free,hv,.inl AT,hH.P5 hl (AH e1) (AH e2) elem es,AO.grow _,Ca.grow AO _,BQ.nil _ _ _,fun e he=>by simp at he,L4.grow AO _ rfl (AN _)⟩
theorem VR.cells{v v':Value}(h:VR ρ v v'):CE ρ v.cells.toList v'.cells.toList:=by
 cases h with
 |agg h=>exact h
 |bool b=>exact .cons (.bool b) .nil
 |int k n=>exact .cons (.int k n) .nil
 |float k n=>exact .cons (.float k n) .nil
 |complex k n m=>exact .cons (.complex k n m) .nil
 |string s=>exact .cons (.string s) .nil
 |JS=>exact .cons .JS .nil
 |ptr h=>exact .cons (.ptr h) .nil
 |MC n c=>exact .cons (.MC n c) .nil
 |sl h hc=>exact .cons (.sl h hc) .nil
 |IP=>exact .cons .IP .nil
 |map h=>exact .cons (.map h) .nil
 |OF=>exact .cons .OF .nil
 |chan h=>exact .cons (.chan h) .nil
 |func h hx hy=>exact .cons (.func h hx hy) .nil
 |nilFunc=>exact .cons .nilFunc .nil
 |iface h=>exact .cons (.iface h) .nil
 |nilIface=>exact .cons .nilIface .nil
 |tuple h=>exact .cons (.tuple h) .nil
theorem Cy(ρ:Ah)(b:Nat)(B:RB):ρ.put b B b=some B:=by unfold Ah.put; rw[AD rfl]
theorem KM(ρ:Ah)(b n s e:Nat):VR (ρ.put b ⟨n,s,e⟩) (.pointer (some ⟨b,0,none⟩)) (.pointer (some ⟨n,0,none⟩)):= .ptr (a:=⟨b,0,none⟩) (B:=⟨n,s,e⟩) (Cy _ _ _)
theorem ah{o:Oper}(h:CJ H.ng ρ pf fr o)(hH:HR ρ H c w)(AO:CK c w){t:TypeId}{x:Operand}(ho:o.op= .box t x){u:Value}(hx:AQ H.ng pf x=some u){H':PH}(hp:U7 H u.cells.toList t 0=some H') :
  Sound P ρ H.next (.pointer (some ⟨H.next,0,none⟩)) H' c w (execOp fr.eval o):=by
 have hv:=h x (by simp[ho,Op.operands]) u hx;refine Sound.alloc hH AO (VR.cells hv) hp (v':= .pointer (some ⟨w.heap.size,0,none⟩)) (KM _ _ _ _ _) ?_;unfold execOp;rw[ho];rfl
theorem Wy(A7:A8 P ty)(hH:HR ρ H c w)(AO:CK c w){o:Oper}{t:TypeId}(ho:o.op= .alloc t){i:TypeInfo}{d:TypeDesc}(hi:ty.get t=some (i,d)){z:Value}(hz:i.zero=some z)(hg:ground 6 z=true){H':PH}(hp:U7 H z.cells.toList t 0=some H') :
  Sound P ρ H.next (.pointer (some ⟨H.next,0,none⟩)) H' c w (execOp fr.eval o):=by
 have eR:=(A7 t _ hi).1;refine Sound.alloc hH AO (VR.cells (B5 6 hg)) hp (v':= .pointer (some ⟨w.heap.size,0,none⟩)) (KM _ _ _ _ _) ?_;unfold execOp;rw[ho];have vB:(zeroValue t).runT P w #[]=(.ok z w,#[]):=by
  show((typeInfo t).bind fun i=>match i.zero with|some v=>pure v|none=>unsupported (.resourceLimit "a value of more than 2^22 cells")).runT P w #[]=_;rw[AB (B6 eR),hz];rfl
 show((Instr.alloc t true (.tuple #[])).bind fun r=>Sem.pure (Next.value r)).runT P w #[]=_;show(((zeroValue t).bind fun z=>(newVar t z).bind fun a=>Sem.pure (Value.pointer (some a))).bind fun r=>Sem.pure (Next.value r)).runT P w #[]=_;rw[AB (s:=(zeroValue t).bind fun z=>(newVar t z).bind fun a=>Sem.pure (Value.pointer (some a))) (a:= .pointer (some ⟨w.heap.size,0,none⟩)) (w':=World.grow w (.cells z.cells t)) (es':= #[])]
 ·simp only[E3]; rfl
 ·rw[AB vB]; rfl
def PY(ty:DD)(H:PH)(t:TypeId)(a:Addr)(v:Value):Option PH :=
 match ty.get t with
 |some (i,_)=>match H.t.get a.block with
  |some (.cells tr size elem es true 0 true false)=>match a.spot with
   |none=>cond (Nat.beq v.cells.toList.length i.size) (cond (v.cells.toList.all Em) (cond (Nat.ble (a.off+v.cells.toList.length) size) (cond (Nat.ble size (2^T.deep))
     (some (H.Ho (H.t.set a.block (.cells (setFrom v.cells.toList tr a.off) size elem es true 0 true false)))) none) none) none) none
   |_=>none
  |_=>none
 |none=>none
theorem ES.RZ(AO:CK c w){b:Nat}{w':World}(h:ES b w w')(hb:c.M b):Ca c c.M c.R w w' :=
 ⟨h.tape,.of h.os,h.output,by rw[h.size]; exact AN _,fun x _=>h.shape x,fun x _ hx=>h.keep x fun e=>hx (e ▸hb),fun x hx=>⟨by rw[h.size]; exact AO.ml x hx,.inl hx⟩,fun _ h=>h,fun _ h=> .inl h⟩
theorem ES.oT{hn b:Nat}{B:RB}{w':World}(h:ES B.blk w w')(hB:ρ b=some B):L4 ρ ρ hn c c.M w w' :=
 ⟨fun x hx BK=>⟨hx,h.keep x fun e=>BK b B hB e.symm⟩,fun x X hx=> .inl ⟨x,X,hx,rfl,.inl rfl⟩,fun _x _X hx=> .inl hx⟩
theorem Ug{hn:Nat}(A7:A8 P ty){o:Oper}(h:CJ H.ng ρ pf fr o)(hH:HR ρ H c w)(AO:CK c w){t:TypeId}{x y:Operand}(ho:o.op= .store t x y){u v:Value}{a:Addr}(hx:AQ H.ng pf x=some u)(ha:Pv u=some a)(hy:AQ H.ng pf y=some v){H':PH}(hp:PY ty H t a v=some H') :
  Sound P ρ hn undef H' c w (execOp fr.eval o):=by
 have vF:=h x (by simp[ho,Op.operands]) u hx;have rJ:=h y (by simp[ho,Op.operands]) v hy;cases u with
 |pointer a' =>
  cases a' with
  |none=>cases ha
  |some a' =>
   cases ha;generalize C6:fr.eval x=u' at vF;cases vF with
   |ptr hB =>
    rename_i B;unfold PY at hp;cases e1:ty.get t with
    |none=>rw[e1]at hp; cases hp
    |some z =>
     obtain⟨i,d⟩:=z;obtain⟨hi,hd⟩:=A7 t _ e1;rw[e1]at hp;simp only at hp;split at hp
     ·rename_i tr size elem es e2;split at hp
      ·rename_i e3;cases b1:Nat.beq v.cells.toList.length i.size with
       |false=>rw[b1]at hp; cases hp
       |true =>
        rw[b1]at hp;simp only[AG]at hp;cases b2:v.cells.toList.all Em with
        |false=>rw[b2]at hp; cases hp
        |true =>
         rw[b2]at hp;simp only[AG]at hp;cases b3:Nat.ble (a.off+v.cells.toList.length) size with
         |false=>rw[b3]at hp; cases hp
         |true =>
          rw[b3]at hp;simp only[AG]at hp;cases b4:Nat.ble size (2^T.deep)with
          |false=>rw[b4]at hp; cases hp
          |true =>
           rw[b4]at hp;simp only[AG,AE]at hp;subst hp;have Dq:=VR.cells rJ;obtain⟨w',ev,r1,r2,r3,r4⟩:=Fl (P:=P) hB Dq tr a.off 0 H w #[] hH e2 b2 (by have:=AH b3; omega) (AH b4);have hM:c.M B.blk:=by
            have:=hH.rel _ _ _ hB e2;cases this with
            |cells hs he hf hle Ax hR EP=>exact(Ax rfl).1
           have hr3:HR ρ {H with t:=H.t.set a.block (.cells (setFrom v.cells.toList tr a.off) size elem es true 0 true false)} c w':=r3;have EP:CK c w':=⟨fun b hb=>by rw[r4.size]; exact AO.ml b hb,fun b hb=>by rw[r4.size]; exact AO.rl b hb,AO.rm⟩;refine⟨ρ,c.M,c.R,undef,w',#[]++ev.toArray,.refl ρ,.tuple .nil,.inr ⟨?_,rfl⟩,hr3,EP,ES.RZ AO r4 hM,⟨fun e he b=>(by obtain⟨k,rfl⟩:=r2 e (by simpa using he); simp[MemAct.ofEvent]),fun e he z hz=> ?_⟩,fun e he=> ?_,ES.oT r4 hB⟩
           ·unfold execOp;rw[ho];show((Instr.storeAt t (fr.eval x) (fr.eval y)).bind fun _=>Sem.pure Next.skip).runT P w #[]=_;rw[C6];show((storeVar t {a with block:=B.blk} (fr.eval y)).bind fun _=>Sem.pure Next.skip).runT P w #[]=_;have hlen:(fr.eval y).cells.size=i.size:=by
             have:=Dq.length;have b1':=AJ b1;simp only[FC]at this b1';omega
            have Aq:(storeVar t {a with block:=B.blk} (fr.eval y)).runT P w #[]=(.ok () w',#[]++ev.toArray):=by
             show((sizeOf t).bind fun n=>if(fr.eval y).cells.size≠n then stuck "storeVar: the value has not the size of the variable" else storeCells {a with block:=B.blk} (fr.eval y).cells.toList).runT P w #[]=_;rw[AB (runT_size hi),AA (by rw[hlen]; simp)];have ea:({a with block:=B.blk}:Addr)=⟨B.blk,a.off,none⟩:=by
              obtain⟨b,off,sp⟩:=a;simp only at e3;subst e3;rfl
             rw[ea]; exact r1
            rw[AB Aq];rfl
           ·obtain⟨k,rfl⟩:=r2 e (by simpa using he);simp only[MemAct.ofEvent,MemAct.touch?,AE]at hz;subst hz;exact .inl ⟨B.blk,rfl,.inl hM⟩
           ·obtain⟨k,rfl⟩:=r2 e (by simpa using he);exact⟨(fun e=>by cases e),(fun e=>by cases e)⟩
      ·cases hp
     ·cases hp
 |_=>cases ha
end
section
variable{P:Program}{ty:DD}{ρ:Ah}{pf:PF}{fr:Frame}{H:PH}{c:Ctx}{w:World}
theorem Sound.val{hn:Nat}{v v':Value}{o:Oper}{s:Sem Value}(hH:HR ρ H c w)(AO:CK c w)(hv:VR ρ v v')(he:execOp fr.eval o=s.bind fun r=>Sem.pure (Next.value r))(AT:s.runT P w #[]=(.ok v' w,#[])):Sound P ρ hn v H c w (execOp fr.eval o) :=
 Sound.pure hH AO hv (by rw[he,AB AT]; rfl)
theorem Rc{hn:Nat}{o:Oper}(h:CJ H.ng ρ pf fr o)(hH:HR ρ H c w)(AO:CK c w){x:Operand}{k:Nat}(ho:o.op= .extract x k){vs:Array Value}{v:Value}(hx:AQ H.ng pf x=some (.tuple vs))(hp:vs.toList[k]? =some v):Sound P ρ hn v H c w (execOp fr.eval o):=by
 have hv:=h x (by simp[ho,Op.operands]) _ hx;generalize C6:fr.eval x=u' at hv;cases hv with
 |tuple hl =>
  rename_i ws;obtain⟨v',h1,h2⟩:=hl.get k v hp;refine Sound.val hH AO h2 (s:=Instr.extract (.tuple ws) k) (by unfold execOp; rw[ho]; show(Instr.extract (fr.eval x) k).bind _=_; rw[C6]; rfl) ?_;have K0:ws[k]? =some v':=by rw[← CQ]; exact h1
  simp only[Instr.extract,K0];rfl
theorem Kh{hn:Nat}{o:Oper}(A7:A8 P ty)(h:CJ H.ng ρ pf fr o)(hH:HR ρ H c w)(AO:CK c w){t:TypeId}{x:Operand}(ho:o.op= .makeInterface t x){i:TypeInfo}{d:TypeDesc}(hi:ty.get t=some (i,d))(hd: ∀ms,d≠ .interface ms){v:Value}(hx:AQ H.ng pf x=some v) :
  Sound P ρ hn (.iface t v) H c w (execOp fr.eval o):=by
 refine Sound.val hH AO (.iface (h x (by simp[ho,Op.operands]) _ hx)) (s:=Instr.makeInterface t (fr.eval x)) (by unfold execOp; rw[ho]; rfl) ?_;show((underlying t).bind fun d=>match d with| .interface _=>stuck "MakeInterface: a concrete type expected" |_=>pure (Value.iface t (fr.eval x))).runT P w #[]=_;rw[AB (Aa (A7 t _ hi).2)];cases d with
 |interface ms=>exact absurd rfl (hd ms)
 |_=>rfl
theorem Xi{hn:Nat}{o:Oper}(h:CJ H.ng ρ pf fr o)(hH:HR ρ H c w)(AO:CK c w){x y z:Operand}(ho:o.op= .pick x y z){b:Bool}{v:Value}(hx:AQ H.ng pf x=some (.bool b))(hp:AQ H.ng pf (if b then y else z)=some v):Sound P ρ hn v H c w (execOp fr.eval o):=by
 have hb:fr.eval x= .bool b:=by
  have:=h x (by simp[ho,Op.operands]) _ hx;generalize fr.eval x=u at this;cases this; rfl
 refine Sound.pure hH AO (h _ (by cases b<;>simp[ho,Op.operands]) _ hp) ?_;unfold execOp;rw[ho];show((asBool (fr.eval x)).bind fun b=>Sem.pure (Next.value (if b=true then fr.eval y else fr.eval z))).runT P w #[]=_;rw[hb];cases b<;>rfl
def Eh(ng:Nat)(pf:PF)(l:List Operand):Option (List Value) :=
 List.rec (motive:=fun _=>Option (List Value)) (some []) (fun x _ ih=>match AQ ng pf x with
  |some v=>match ih with
   |some l=>some (v::l)
   |none=>none
  |none=>none) l
theorem DO{ng:Nat}{o:Oper}(h:CJ ng ρ pf fr o): ∀{l:List Operand} {vs:List Value},(∀x∈l,x∈o.op.operands)→Eh ng pf l=some vs→CE ρ vs (l.map fr.eval)
 | [],vs,_,hp=>by
  have:vs= []:=(As hp).symm;subst this;exact .nil
 |x::l,vs,hm,hp=>by
  have hp:(match AQ ng pf x with|some v=>(match Eh ng pf l with|some l=>some (v::l)|none=>none)|none=>none)=some vs:=hp;cases e1:AQ ng pf x with
  |none=>rw[e1]at hp; cases hp
  |some v =>
   rw[e1]at hp;simp only at hp;cases e2:Eh ng pf l with
   |none=>rw[e2]at hp; cases hp
   |some us =>
    rw[e2]at hp;simp only[AE]at hp;subst hp;exact .cons (h x (hm x (by simp)) v e1) (DO h (fun y hy=>hm y (by simp[hy])) e2)
theorem QC{hn:Nat}{o:Oper}(h:CJ H.ng ρ pf fr o)(hH:HR ρ H c w)(AO:CK c w){fn:Fn}{xs ys:Array Operand}(ho:o.op= .makeFunc fn xs ys)(Gv:FR ρ fn fn){us vs:List Value}(hx:Eh H.ng pf xs.toList=some us)(hy:Eh H.ng pf ys.toList=some vs) :
  Sound P ρ hn (.func fn us.toArray vs.toArray) H c w (execOp fr.eval o):=by
 have h1:=DO h (fun z hz=>by rw[ho]; simp[Op.operands]at hz ⊢; exact .inl hz) hx;have h2:=DO h (fun z hz=>by rw[ho]; simp[Op.operands]at hz ⊢; exact .inr hz) hy;refine Sound.pure hH AO (v':= .func fn (xs.map fr.eval) (ys.map fr.eval)) (.func Gv (by simpa using h1) (by simpa using h2)) ?_;unfold execOp;rw[ho];rfl
theorem Nb(a:Addr)(b n:Nat):({a with block:=b}:Addr).add n={a.add n with block:=b}:=by
 unfold Addr.add;by_cases e:n=0
 ·rw[AD e,AD e]
 ·rw[AA e,AA e]
theorem UM(a:Addr)(n:Nat):(a.add n).block=a.block:=by
 unfold Addr.add;by_cases e:n=0
 ·rw[AD e]
 ·rw[AA e]
theorem VR.ML{a:Addr}{B:RB}(hB:ρ a.block=some B)(n:Nat):VR ρ (.pointer (some (a.add n))) (.pointer (some (({a with block:=B.blk}:Addr).add n))):=by
 have e:=Nb a B.blk n;rw[e];exact .ptr (a:=a.add n) (by rw[UM]; exact hB)
theorem Od{hn:Nat}{o:Oper}(A7:A8 P ty)(h:CJ H.ng ρ pf fr o)(hH:HR ρ H c w)(AO:CK c w){t:TypeId}{x:Operand}{k:Nat}(ho:o.op= .fieldAddr t x k){i fi:TypeInfo}{fd:TypeDesc}{fs:Array Field}{f:Field}(hi:ty.get t=some (i,.struct fs))(hf:fs[k]? =some f)(hfi:ty.get f.type=some (fi,fd))(Bp:fi.size≠0)
  {u:Value} {a:Addr} (hx:AQ H.ng pf x=some u) (ha:Pv u=some a):Sound P ρ hn (.pointer (some (a.add f.offset))) H c w (execOp fr.eval o):=by
 have hv:=h x (by simp[ho,Op.operands]) _ hx;cases u with
 |pointer a' =>
  cases a' with
  |none=>cases ha
  |some a' =>
   cases ha;generalize C6:fr.eval x=u' at hv;cases hv with
   |ptr hB =>
    rename_i B;refine Sound.val hH AO (VR.ML hB f.offset) (s:=Instr.fieldAt t (.pointer (some {a with block:=B.blk})) k) (by unfold execOp; rw[ho]; show(Instr.fieldAt t (fr.eval x) k).bind _=_; rw[C6]; rfl) ?_;have vp:(fieldPlace {a with block:=B.blk} f).runT P w #[]=(.ok (({a with block:=B.blk}:Addr).add f.offset) w,#[]):=by
     show((sizeOf f.type).bind fun n=>if n=0 then partAt {a with block:=B.blk} f.offset f.byteOffset else pure (({a with block:=B.blk}:Addr).add f.offset)).runT P w #[]=_;rw[AB (runT_size (A7 _ _ hfi).1),AA Bp];rfl
    unfold Instr.fieldAt;refine(AB (s:=underlying t) (Aa (A7 _ _ hi).2)).trans ?_;simp only[hf];refine(AB (s:=Instr.sureAddr (.pointer (some {a with block:=B.blk}))) (a:={a with block:=B.blk}) (w':=w) (es':= #[]) rfl).trans ?_;show((fieldPlace {a with block:=B.blk} f).bind fun p=>pure (Value.pointer (some p))).runT P w #[]=_;rw[AB vp];rfl
 |_=>cases ha
end
section
variable{P:Program}{ty:DD}{ρ:Ah}{pf:PF}{fr:Frame}{H:PH}{c:Ctx}{w:World}
theorem PR(A7:A8 P ty){t elem:TypeId}{i ei:TypeInfo}{ed:TypeDesc}(hi:ty.get t=some (i,.slice elem))(he:ty.get elem=some (ei,ed))(a:Addr){len cap:Nat}(k:IntKind){n:Int}(h0:0≤n)(h1:n<len) :
  (Instr.indexAt t (.slice (some a) len cap) (.int k n)).runT P w #[]=(.ok (.pointer (some (a.add (n.toNat*ei.size)))) w,#[]):=by
 have hu:=(A7 _ _ hi).2;have n6:=(A7 _ _ he).1;have e1:(underlying t).run P w= .ok (.slice elem) w:=run_underlying hu w;have e2:(sizeOf elem).run P w= .ok ei.size w:=by
  have:=congrArg Prod.fst (runT_size (w:=w) (es:= #[]) n6);simpa using this
 rw[Sem.runT_eq];unfold Instr.indexAt;simp[asIntOf,e1,e2,h0,h1]
theorem OP(A7:A8 P ty){t elem:TypeId}{len:Nat}{i ei:TypeInfo}{ed:TypeDesc}(hi:ty.get t=some (i,.array len elem))(he:ty.get elem=some (ei,ed))(a:Addr)(k:IntKind){n:Int}(h0:0≤n)(h1:n<len) :
  (Instr.indexAt t (.pointer (some a)) (.int k n)).runT P w #[]=(.ok (.pointer (some (a.add (n.toNat*ei.size)))) w,#[]):=by
 have hu:=(A7 _ _ hi).2;have n6:=(A7 _ _ he).1;have e1:(underlying t).run P w= .ok (.array len elem) w:=run_underlying hu w;have e2:(sizeOf elem).run P w= .ok ei.size w:=by
  have:=congrArg Prod.fst (runT_size (w:=w) (es:= #[]) n6);simpa using this
 rw[Sem.runT_eq];unfold Instr.indexAt;simp[asIntOf,Instr.sureAddr,e1,e2,h0,h1]
theorem JV{hn:Nat}{o:Oper}(A7:A8 P ty)(h:CJ H.ng ρ pf fr o)(hH:HR ρ H c w)(AO:CK c w){t elem:TypeId}{x y:Operand}(ho:o.op= .indexAddr t x y){i ei:TypeInfo}{ed:TypeDesc}(hi:ty.get t=some (i,.slice elem))(he:ty.get elem=some (ei,ed))
  {a:Addr} {len cap:Nat} {k:IntKind} {n:Int} (hx:AQ H.ng pf x=some (.slice (some a) len cap)) (hy:AQ H.ng pf y=some (.int k n)) (h0:0≤n) (h1:n<len):Sound P ρ hn (.pointer (some (a.add (n.toNat*ei.size)))) H c w (execOp fr.eval o):=by
 have hv:=h x (by simp[ho,Op.operands]) _ hx;have dq:=h y (by simp[ho,Op.operands]) _ hy;generalize C6:fr.eval x=u' at hv;generalize Ob:fr.eval y=n' at dq;cases dq;cases hv with
 |sl hB hc =>
  rename_i B c';refine Sound.val hH AO (VR.ML hB (n.toNat*ei.size)) (s:=Instr.indexAt t (.slice (some {a with block:=B.blk}) len c') (.int k n)) (by unfold execOp; rw[ho]; show(Instr.indexAt t (fr.eval x) (fr.eval y)).bind _=_; rw[C6,Ob]; rfl) (PR A7 hi he _ k h0 h1)
theorem JW{hn:Nat}{o:Oper}(A7:A8 P ty)(h:CJ H.ng ρ pf fr o)(hH:HR ρ H c w)(AO:CK c w){t elem:TypeId}{len:Nat}{x y:Operand}(ho:o.op= .indexAddr t x y){i ei:TypeInfo}{ed:TypeDesc}(hi:ty.get t=some (i,.array len elem))(he:ty.get elem=some (ei,ed))
  {a:Addr} {k:IntKind} {n:Int} (hx:AQ H.ng pf x=some (.pointer (some a))) (hy:AQ H.ng pf y=some (.int k n)) (h0:0≤n) (h1:n<len):Sound P ρ hn (.pointer (some (a.add (n.toNat*ei.size)))) H c w (execOp fr.eval o):=by
 have hv:=h x (by simp[ho,Op.operands]) _ hx;have dq:=h y (by simp[ho,Op.operands]) _ hy;generalize C6:fr.eval x=u' at hv;generalize Ob:fr.eval y=n' at dq;cases dq;cases hv with
 |ptr hB =>
  rename_i B;refine Sound.val hH AO (VR.ML hB (n.toNat*ei.size)) (s:=Instr.indexAt t (.pointer (some {a with block:=B.blk})) (.int k n)) (by unfold execOp; rw[ho]; show(Instr.indexAt t (fr.eval x) (fr.eval y)).bind _=_; rw[C6,Ob]; rfl) (OP A7 hi he _ k h0 h1)
end
section
variable{P:Program}{ty:DD}{ρ:Ah}{pf:PF}{fr:Frame}{H:PH}{c:Ctx}{w:World}
theorem LZ{hn:Nat}{o:Oper}(h:CJ H.ng ρ pf fr o)(hH:HR ρ H c w)(AO:CK c w){x:Operand}(ho:o.op= .nilCheck x){a:Addr}(hx:AQ H.ng pf x=some (.pointer (some a))):Sound P ρ hn (.pointer (some a)) H c w (execOp fr.eval o):=by
 have hv:=h x (by simp[ho,Op.operands]) _ hx;refine Sound.pure hH AO hv ?_;generalize C6:fr.eval x=u' at hv;cases hv with
 |ptr hB =>
  unfold execOp;rw[ho];simp only[C6];rfl
theorem Kf{hn:Nat}{o:Oper}(h:CJ H.ng ρ pf fr o)(hH:HR ρ H c w)(AO:CK c w){x:Operand}(ho:o.op= .nilCheck x){f:FuncId}{xs ys:Array Value}(hx:AQ H.ng pf x=some (.func (.func f) xs ys)):Sound P ρ hn (.func (.func f) xs ys) H c w (execOp fr.eval o):=by
 have hv:=h x (by simp[ho,Op.operands]) _ hx;refine Sound.pure hH AO hv ?_;generalize C6:fr.eval x=u' at hv;cases hv with
 |func hf h1 h2 =>
  cases hf;unfold execOp;rw[ho];simp only[C6];rfl
theorem OW{hn:Nat}{o:Oper}(h:CJ H.ng ρ pf fr o)(hH:HR ρ H c w)(AO:CK c w){x:Operand}{t elem:TypeId}(ho:o.op= .call {callee:= .builtin .len,args:= #[x],argTypes:= #[t]})(hu:P.underlying t=some (.slice elem)){a:Option Addr}{n cap:Nat}(hx:AQ H.ng pf x=some (.slice a n cap)) :
  Sound P ρ hn (goInt n) H c w (execOp fr.eval o):=by
 have hv:=h x (by simp[ho,Op.operands,Call.operands]) _ hx;refine Sound.pure hH AO (.int _ _) ?_;have key: ∀(b:Option Addr) (c':Nat),fr.eval x= .slice b n c'→(execOp fr.eval o).runT P w #[]=(.ok (.value (goInt n)) w,#[]):=by
  intro b c' e;rw[Sem.runT_eq];unfold execOp;simp[ho,resolve,invoke,builtin,Builtin.len_,e,run_underlying hu]
 generalize C6:fr.eval x=u' at hv;cases hv with
 |MC=>exact key _ _ C6
 |sl hB hc=>exact key _ _ C6
def Rt(ty:DD)(t:TypeId)(cs:Array Value)(off:Nat):Option Value :=
 match ty.get t with
 |some (i,d)=>cond (UK d) (some (.agg ((cs.toList.drop off).take i.size).toArray)) (cs.toList[off]?)
 |none=>none
theorem Uq(A7:A8 P ty){t:TypeId}{cs cs':Array Value}(h:CE ρ cs.toList cs'.toList){off:Nat}{v:Value}(hp:Rt ty t cs off=some v): ∃v',VR ρ v v'∧(part t cs' off).runT P w #[]=(.ok v' w,#[]):=by
 unfold Rt at hp;cases e:ty.get t with
 |none=>rw[e]at hp; cases hp
 |some x =>
  obtain⟨i,d⟩:=x;rw[e]at hp;simp only at hp;obtain⟨hi,hd⟩:=A7 t _ e;have base:(part t cs' off).runT P w #[]=(if UK d=true then((sizeOf t).bind fun n=>pure (Value.agg (cs'.extract off (off+n))))else(match cs'[off]? with|some v=>pure v|none=>stuck "part: no such cell" :Sem Value)).runT P w #[]:=by
   unfold part;exact(AB (s:=isAgg t) (LI hd)).trans rfl
  cases ea:UK d with
  |true =>
   rw[ea]at hp base;simp only[AG,AE]at hp;subst hp;refine⟨.agg (cs'.extract off (off+i.size)),.agg ?_, ?_⟩
   ·have:=(h.drop off).take i.size;simp only[Array.toList_extract,List.extract_eq_take_drop];rw[Nat.add_sub_cancel_left];exact this
   ·rw[base];simp only[Ad];rw[AB (runT_size hi)];rfl
  |false =>
   rw[ea]at hp base;simp only[Av]at hp;obtain⟨v',h1,h2⟩:=h.get off v hp;have K0:cs'[off]? =some v':=by rw[← CQ]; exact h1
   refine⟨v',h2, ?_⟩;rw[base];simp only[Bq,BS,K0];rfl
theorem Wj{hn:Nat}{o:Oper}(A7:A8 P ty)(h:CJ H.ng ρ pf fr o)(hH:HR ρ H c w)(AO:CK c w){t:TypeId}{x:Operand}{k:Nat}(ho:o.op= .field t x k){i:TypeInfo}{fs:Array Field}{f:Field}(hi:ty.get t=some (i,.struct fs))(hf:fs[k]? =some f)
  {cs:Array Value} (hx:AQ H.ng pf x=some (.agg cs)) {v:Value} (hp:Rt ty f.type cs f.offset=some v):Sound P ρ hn v H c w (execOp fr.eval o):=by
 have hv:=h x (by simp[ho,Op.operands]) _ hx;generalize C6:fr.eval x=u' at hv;cases hv with
 |agg hl =>
  rename_i cs';obtain⟨v',h1,h2⟩:=Uq (P:=P) (w:=w) A7 hl hp;refine Sound.val hH AO h1 (s:=Instr.field t (.agg cs') k) (by unfold execOp; rw[ho]; show(Instr.field t (fr.eval x) k).bind _=_; rw[C6]; rfl) ?_;unfold Instr.field;refine(AB (s:=underlying t) (Aa (A7 _ _ hi).2)).trans ?_;simp only[hf];exact h2
end
def T.HY{α:Type}(l:List α):T α→Nat→T α :=
 List.rec (motive:=fun _=>T α→Nat→T α) (fun t _=>t) (fun v _ ih t off=>ih (t.set off v) (off+1)) l
def T.ofList{α:Type}(l:List α):T α:=T.HY l .nil 0
theorem T.I3{α:Type}: ∀(l:List α) (t:T α) (off k:Nat),off+l.length≤2^T.deep→(T.HY l t off).get k=if off≤k∧k<off+l.length then l[k-off]? else t.get k
 | [],t,off,k,_=>by
  rw[AA (by simp)]; rfl
 |v::l,t,off,k,h=>by
  simp only[Dv]at h;show(T.HY l (t.set off v) (off+1)).get k=_;rw[T.I3 l _ _ _ (by omega),T.AW _ _ _ _ (by omega)];simp only[Dv];by_cases e:k=off
  ·subst e;rw[AA (by omega),AD rfl,AD (by omega)];simp
  ·by_cases e':off+1≤k∧k<off+1+l.length
   ·rw[AD e',AD (by omega)];have:k-off=(k-(off+1))+1:=by omega
    rw[this]; rfl
   ·rw[AA e',AA e,AA (by omega)]
theorem T.Ln{α:Type}(l:List α)(k:Nat)(h:l.length≤2^T.deep):(T.ofList l).get k=l[k]? :=by
 unfold T.ofList;rw[T.I3 l _ _ _ (by omega)];by_cases e:k<l.length
 ·rw[AD (by omega)]; simp
 ·rw[AA (by omega),List.getElem?_eq_none (by omega)]; rfl
def descOf(l:List TypeInfo)(i:TypeInfo):TypeDesc :=
 match i.desc with
 | .named _ u=>match l[u]? with
  |some j=>j.desc
  |none=> .invalid
 |d=>d
def dK(P:Program):DD:=T.ofList (P.types.toList.map fun i=>(i,descOf P.types.toList i))
def Za(n:Nat)(i:TypeInfo):Bool :=
 match i.desc with
 | .named _ u=>Nat.blt u n
 |_=>true
theorem dJ{P:Program}(h:P.types.toList.all (Za P.types.size)=true)(hs:P.types.size≤2^T.deep):A8 P (dK P):=by
 intro t x hx;unfold dK at hx;rw[T.Ln _ _ (by simpa using hs)]at hx;simp only[List.getElem?_map,CL]at hx;obtain⟨i,hi,rfl⟩:=hx;have rS:P.types[t]? =some i:=by rw[← CQ]; exact hi
 have info: ∀(u:Nat) (j:TypeInfo),P.types[u]? =some j→P.info? u=some j:=fun u j hj=>by
  show Tables.info? _ u=_;unfold Tables.info?;rw[AD (A6.1 hj).1];exact hj
 refine⟨info t i rS, ?_⟩;have j5: ∀(u:Nat) (j:TypeInfo),P.types[u]? =some j→Tables.info? P.toTables u=some j:=info;have hm:=AX.1 h i (Cg hi);unfold Program.underlying;rw[j5 t i rS];obtain⟨desc,str,size,bytes,hp,al,fa,zero,cmp,ms⟩:=i;cases desc with
 |named n u =>
  have Ac:u<P.types.size:=AH hm;have hu:P.types[u]? =some P.types[u]:=CR Ac;simp only[j5 u _ hu,descOf];rw[show P.types.toList[u]? =some P.types[u] by rw[CQ]; exact hu];rfl
 |_=>rfl
abbrev Fns:=T Func
def lI(P:Program)(fns:Fns):Prop:= ∀f fn,fns.get f=some fn→P.funcs[f]? =some fn
def dN(P:Program):Fns:=T.ofList P.funcs.toList
theorem dM{P:Program}(hs:P.funcs.size≤2^T.deep):lI P (dN P):=by
 intro f fn hx;unfold dN at hx;rw[T.Ln _ _ (by simpa using hs)]at hx;rw[← CQ]; exact hx
def rF:Int→Int→Bool
 | .ofNat a,.ofNat b=>Nat.blt a b
 | .ofNat _,.negSucc _=>false
 | .negSucc _,.ofNat _=>true
 | .negSucc a,.negSucc b=>Nat.blt b a
def rG:Int→Int→Bool
 | .ofNat a,.ofNat b=>Nat.beq a b
 | .negSucc a,.negSucc b=>Nat.beq a b
 |_,_=>false
def small:Int→Bool
 | .ofNat a=>Nat.blt a 9223372036854775808
 | .negSucc a=>Nat.blt a 9223372036854775808
def O5(k:IntKind)(n:Int):Int :=
 match k with
 | .i64=>cond (small n) n (IntKind.wrap .i64 n)
 |_=>IntKind.wrap k n
theorem blt_eq(a b:Nat):Nat.blt a b=decide (a<b):=by
 cases h:Nat.blt a b
 ·refine(decide_eq_false fun hl=> ?_).symm;have:Nat.blt a b=true:=E4 hl;rw[h]at this; cases this
 ·exact(decide_eq_true (AH h)).symm
theorem beq_eq(a b:Nat):Nat.beq a b=decide (a=b):=by
 cases h:Nat.beq a b
 ·exact(decide_eq_false (Bl h)).symm
 ·exact(decide_eq_true (AJ h)).symm
theorem Te(a b:Int):rF a b=decide (a<b):=by
 cases a<;>cases b<;>simp only[rF,blt_eq,Gf]
 ·congr 1; apply propext; constructor<;>intro h<;>omega
 ·refine(decide_eq_false ?_).symm; omega
 ·refine(decide_eq_true ?_).symm; omega
 ·congr 1; apply propext; constructor<;>intro h<;>omega
theorem Yf(a b:Int):rG a b=decide (a=b):=by
 cases a<;>cases b<;>simp only[rG,beq_eq,Gf]
 ·congr 1; apply propext; constructor<;>intro h<;>omega
 ·refine(decide_eq_false ?_).symm; omega
 ·refine(decide_eq_false ?_).symm; omega
 ·congr 1; apply propext; constructor<;>intro h<;>omega
theorem Il{n:Int}(h:small n=true):IntKind.wrap .i64 n=n:=by
 have hb: -9223372036854775808≤n∧n<9223372036854775808:=by
  cases n with
  |ofNat a=>have h:=AH h; simp only[Gf]; omega
  |negSucc a=>have h:=AH h; omega
 have e:IntKind.wrap .i64 n=if n%18446744073709551616≥9223372036854775808 then n%18446744073709551616-18446744073709551616 else n%18446744073709551616:=by
  unfold IntKind.wrap;simp[IntKind.bits,IntKind.signed]
 rw[e];by_cases h0:0≤n
 ·rw[AA (by omega)]; omega
 ·rw[AD (by omega)]; omega
theorem L5(k:IntKind)(n:Int):O5 k n=k.wrap n:=by
 cases k<;>simp only[O5];cases h:small n
 ·rfl
 ·exact(Il h).symm
def Ft:IntKind→IntKind→Bool
 | .i8,.i8| .i16,.i16| .i32,.i32| .i64,.i64| .u8,.u8| .u16,.u16| .u32,.u32| .u64,.u64=>true
 |_,_=>false
theorem Rz{a b:IntKind}(h:Ft a b=true):a=b:=by
 cases a<;>cases b<;>first|rfl|cases h
def hO(op:BinOp)(t:TypeId)(k:IntKind)(a:Int)(k':IntKind)(b:Int):Option Value :=
 match op with
 | .add=>cond (Ft k k') (some (.int k (O5 k (a+b)))) none
 | .sub=>cond (Ft k k') (some (.int k (O5 k (a-b)))) none
 | .mul=>cond (Ft k k') (some (.int k (O5 k (a*b)))) none
 | .lss=>cond (Ft k k') (some (.bool (rF a b))) none
 | .leq=>cond (Ft k k') (some (.bool (!rF b a))) none
 | .gtr=>cond (Ft k k') (some (.bool (rF b a))) none
 | .geq=>cond (Ft k k') (some (.bool (!rF a b))) none
 | .eql=>cond (Ft k k') (some (.bool (rG a b))) none
 | .neq=>cond (Ft k k') (some (.bool (!rG a b))) none
 |op=>match binOp op t (.int k a) (.int k' b)with
  | .pure v=>cond (ground 1 v) (some v) none
  |_=>none
theorem Xo{op:BinOp}{t:TypeId}{k k':IntKind}{a b:Int}{v:Value}(h:hO op t k a k' b=some v):binOp op t (.int k a) (.int k' b)= .pure v∧ground 1 v=true:=by
 have arith: ∀{u:Value},cond (Ft k k') (some u) none=some v→k=k'∧u=v:=fun h=>by
  cases e:Ft k k' with
  |false=>rw[e]at h; cases h
  |true=>rw[e]at h; exact⟨Rz e,As h⟩
 have other:(match binOp op t (.int k a) (.int k' b)with| .pure v=>cond (ground 1 v) (some v) none|_=>none)=some v→binOp op t (.int k a) (.int k' b)= .pure v∧ground 1 v=true:=fun h=>by
  split at h
  ·rename_i u hu;cases e:ground 1 u with
   |false=>rw[e]at h; cases h
   |true =>
    rw[e]at h;have h:=As h;subst h;exact⟨hu,e⟩
  ·cases h
 cases op with
 |add=>obtain⟨rfl,rfl⟩:=arith h; exact⟨by rw[L5]; simp[binOp,Op.intArith]; rfl,rfl⟩
 |sub=>obtain⟨rfl,rfl⟩:=arith h; exact⟨by rw[L5]; simp[binOp,Op.intArith]; rfl,rfl⟩
 |mul=>obtain⟨rfl,rfl⟩:=arith h; exact⟨by rw[L5]; simp[binOp,Op.intArith]; rfl,rfl⟩
 |lss=>obtain⟨rfl,rfl⟩:=arith h; exact⟨by rw[Te]; simp[binOp,Op.intCmp]; rfl,rfl⟩
 |gtr=>obtain⟨rfl,rfl⟩:=arith h; exact⟨by rw[Te]; simp[binOp,Op.intCmp]; rfl,rfl⟩
 |leq=>obtain⟨rfl,rfl⟩:=arith h; exact⟨by rw[Te, ← decide_not]; simp only[Int.not_lt]; simp[binOp,Op.intCmp]; rfl,rfl⟩
 |geq=>obtain⟨rfl,rfl⟩:=arith h; exact⟨by rw[Te, ← decide_not]; simp only[Int.not_lt]; simp[binOp,Op.intCmp]; rfl,rfl⟩
 |eql=>obtain⟨rfl,rfl⟩:=arith h; exact⟨by rw[Yf]; simp[binOp,Op.intCmp]; rfl,rfl⟩
 |neq=>obtain⟨rfl,rfl⟩:=arith h; exact⟨by rw[Yf]; simp[binOp,Op.intCmp]; rfl,rfl⟩
 |_=>exact other h
section
variable{P:Program}{ty:DD}{ρ:Ah}{pf:PF}{fr:Frame}{H:PH}{c:Ctx}{w:World}
theorem Oe{hn:Nat}{o:Oper}(h:CJ H.ng ρ pf fr o)(hH:HR ρ H c w)(AO:CK c w){op:BinOp}{t t':TypeId}{x y:Operand}(ho:o.op= .binOp op t x y t'){k k':IntKind}{a b:Int}(hx:AQ H.ng pf x=some (.int k a))(hy:AQ H.ng pf y=some (.int k' b)){v:Value}
  (hp:hO op t k a k' b=some v):Sound P ρ hn v H c w (execOp fr.eval o):=by
 have h1:=h x (by simp[ho,Op.operands]) _ hx;have h2:=h y (by simp[ho,Op.operands]) _ hy;obtain⟨hb,hg⟩:=Xo hp;generalize e1:fr.eval x=u1 at h1;generalize e2:fr.eval y=u2 at h2;cases h1;cases h2;refine Sound.pure hH AO (B5 1 hg) ?_;unfold execOp;rw[ho];simp only[e1,e2];have hq:eqGuard op t x y (.int k a) (.int k' b)= .pure ():=by
  unfold eqGuard;cases op<;>rfl
 rw[hq,hb];rfl
theorem aI{hn:Nat}{o:Oper}(h:CJ H.ng ρ pf fr o)(hH:HR ρ H c w)(AO:CK c w){t:TypeId}{x:Operand}(ho:o.op= .unOp .not t x){b:Bool}(hx:AQ H.ng pf x=some (.bool b)):Sound P ρ hn (.bool !b) H c w (execOp fr.eval o):=by
 have h1:=h x (by simp[ho,Op.operands]) _ hx;generalize e1:fr.eval x=u1 at h1;cases h1;refine Sound.pure hH AO (.bool _) ?_;unfold execOp;rw[ho];simp only[e1];rfl
theorem Ml{hn:Nat}(A7:A8 P ty){o:Oper}(h:CJ H.ng ρ pf fr o)(hH:HR ρ H c w)(AO:CK c w){s t:TypeId}{x:Operand}(ho:o.op= .convert s t x){is it:TypeInfo}{ds:TypeDesc}{k k':IntKind}{a:Int}(hs:ty.get s=some (is,ds))(ht:ty.get t=some (it,.int k))(hx:AQ H.ng pf x=some (.int k' a)) :
  Sound P ρ hn (.int k (O5 k a)) H c w (execOp fr.eval o):=by
 have h1:=h x (by simp[ho,Op.operands]) _ hx;generalize e1:fr.eval x=u1 at h1;cases h1;have R5:=(A7 _ _ hs).2;have dw:=(A7 _ _ ht).2;refine Sound.val hH AO (.int _ _) (s:=Go.convert s t (.int k' a)) (by unfold execOp; rw[ho]; simp only[e1]; rfl) ?_;unfold Go.convert;refine(AB (s:=underlying s) (Aa R5)).trans ?_;refine(AB (s:=underlying t) (Aa dw)).trans ?_;rw[L5];cases ds<;>rfl
end
def PJ(cs:List Value)(off:Nat)(v:List Value):List Value:=cs.take off++(v++cs.drop (off+v.length))
def Qi(place:Nat→Option (Nat×Nat))(ps:List (Nat×Value)):List Value→Option (List Value) :=
 List.rec (motive:=fun _=>List Value→Option (List Value)) (fun cs=>some cs) (fun p _ ih cs=>match place p.1 with
  |some (off,size)=>cond (Nat.beq p.2.cells.toList.length size) (cond (Nat.ble (off+p.2.cells.toList.length) cs.length) (ih (PJ cs off p.2.cells.toList)) none) none
  |none=>none) ps
theorem gK{cs v:List Value}{off:Nat}(h:off+v.length≤cs.length):(PJ cs off v).length=cs.length:=by
 simp only[PJ,List.length_append,List.length_take,List.length_drop];omega
theorem R9: ∀(l:List Value) (k off:Nat) (cs:Array Value),off+k+l.length≤cs.size→
  ((l.zipIdx k).foldl (fun cs (x:Value×Nat)=>cs.setIfInBounds (off+x.2) x.1) cs).toList=cs.toList.take (off+k)++(l++cs.toList.drop (off+k+l.length))
 | [],k,off,cs,_=>by simp
 |v::l,k,off,cs,h=>by
  simp only[Dv]at h;rw[List.zipIdx_cons,List.foldl_cons,R9 l (k+1) off _ (by simp only[Array.size_setIfInBounds]; omega)];simp only[Array.toList_setIfInBounds,Dv];have Ac:off+k<cs.toList.length:=by simp; omega
  rw[← Bf,List.take_set,List.drop_set,AD (by omega)];have e1:(cs.toList.take (off+k+1)).set (off+k) v=cs.toList.take (off+k)++ [v]:=by
   rw[List.take_add_one,EE Ac,Option.toList_some];have hl:(cs.toList.take (off+k)).length=off+k:=by rw[List.length_take]; omega
   rw[List.set_append_right _ _ (by omega),hl,Nat.sub_self];rfl
  rw[e1];simp only[List.append_assoc,List.cons_append,List.nil_append];rw[show off+k+1+l.length=off+k+(l.length+1) by omega]
theorem J8{ρ:Ah}(place:Nat→Option (Nat×Nat)): ∀{ps ps':List (Nat×Value)},ps.map (·.1)=ps'.map (·.1)→CE ρ (ps.map (·.2)) (ps'.map (·.2))→∀{cs:List Value} {cs':Array Value},CE ρ cs cs'.toList→∀{r:List Value},Qi place ps cs=some r→
  ∃r',Instr.fill place cs' ps'=some r'∧CE ρ r r'.toList
 | [],[],_,_,cs,cs',hc,r,h=>by
  have:cs=r:=As h;subst this;exact⟨cs',rfl,hc⟩
 | [],p::ps',h,_,_,_,_,_,_=>by simp at h
 |p::ps,[],h,_,_,_,_,_,_=>by simp at h
 |(i,v)::ps,(i',v')::ps',hi,hv,cs,cs',hc,r,h=>by
  simp only[Du,List.cons.injEq]at hi;obtain⟨rfl,hi⟩:=hi;simp only[Du]at hv;cases hv with
  |cons hv Zk =>
   have h:(match place i with
    |some (off,size)=>cond (Nat.beq v.cells.toList.length size) (cond (Nat.ble (off+v.cells.toList.length) cs.length) (Qi place ps (PJ cs off v.cells.toList)) none) none
    |none=>none)=some r:=h
   cases hp:place i with
   |none=>rw[hp]at h; cases h
   |some x =>
    obtain⟨off,size⟩:=x;rw[hp]at h;simp only at h;cases e1:Nat.beq v.cells.toList.length size with
    |false=>rw[e1]at h; cases h
    |true =>
     rw[e1]at h;simp only[AG]at h;cases e2:Nat.ble (off+v.cells.toList.length) cs.length with
     |false=>rw[e2]at h; cases h
     |true =>
      rw[e2]at h;simp only[AG]at h;have e1:=AJ e1;have e2:=AH e2;have rK:=VR.cells hv;have lv:=rK.length;have lc:=hc.length;simp only[FC]at lv lc e1 e2;have key:(v'.cells.zipIdx.foldl (fun cs (x:Value×Nat)=>cs.setIfInBounds (off+x.2) x.1) cs').toList=cs'.toList.take off++(v'.cells.toList++cs'.toList.drop (off+v'.cells.toList.length)):=by
       rw[← Array.foldl_toList,Array.toList_zipIdx];exact R9 v'.cells.toList 0 off cs' (by simp; omega)
      have hs:CE ρ (PJ cs off v.cells.toList) (v'.cells.zipIdx.foldl (fun cs (x:Value×Nat)=>cs.setIfInBounds (off+x.2) x.1) cs').toList:=by
       rw[key];refine(hc.take off).append (rK.append ?_);have:off+v.cells.toList.length=off+v'.cells.toList.length:=by simp; omega
       rw[this];exact hc.drop _
      obtain⟨r',q1,q2⟩:=J8 place hi Zk hs h;refine⟨r', ?_,q2⟩;show(match place i with
       |none=>none
       |some (off,size)=>if v'.cells.size≠size||off+v'.cells.size>cs'.size then none else Instr.fill place (v'.cells.zipIdx.foldl (fun cs (c,j)=>cs.setIfInBounds (off+j) c) cs') ps')=_
      rw[hp];have hb:(v'.cells.size≠size||decide (off+v'.cells.size>cs'.size))=false:=by
       simp; omega
      simp only[hb];exact q1
section
variable{P:Program}{ty:DD}{ρ:Ah}{pf:PF}{fr:Frame}{H:PH}{c:Ctx}{w:World}
theorem Jg{α β:Type}{f:α→Sem β}{g:α→β}: ∀(l:List α) (es:Array Event),(∀x∈l,∀es,(f x).runT P w es=(.ok (g x) w,es))→(l.mapM f).runT P w es=(.ok (l.map g) w,es)
 | [],es,_=>by rw[List.mapM_nil]; rfl
 |a::l,es,h=>by
  rw[List.mapM_cons];refine(AB (s:=f a) (h a (by simp) es)).trans ?_;refine(AB (s:=l.mapM f) (Jg l es fun x hx=>h x (by simp[hx]))).trans ?_;rfl
theorem Z9{α β:Type}{f:α→Sem β}{g:α→β}(a:Array α)(es:Array Event)(h: ∀x∈a.toList,∀es,(f x).runT P w es=(.ok (g x) w,es)):(a.mapM f).runT P w es=(.ok (a.map g) w,es):=by
 rw[Array.mapM_eq_mapM_toList];have h1:=Jg (P:=P) (w:=w) a.toList es h;show((a.toList.mapM f).bind fun x=>Sem.pure x.toArray).runT P w es=_;rw[AB h1];simp only[Sem.runT]
 congr 2
 apply Array.ext'; simp
def Eg(ty:DD)(t:TypeId):Option Nat:=match ty.get t with|some (i,_)=>some i.size|none=>none
theorem Ef(A7:A8 P ty){t:TypeId}{n:Nat}(h:Eg ty t=some n)(es:Array Event):(sizeOf t).runT P w es=(.ok n w,es):=by
 unfold Eg at h;cases e:ty.get t with
 |none=>rw[e]at h; cases h
 |some x =>
  rw[e]at h;simp only[AE]at h;subst h;exact runT_size (A7 t _ e).1
def KO(ty:DD)(fs:List Field):Option (List (Nat×Nat)) :=
 List.rec (motive:=fun _=>Option (List (Nat×Nat))) (some []) (fun f _ ih=>match Eg ty f.type with
  |some n=>match ih with
   |some l=>some ((f.offset,n)::l)
   |none=>none
  |none=>none) fs
theorem Pe: ∀{fs:List Field} {l:List (Nat×Nat)},KO ty fs=some l→l=fs.map (fun f=>(f.offset,(Eg ty f.type).getD 0))∧∀f∈fs,∃n,Eg ty f.type=some n
 | [],l,h=>by
  have:l= []:=(As h).symm;subst this;exact⟨rfl,fun f hf=>by cases hf⟩
 |f::fs,l,h=>by
  have h:(match Eg ty f.type with
   |some n=>match KO ty fs with
    |some l=>some ((f.offset,n)::l)
    |none=>none
   |none=>none)=some l:=h
  cases e1:Eg ty f.type with
  |none=>rw[e1]at h; cases h
  |some n =>
   rw[e1]at h;simp only at h;cases e2:KO ty fs with
   |none=>rw[e2]at h; cases h
   |some l' =>
    rw[e2]at h;simp only[AE]at h;subst h;obtain⟨h1,h2⟩:=Pe e2;refine⟨by rw[Du,e1,h1]; rfl,fun f' hf=> ?_⟩;rcases AZ.1 hf with rfl|hf
    ·exact⟨n,e1⟩
    ·exact h2 f' hf
theorem U6(A7:A8 P ty){fs:Array Field}{l:List (Nat×Nat)}(h:KO ty fs.toList=some l)(es:Array Event) :
  (fs.mapM fun f=>(do pure (f.offset, ← sizeOf f.type):Sem (Nat×Nat))).runT P w es=(.ok l.toArray w,es):=by
 obtain⟨h1,h2⟩:=Pe h;have:=Z9 (P:=P) (w:=w) (f:=fun f:Field=>(do pure (f.offset, ← sizeOf f.type):Sem (Nat×Nat))) (g:=fun f=>(f.offset,(Eg ty f.type).getD 0)) fs es fun f hf es=>by
  obtain⟨n,hn⟩:=h2 f hf;show((sizeOf f.type).bind fun n=>Sem.pure (f.offset,n)).runT P w es=_;rw[AB (Ef A7 hn es),hn];rfl
 rw[this,h1]
 congr 2
 apply Array.ext';simp
def Io(ng:Nat)(pf:PF)(l:List (Nat×Operand)):Option (List (Nat×Value)) :=
 List.rec (motive:=fun _=>Option (List (Nat×Value))) (some []) (fun x _ ih=>match AQ ng pf x.2 with
  |some v=>match ih with
   |some l=>some ((x.1,v)::l)
   |none=>none
  |none=>none) l
theorem KP{ng:Nat}{o:Oper}(h:CJ ng ρ pf fr o): ∀{l:List (Nat×Operand)} {vs:List (Nat×Value)},(∀x∈l,x.2∈o.op.operands)→Io ng pf l=some vs→vs.map (·.1)=(l.map fun x=>(x.1,fr.eval x.2)).map (·.1)∧CE ρ (vs.map (·.2)) ((l.map fun x=>(x.1,fr.eval x.2)).map (·.2))
 | [],vs,_,hp=>by
  have:vs= []:=(As hp).symm;subst this;exact⟨rfl,.nil⟩
 |x::l,vs,hm,hp=>by
  have hp:(match AQ ng pf x.2 with
   |some v=>match Io ng pf l with
    |some l=>some ((x.1,v)::l)
    |none=>none
   |none=>none)=some vs:=hp
  cases e1:AQ ng pf x.2 with
  |none=>rw[e1]at hp; cases hp
  |some v =>
   rw[e1]at hp;simp only at hp;cases e2:Io ng pf l with
   |none=>rw[e2]at hp; cases hp
   |some us =>
    rw[e2]at hp;simp only[AE]at hp;subst hp;obtain⟨h1,h2⟩:=KP h (fun y hy=>hm y (by simp[hy])) e2;exact⟨by simp only[Du]; rw[h1],.cons (h x.2 (hm x (by simp)) v e1) h2⟩
def Xn(ty:DD)(t:TypeId)(ps:List (Nat×Value)):Option Value :=
 match ty.get t with
 |some (i,d)=>match i.zero with
  |some z=>cond (ground 6 z) (match d with
   | .struct fs=>match KO ty fs.toList with
    |some l=>match Qi (fun k=>l[k]?) ps z.cells.toList with
     |some r=>some (.agg r.toArray)
     |none=>none
    |none=>none
   | .array _ elem=>match Eg ty elem with
    |some n=>match Qi (fun k=>some (k*n,n)) ps z.cells.toList with
     |some r=>some (.agg r.toArray)
     |none=>none
    |none=>none
   |_=>none) none
  |none=>none
 |none=>none
theorem FQ(A7:A8 P ty){t:TypeId}{i:TypeInfo}{d:TypeDesc}(h:ty.get t=some (i,d)){z:Value}(hz:i.zero=some z)(es:Array Event):(zeroValue t).runT P w es=(.ok z w,es):=by
 show((typeInfo t).bind fun i=>match i.zero with|some v=>pure v|none=>unsupported (.resourceLimit "a value of more than 2^22 cells")).runT P w es=_;rw[AB (B6 (A7 t _ h).1),hz];rfl
theorem Wv{hn:Nat}{o:Oper}(A7:A8 P ty)(h:CJ H.ng ρ pf fr o)(hH:HR ρ H c w)(AO:CK c w){t:TypeId}{parts:Array (Nat×Operand)}(ho:o.op= .build t parts){ps:List (Nat×Value)}(hx:Io H.ng pf parts.toList=some ps){v:Value}(hp:Xn ty t ps=some v) :
  Sound P ρ hn v H c w (execOp fr.eval o):=by
 obtain⟨h1,h2⟩:=KP h (fun x hx=>by rw[ho]; simp[Op.operands]; exact⟨x.1,by simpa using hx⟩) hx;unfold Xn at hp;cases e1:ty.get t with
 |none=>rw[e1]at hp; cases hp
 |some x =>
  obtain⟨i,d⟩:=x;rw[e1]at hp;simp only at hp;cases e2:i.zero with
  |none=>rw[e2]at hp; cases hp
  |some z =>
   rw[e2]at hp;simp only at hp;cases e3:ground 6 z with
   |false=>rw[e3]at hp; cases hp
   |true =>
    rw[e3]at hp;simp only[AG]at hp;have hz:CE ρ z.cells.toList z.cells.toList:=VR.cells (B5 6 e3);have base: ∀{s:Sem Value} {v':Value},(Instr.build t (parts.map fun(i,x)=>(i,fr.eval x)))=s→s.runT P w #[]=(.ok v' w,#[])→VR ρ v v'→Sound P ρ hn v H c w (execOp fr.eval o):=fun e hr hv=>by
     subst e;exact Sound.val hH AO hv (s:=Instr.build t (parts.map fun(i,x)=>(i,fr.eval x))) (by unfold execOp; rw[ho]; rfl) hr
    have Yk:(parts.map fun(i,x)=>(i,fr.eval x)).toList=parts.toList.map fun x=>(x.1,fr.eval x.2):=by simp
    split at hp
    ·rename_i fs;cases e4:KO ty fs.toList with
     |none=>rw[e4]at hp; cases hp
     |some l =>
      rw[e4]at hp;simp only at hp;split at hp
      ·rename_i r e5;simp only[AE]at hp;subst hp;obtain⟨r',q1,q2⟩:=J8 (fun k=>l[k]?) h1 h2 hz e5;refine base rfl (v':= .agg r') ?_ (.agg (by simpa using q2));unfold Instr.build;refine(AB (s:=zeroValue t) (FQ A7 e1 e2 _)).trans ?_;refine(AB (s:=underlying t) (Aa (A7 _ _ e1).2)).trans ?_;refine(AB (U6 A7 e4 _)).trans ?_;have gM:Instr.fill (fun x=>l.toArray[x]?) z.cells (parts.map fun(i,x)=>(i,fr.eval x)).toList=some r':=by
        rw[Yk, ← q1]
        congr 1
        funext k;simp
       simp only[gM];rfl
      ·cases hp
    ·rename_i len elem;cases e4:Eg ty elem with
     |none=>rw[e4]at hp; cases hp
     |some n =>
      rw[e4]at hp;simp only at hp;split at hp
      ·rename_i r e5;simp only[AE]at hp;subst hp;obtain⟨r',q1,q2⟩:=J8 (fun k=>some (k*n,n)) h1 h2 hz e5;refine base rfl (v':= .agg r') ?_ (.agg (by simpa using q2));unfold Instr.build;refine(AB (s:=zeroValue t) (FQ A7 e1 e2 _)).trans ?_;refine(AB (s:=underlying t) (Aa (A7 _ _ e1).2)).trans ?_;refine(AB (Ef A7 e4 _)).trans ?_;simp only[Yk,q1];rfl
      ·cases hp
    ·cases hp
def SO(z:Value)(n:Nat):List Value:=(List.range n).map fun k=>z.cells[k%z.cells.size]!
theorem CE.Sk{l:List Value}(h: ∀v∈l,VR ρ v v):CE ρ l l:=by
 induction l with
 |nil=>exact .nil
 |cons a l ih=>exact .cons (h a (by simp)) (ih fun v hv=>h v (by simp[hv]))
theorem CE.mem: ∀{l l':List Value},CE ρ l l'→l=l'→∀v∈l,VR ρ v v
 |_,_,.nil,_,v,hv=>by cases hv
 |a::l,b::l',.cons h t,e,v,hv=>by
  simp only[List.cons.injEq]at e;rcases AZ.1 hv with rfl|hv
  ·have:=e.1; subst this; exact h
  ·exact CE.mem t e.2 v hv
theorem O4{z:Value}(hg:ground 6 z=true)(n:Nat):CE ρ (SO z n) (SO z n):=by
 refine CE.Sk fun v hv=> ?_;obtain⟨k,hk,rfl⟩:=Bd.1 hv;have hz:CE ρ z.cells.toList z.cells.toList:=VR.cells (B5 6 hg);by_cases hs:k%z.cells.size<z.cells.size
 ·rw[getElem!_pos z.cells _ hs];exact CE.mem hz rfl _ (by simp)
 ·rw[getElem!_neg z.cells _ hs];exact .bool _
def Jq(ty:DD)(H:PH)(t:TypeId)(len:Nat)(ps:List (Nat×Value)):Option (Value×PH) :=
 match ty.get t with
 |some (_,.slice elem)=>match ty.get elem with
  |some (i,_)=>cond (Nat.ble (len*i.size) 16777216&&Nat.blt len HN) (match(cond (Nat.beq (len*i.size) 0) (some []) (match i.zero with|some z=>cond (ground 6 z) (some (SO z (len*i.size))) none|none=>none))with
   |some cs=>match Qi (fun k=>some (k*i.size,i.size)) ps cs with
    |some r=>match U7 H r elem i.size with
     |some H'=>some (.slice (some ⟨H.next,0,none⟩) len len,H')
     |none=>none
    |none=>none
   |none=>none) none
  |none=>none
 |_=>none
theorem NY{o:Oper}(A7:A8 P ty)(h:CJ H.ng ρ pf fr o)(hH:HR ρ H c w)(AO:CK c w){t:TypeId}{len:Nat}{parts:Array (Nat×Operand)}(ho:o.op= .buildSlice t len parts){ps:List (Nat×Value)}(hx:Io H.ng pf parts.toList=some ps){v:Value}{H':PH}(hp:Jq ty H t len ps=some (v,H')) :
  Sound P ρ H.next v H' c w (execOp fr.eval o):=by
 obtain⟨h1,h2⟩:=KP h (fun x hx=>by rw[ho]; simp[Op.operands]; exact⟨x.1,by simpa using hx⟩) hx;unfold Jq at hp;split at hp
 ·rename_i i0 elem e1;split at hp
  ·rename_i i d e2;cases oi:Nat.ble (len*i.size) 16777216&&Nat.blt len HN with
   |false=>rw[oi]at hp; cases hp
   |true =>
    rw[oi]at hp;obtain⟨e3,e31⟩:=Bj.1 oi;have hnb:len≠HN:=fun e=>by
     have:=AH e31;omega
    simp only[AG]at hp;split at hp
    ·rename_i cs e4;have NN:CE ρ cs cs∧∀es,(if len*i.size=0 then pure #[]else do pure (← zeroValue elem).cells:Sem (Array Value)).runT P w es=(.ok (if len*i.size=0 then #[]else(i.zero.getD undef).cells) w,es)∧
       ((Array.range (len*i.size)).map fun k=>(if len*i.size=0 then #[]else(i.zero.getD undef).cells)[k%(if len*i.size=0 then #[]else(i.zero.getD undef).cells).size]!).toList=cs:=by
      cases e5:Nat.beq (len*i.size) 0 with
      |true =>
       rw[e5]at e4;have e4:=As e4;subst e4;have e5:=AJ e5;exact⟨.nil,fun es=>⟨by simp only[e5,Ad]; rfl,by simp[e5]⟩⟩
      |false =>
       rw[e5]at e4;have e5:=Bl e5;cases e6:i.zero with
       |none=>rw[e6]at e4; cases e4
       |some z =>
        rw[e6]at e4;simp only[Av]at e4;cases e7:ground 6 z with
        |false=>rw[e7]at e4; cases e4
        |true =>
         rw[e7]at e4;have e4:=As e4;subst e4;refine⟨O4 e7 _,fun es=>⟨?_, ?_⟩⟩
         ·simp only[AA e5];refine(AB (s:=zeroValue elem) (FQ A7 e2 e6 _)).trans ?_;rfl
         ·simp only[AA e5,Option.getD_some];simp[SO]
     split at hp
     ·rename_i r e5;split at hp
      ·rename_i H'' e6;simp only[AE,AR]at hp;obtain⟨rfl,rfl⟩:=hp;have Yk:(parts.map fun(i,x)=>(i,fr.eval x)).toList=parts.toList.map fun x=>(x.1,fr.eval x.2):=by simp
       obtain⟨r',q1,q2⟩:=J8 (fun k=>some (k*i.size,i.size)) h1 h2 (cs':=(Array.range (len*i.size)).map fun k=>(if len*i.size=0 then #[]else(i.zero.getD undef).cells)[k%(if len*i.size=0 then #[]else(i.zero.getD undef).cells).size]!) (by rw[(NN.2 #[]).2]; exact NN.1) e5;refine Sound.alloc hH AO q2 e6 (v':= .slice (some ⟨w.heap.size,0,none⟩) len len) (.sl (a:=⟨H.next,0,none⟩) (B:=⟨w.heap.size,r.length,i.size⟩) (Cy _ _ _) (.inl ⟨hnb,rfl⟩)) ?_;unfold execOp;rw[ho];show((Instr.buildSlice t len (parts.map fun(i,x)=>(i,fr.eval x))).bind fun r=>Sem.pure (Next.value r)).runT P w #[]=_;have key:(Instr.buildSlice t len (parts.map fun(i,x)=>(i,fr.eval x))).runT P w #[]=(.ok (.slice (some ⟨w.heap.size,0,none⟩) len len) (World.grow w (.cells r'.toList.toArray elem)),#[]):=by
        unfold Instr.buildSlice;refine(AB (s:=underlying t) (Aa (A7 _ _ e1).2)).trans ?_;refine(AB (runT_size (A7 _ _ e2).1)).trans ?_;have hle:=AH e3;simp only[AA (show ¬len*i.size>2^24 by simp; omega)];have AT:=(NN.2 #[]).1;by_cases h0:len*i.size=0
        ·simp only[AD h0]at AT q1 ⊢;refine(AB (s:=(pure #[]:Sem (Array Value))) AT).trans ?_;simp only[Yk,q1];simp only[E3];rfl
        ·simp only[AA h0]at AT q1 ⊢;have Gl:((zeroValue elem).bind fun z=>Sem.pure z.cells).runT P w #[]=(.ok (i.zero.getD undef).cells w,#[]):=AT;rw[BT]at Gl;show((zeroValue elem).bind fun z=>_).runT P w #[]=_;rw[BT];cases hz:(zeroValue elem).runT P w #[]with
         |mk r0 kV =>
          rw[hz]at Gl;cases r0 with
          |halt hh ww=>simp at Gl
          |ok z0 w0 =>
           simp only[Sem.runT,AR,Result.ok.injEq]at Gl;obtain⟨⟨g1,g2⟩,g3⟩:=Gl;subst g2 g3;simp only
           refine(AB (s:=(pure z0.cells:Sem (Array Value))) (a:=z0.cells) (w':=w0) (es':= #[]) rfl).trans ?_;rw[g1];simp only[Yk,q1];simp only[E3];rfl
       rw[AB key];rfl
      ·cases hp
     ·cases hp
    ·cases hp
  ·cases hp
 ·cases hp
end
def yO(v:Option Value):Option (Option Nat) :=
 match v with
 |none=>some none
 |some (.int _ (.ofNat n))=>some (some n)
 |_=>none
def Pf(ng:Nat)(pf:PF)(x:Option Operand):Option (Option Nat) :=
 match x with
 |none=>some none
 |some x=>match AQ ng pf x with
  |some (.int _ (.ofNat n))=>some (some n)
  |_=>none
def aG(lo:Option Nat)(h m:Nat):Option (Nat×Nat×Nat) :=
 match lo with
 |some l=>cond (Nat.ble l h) (some (l,h,m)) none
 |none=>some (0,h,m)
def FF(len cap:Nat)(lo hi mx:Option Nat):Option (Nat×Nat×Nat) :=
 match mx with
 |some m=>match hi with
  |some h=>cond (Nat.ble m cap) (cond (Nat.ble h m) (aG lo h m) none) none
  |none=>none
 |none=>match hi with
  |some h=>cond (Nat.ble h cap) (aG lo h cap) none
  |none=>aG lo len cap
theorem HK{lo:Option Nat}{h0 m0 l h m:Nat}(hl:aG lo h0 m0=some (l,h,m)):h0=h∧m0=m∧l≤h∧((lo=none∧l=0)∨lo=some l)∧∀m1,aG lo h0 m1=some (l,h,m1):=by
 unfold aG at hl ⊢;cases lo with
 |none =>
  simp only[AE,AR]at hl;obtain⟨rfl,rfl,rfl⟩:=hl;exact⟨rfl,rfl,Nat.zero_le _,.inl ⟨rfl,rfl⟩,fun _=>rfl⟩
 |some l' =>
  simp only at hl;cases e:Nat.ble l' h0 with
  |false=>rw[e]at hl; cases hl
  |true =>
   rw[e]at hl;simp only[AG,AE,AR]at hl;obtain⟨rfl,rfl,rfl⟩:=hl;exact⟨rfl,rfl,AH e,.inr rfl,fun _=>by simp only[e,AG]⟩
section
variable{P:Program}{ty:DD}{ρ:Ah}{pf:PF}{fr:Frame}{H:PH}{c:Ctx}{w:World}
theorem IK{ng:Nat}{o:Oper}(h:CJ ng ρ pf fr o){x:Option Operand}{n:Option Nat}(hm: ∀y,x=some y→y∈o.op.operands)(hp:Pf ng pf x=some n):(x=none∧n=none)∨∃k m,x.map fr.eval=some (.int k (Int.ofNat m))∧n=some m:=by
 cases x with
 |none=>exact .inl ⟨rfl,(As hp).symm⟩
 |some x =>
  unfold Pf at hp;simp only at hp;split at hp
  ·rename_i k m e;have:=h x (hm x rfl) _ e;generalize C6:fr.eval x=u at this;cases this;exact .inr ⟨k,m,by simp[C6],(As hp).symm⟩
  ·cases hp
theorem Fo{k:IntKind}{n y:Nat}{code:BoundsCode}(h:n≤y)(es:Array Event):(Instr.sliceBound (.int k (Int.ofNat n)) y code).runT P w es=(.ok n w,es):=by
 unfold Instr.sliceBound;refine(AB (s:=asIntOf (.int k (Int.ofNat n))) (a:=(k,Int.ofNat n)) (w':=w) (es':=es) rfl).trans ?_;simp only
 rw[AD ⟨Int.natCast_nonneg n,by simp only[Gf]; omega⟩];rfl
theorem Sf{β:Type}{low:Option Value}{lo:Option Nat}(h1:(low=none∧lo=none)∨∃k m,low=some (.int k (Int.ofNat m))∧lo=some m){l h:Nat}{code:BoundsCode}(hl:(lo=none∧l=0)∨lo=some l)(hle:l≤h)(k:Nat→Sem β)(es:Array Event) :
  (match(generalizing:=false) low with
   |some v=>(Instr.sliceBound v h code).bind k
   |none=>(Sem.pure 0).bind k).runT P w es=(k l).runT P w es:=by
 rcases h1 with⟨rfl,rfl⟩|⟨k,m',rfl,rfl⟩
 ·rcases hl with⟨_,rfl⟩|hl
  ·rfl
  ·cases hl
 ·rcases hl with⟨hl,_⟩|hl
  ·cases hl
  ·cases hl;exact AB (Fo hle es)
theorem JD{b:Bool}{len cap:Nat}{low high max:Option Value}{lo hi mx:Option Nat}(h1:(low=none∧lo=none)∨∃k m,low=some (.int k (Int.ofNat m))∧lo=some m)(h2:(high=none∧hi=none)∨∃k m,high=some (.int k (Int.ofNat m))∧hi=some m)(h3:(max=none∧mx=none)∨∃k m,max=some (.int k (Int.ofNat m))∧mx=some m)
  {l h m:Nat} (hp:FF len cap lo hi mx=some (l,h,m)) (es:Array Event):(Instr.sliceBounds b len cap low high max).runT P w es=(.ok (l,h,m) w,es):=by
 unfold Instr.sliceBounds;unfold FF at hp;rcases h3 with⟨rfl,rfl⟩|⟨k3,m3,rfl,rfl⟩
 ·simp only at hp;refine(AB (s:=(pure cap:Sem Nat)) (a:=cap) (w':=w) (es':=es) rfl).trans ?_;rcases h2 with⟨rfl,rfl⟩|⟨k2,m2,rfl,rfl⟩
  ·simp only at hp;refine(AB (s:=(pure len:Sem Nat)) (a:=len) (w':=w) (es':=es) rfl).trans ?_;obtain⟨rfl,rfl,g1,g2,_⟩:=HK hp;refine(Sf h1 g2 g1 (fun l=>Sem.pure (l,_,_)) es).trans ?_;rfl
  ·simp only at hp;cases e:Nat.ble m2 cap with
   |false=>rw[e]at hp; cases hp
   |true =>
    rw[e]at hp;simp only[AG]at hp;refine(AB (Fo (AH e) es)).trans ?_;obtain⟨rfl,rfl,g1,g2,_⟩:=HK hp;refine(Sf h1 g2 g1 (fun l=>Sem.pure (l,_,_)) es).trans ?_;rfl
 ·simp only at hp;rcases h2 with⟨rfl,rfl⟩|⟨k2,m2,rfl,rfl⟩
  ·cases hp
  ·simp only at hp;cases e:Nat.ble m3 cap with
   |false=>rw[e]at hp; cases hp
   |true =>
    rw[e]at hp;simp only[AG]at hp;refine(AB (Fo (AH e) es)).trans ?_;cases e':Nat.ble m2 m3 with
    |false=>rw[e']at hp; cases hp
    |true =>
     rw[e']at hp;simp only[AG]at hp;refine(AB (Fo (AH e') es)).trans ?_;obtain⟨rfl,rfl,g1,g2,_⟩:=HK hp;refine(Sf h1 g2 g1 (fun l=>Sem.pure (l,_,_)) es).trans ?_;rfl
theorem Sz{len c':Nat}(hle:len≤c'){lo hi mx:Option Nat}{l h m:Nat}(hp:FF len len lo hi mx=some (l,h,m)):FF len c' lo hi mx=some (l,h,if mx.isSome then m else c')∧l≤h∧h≤len:=by
 unfold FF at hp ⊢;cases mx with
 |none =>
  simp only[Option.isSome_none,Bq,BS]at hp ⊢;cases hi with
  |none =>
   simp only at hp ⊢;obtain⟨rfl,rfl,h1,_,h2⟩:=HK hp;exact⟨h2 c',h1,AN _⟩
  |some h0 =>
   simp only at hp ⊢;cases e:Nat.ble h0 len with
   |false=>rw[e]at hp; cases hp
   |true =>
    rw[e]at hp;have e:=AH e;rw[E4 (A1 e hle)];simp only[AG]at hp ⊢;obtain⟨rfl,rfl,h1,_,h2⟩:=HK hp;exact⟨h2 c',h1,e⟩
 |some m0 =>
  simp only[Option.isSome_some,Ad]at hp ⊢;cases hi with
  |none=>cases hp
  |some h0 =>
   simp only at hp ⊢;cases e:Nat.ble m0 len with
   |false=>rw[e]at hp; cases hp
   |true =>
    rw[e]at hp;have e:=AH e;rw[E4 (A1 e hle)];simp only[AG]at hp ⊢;cases e':Nat.ble h0 m0 with
    |false=>rw[e']at hp; cases hp
    |true =>
     rw[e']at hp;simp only[AG]at hp ⊢;have e':=AH e';obtain⟨rfl,rfl,h1,_,h2⟩:=HK hp;exact⟨h2 _,h1,A1 e' e⟩
def Sp(H:PH)(size:Nat)(a:Option Addr)(len cap:Nat)(lo hi mx:Option Nat):Option Value :=
 match a with
 |none=>match FF len cap lo hi mx with
  |some (l,h,m)=>some (.slice none (h-l) (m-l))
  |none=>none
 |some a=>cond (Nat.beq cap HN)
  (match H.t.get a.block with
   |some (.cells _ _ _ es _ _ _ _)=>cond (Nat.beq es size) (match FF len len lo hi mx with
    |some (l,h,m)=>match mx with
     |some _=>cond (Nat.blt (m-l) HN) (some (.slice (some (cond (Nat.beq m l) a (a.add (l*size)))) (h-l) (m-l))) none
     |none=>cond (Nat.beq l 0) (some (.slice (some a) (h-l) HN)) (cond (Nat.blt l len) (some (.slice (some (a.add (l*size))) (h-l) HN)) none)
    |none=>none) none
   |_=>none)
  (match FF len cap lo hi mx with
   |some (l,h,m)=>cond (Nat.blt (m-l) HN) (some (.slice (some (cond (Nat.beq m l) a (a.add (l*size)))) (h-l) (m-l))) none
   |none=>none)
theorem ZB(a:Addr)(x:Nat):(a.add x).off=a.off+x:=by
 unfold Addr.add;by_cases e:x=0
 ·rw[AD e,e]; rfl
 ·rw[AA e]
theorem Wt(a:Addr)(b:Nat)(m l x:Nat):({(cond (Nat.beq m l) a (a.add x))with block:=b}:Addr)=if m=l then {a with block:=b}else({a with block:=b}:Addr).add x:=by
 rw[beq_eq];by_cases e:m=l
 ·rw[AD e]; simp[e]
 ·rw[AA e,decide_eq_false e]; exact(Nb a b x).symm
theorem Ws(a:Addr)(m l x:Nat):(cond (Nat.beq m l) a (a.add x)).block=a.block:=by
 cases Nat.beq m l
 ·exact UM a x
 ·rfl
theorem YT{n:Nat}(h:Nat.blt n HN=true):n≠HN:=fun e=>by
 have:=AH h;omega
theorem Uj{hn:Nat}{o:Oper}(A7:A8 P ty)(h:CJ H.ng ρ pf fr o)(hH:HR ρ H c w)(AO:CK c w){t elem:TypeId}{x:Operand}{lo hi mx:Option Operand}(ho:o.op= .slice t x lo hi mx){i ei:TypeInfo}{ed:TypeDesc}(e1:ty.get t=some (i,.slice elem))(e2:ty.get elem=some (ei,ed))
  {a:Option Addr} {len cap:Nat} (hx:AQ H.ng pf x=some (.slice a len cap)) {l h' m:Option Nat} (p1:Pf H.ng pf lo=some l) (p2:Pf H.ng pf hi=some h') (p3:Pf H.ng pf mx=some m) {v:Value} (hp:Sp H ei.size a len cap l h' m=some v):Sound P ρ hn v H c w (execOp fr.eval o):=by
 have hv:=h x (by simp[ho,Op.operands]) _ hx;have q1:=IK h (fun y hy=>by rw[ho]; simp[Op.operands,hy]) p1;have q2:=IK h (fun y hy=>by rw[ho]; simp[Op.operands,hy]) p2;have q3:=IK h (fun y hy=>by rw[ho]; simp[Op.operands,hy]) p3;have cv: ∀{z:Option Operand} {n:Option Nat},(z=none∧n=none)∨(∃k m,z.map fr.eval=some (.int k (Int.ofNat m))∧n=some m)→(z.map fr.eval=none∧n=none)∨(∃k m,z.map fr.eval=some (.int k (Int.ofNat m))∧n=some m):=fun hz=>by
  rcases hz with⟨rfl,hz⟩|hz
  ·exact .inl ⟨rfl,hz⟩
  ·exact .inr hz
 have fin: ∀(b:Option Addr) (c' l0 h0 m0:Nat) (v':Value),fr.eval x= .slice b len c'→FF len c' l h' m=some (l0,h0,m0)→v'= .slice (if m0=l0 then b else b.map (·.add (l0*ei.size))) (h0-l0) (m0-l0)→VR ρ v v'→Sound P ρ hn v H c w (execOp fr.eval o):=fun b c' l0 h0 m0 v' he hb UX hr=>by
  refine Sound.val hH AO hr (s:=Instr.sliceAt t (.slice b len c') (lo.map fr.eval) (hi.map fr.eval) (mx.map fr.eval)) (by unfold execOp; rw[ho]; simp only[he]; rfl) ?_;unfold Instr.sliceAt;refine(AB (s:=underlying t) (Aa (A7 _ _ e1).2)).trans ?_;simp only
  unfold Instr.slice;refine(AB (s:=underlying t) (Aa (A7 _ _ e1).2)).trans ?_;simp only
  refine(AB (JD (cv q1) (cv q2) (cv q3) hb _)).trans ?_;refine(AB (runT_size (A7 _ _ e2).1)).trans ?_;rw[UX];rfl
 unfold Sp at hp;generalize C6:fr.eval x=u at hv fin;cases a with
 |none =>
  cases hv;simp only at hp;split at hp
  ·rename_i l0 h0 m0 e;simp only[AE]at hp;subst hp;exact fin none cap l0 h0 m0 _ rfl e (by split<;>rfl) (.MC _ _)
  ·cases hp
 |some a =>
  cases hv with
  |sl hB hc =>
   rename_i B c';simp only at hp;have known: ∀(c0 l0 h0 m0:Nat),c0=c'→FF len c0 l h' m=some (l0,h0,m0)→cond (Nat.blt (m0-l0) HN) (some (Value.slice (some (cond (Nat.beq m0 l0) a (a.add (l0*ei.size)))) (h0-l0) (m0-l0))) none=some v→Sound P ρ hn v H c w (execOp fr.eval o):=fun c0 l0 h0 m0 ec e hp=>by
    subst ec;cases ebb:Nat.blt (m0-l0) HN with
    |false=>rw[ebb]at hp; cases hp
    |true =>
     rw[ebb]at hp;simp only[AG,AE]at hp;subst hp;refine fin _ c0 l0 h0 m0 (.slice (some {(cond (Nat.beq m0 l0) a (a.add (l0*ei.size)))with block:=B.blk}) (h0-l0) (m0-l0)) rfl e ?_ (.sl (a:=cond (Nat.beq m0 l0) a (a.add (l0*ei.size))) (by rw[Ws]; exact hB) (.inl ⟨YT ebb,rfl⟩));rw[Wt];by_cases e:m0=l0
     ·rw[AD e,AD e]
     ·rw[AA e,AA e]; rfl
   cases eb:Nat.beq cap HN with
   |false =>
    rw[eb]at hp;have BK:=Bl eb;have eh:c'=cap:=by
     rcases hc with hc|hc
     ·exact hc.2
     ·exact absurd hc.1 BK
    simp only[Av]at hp;split at hp
    ·rename_i l0 h0 m0 e;exact known _ _ _ _ eh.symm e hp
    ·cases hp
   |true =>
    rw[eb]at hp;simp only[AG]at hp;have ew:=AJ eb;obtain⟨-,hle,H3⟩:cap=HN∧len≤c'∧a.off+c'*B.es≤B.size:=by
     rcases hc with hc|hc
     ·exact absurd ew hc.1
     ·exact hc
    split at hp
    ·rename_i tr sz el es own fam ok D4 e3;have JJ:B.es=es:=by
      have:=hH.rel _ _ _ hB e3;cases this with
      |cells hs he=>exact he
     cases e4:Nat.beq es ei.size with
     |false=>rw[e4]at hp; cases hp
     |true =>
      rw[e4]at hp;simp only[AG]at hp;have e4:=AJ e4;split at hp
      ·rename_i l0 h0 m0 e5;obtain⟨w1,w2,w3⟩:=Sz hle e5;split at hp
       ·rename_i mm;exact known c' l0 h0 m0 rfl (by simpa using w1) hp
       ·simp only[Option.isSome_none,Bq,BS]at w1;cases e6:Nat.beq l0 0 with
        |true =>
         rw[e6]at hp;simp only[AG,AE]at hp;subst hp;have e6:=AJ e6;subst e6;refine fin _ c' 0 h0 c' (.slice (some {a with block:=B.blk}) (h0-0) c') rfl w1 ?_ (.sl hB (.inr ⟨rfl,by omega,H3⟩));have:({a with block:=B.blk}:Addr).add (0*ei.size)={a with block:=B.blk}:=by simp[Addr.add]
         have e0:(if c'=0 then some ({a with block:=B.blk}:Addr)else(some ({a with block:=B.blk}:Addr)).map (·.add (0*ei.size)))=some {a with block:=B.blk}:=by
          rw[Bc,this];split<;>rfl
         rw[e0];rfl
        |false =>
         rw[e6]at hp;simp only[Av]at hp;cases e7:Nat.blt l0 len with
         |false=>rw[e7]at hp; cases hp
         |true =>
          rw[e7]at hp;simp only[AG,AE]at hp;subst hp;have e7:l0<len:=AH e7;refine fin _ c' l0 h0 c' (.slice (some {a.add (l0*ei.size)with block:=B.blk}) (h0-l0) (c'-l0)) rfl w1 ?_ (.sl (a:=a.add (l0*ei.size)) (by rw[UM]; exact hB) (.inr ⟨rfl,by omega, ?_⟩))
          ·rw[AA (by omega)];exact congrArg (fun z=>Value.slice (some z) (h0-l0) (c'-l0)) (Nb a B.blk _).symm
          ·rw[ZB,JJ,e4];rw[JJ,e4]at H3;have:l0*ei.size+(c'-l0)*ei.size=c'*ei.size:=by
            rw[← Nat.add_mul]
            congr 1
            omega
           omega
      ·cases hp
    ·cases hp
end
def AI.kill:AI→AI
 | .cells c size e es own fam _ D4=> .cells c size e es own fam false D4
 |o=>o
def AI.size:AI→Nat
 | .cells _ size _ _ _ _ _ _=>size
 | .obj _=>0
theorem AI.QI(o:AI):o.kill.fam=o.fam:=by cases o<;>rfl
def BH(t:T AI)(k:Nat)(l:List Nat):T AI :=
 List.rec (motive:=fun _=>T AI) t (fun x _ ih=>cond (Nat.blt x (2^T.deep)) (match ih.get x with
  |some (.cells c size e es own fam true D4)=>cond (Nat.ble size k) ih (ih.set x (.cells c size e es own fam false D4))
  |_=>ih) ih) l
theorem Gk(t:T AI)(k:Nat): ∀(l:List Nat) (y:Nat),(BH t k l).get y=t.get y∨∃o,t.get y=some o∧(BH t k l).get y=some o.kill
 | [],y=> .inl rfl
 |x::l,y=>by
  have ih:=Gk t k l y;have e:BH t k (x::l)=cond (Nat.blt x (2^T.deep)) (match(BH t k l).get x with
   |some (.cells c size e es own fam true D4)=>cond (Nat.ble size k) (BH t k l) ((BH t k l).set x (.cells c size e es own fam false D4))
   |_=>BH t k l) (BH t k l):=rfl
  rw[e];cases hb:Nat.blt x (2^T.deep)with
  |false=>exact ih
  |true =>
   have hx:x<2^T.deep:=AH hb;simp only[AG];split
   ·rename_i c size el es own fam D4 hg;cases Nat.ble size k with
    |true=>exact ih
    |false =>
     simp only[Av];rw[T.AW _ _ _ _ hx];by_cases rb:y=x
     ·subst rb;rw[AD rfl];rcases ih with ih|⟨o,h1,h2⟩
      ·exact .inr ⟨_,ih ▸hg,rfl⟩
      ·rw[h2]at hg;cases o with
       |cells c' s' e' es' ow' f' ok' ic' =>
        simp only[AI.kill,AE,AI.cells.injEq]at hg;exact absurd hg.2.2.2.2.2.2.1 (by simp)
       |obj o=>cases hg
     ·rw[AA rb]; exact ih
   ·exact ih
theorem J1(t:T AI)(k:Nat): ∀(l:List Nat) (y:Nat),y∈l→y<2^T.deep→∀o,(BH t k l).get y=some o→o.fam≠0→o.FG=true→o.size≤k
 | [],_,h,_,_,_,_,_=>by cases h
 |x::l,y,hm,hy,o,ho,hf,AO=>by
  have e:BH t k (x::l)=cond (Nat.blt x (2^T.deep)) (match(BH t k l).get x with
   |some (.cells c size e es own fam true D4)=>cond (Nat.ble size k) (BH t k l) ((BH t k l).set x (.cells c size e es own fam false D4))
   |_=>BH t k l) (BH t k l):=rfl
  rw[e]at ho;have old:y∈l→(BH t k l).get y=some o→o.size≤k:=fun hl h=>J1 t k l y hl hy o h hf AO;cases hb:Nat.blt x (2^T.deep)with
  |false =>
   rw[hb]at ho;rcases AZ.1 hm with rfl|hm
   ·rw[blt_eq]at hb;exact absurd hy (of_decide_eq_false hb)
   ·exact old hm ho
  |true =>
   have hx:x<2^T.deep:=AH hb;rw[hb]at ho;simp only[AG]at ho;split at ho
   ·rename_i c size el es own fam D4 hg;cases hs:Nat.ble size k with
    |true =>
     rw[hs]at ho;simp only[AG]at ho;rcases AZ.1 hm with rfl|hm
     ·rw[hg]at ho; cases ho;exact AH hs
     ·exact old hm ho
    |false =>
     rw[hs]at ho;simp only[Av]at ho;rw[T.AW _ _ _ _ hx]at ho;by_cases rb:y=x
     ·rw[AD rb]at ho; cases ho;cases AO
     ·rw[AA rb]at ho;rcases AZ.1 hm with h|hm
      ·exact absurd h rb
      ·exact old hm ho
   ·rename_i BK;rcases AZ.1 hm with rfl|hm
    ·cases o with
     |obj o=>exact absurd rfl hf
     |cells c size el es own fam ok D4 =>
      simp only[AI.FG]at AO;subst AO;exact absurd ho (BK _ _ _ _ _ _ _)
    ·exact old hm ho
section
variable{ρ:Ah}{H:PH}{c:Ctx}{w w':World}
theorem BR.kill{B:RB}{o:AI}(h:BR ρ c w B o):BR ρ c w B o.kill:=by
 cases h with
 |cells hs he hf hle Ax hR AO=>exact .cells hs he hf hle Ax (fun _ e=>by cases e) (fun e=>by cases e)
 |obj hw ho hM=>exact .obj hw ho hM
theorem HR.kill(h:HR ρ H c w)(k:Nat)(l:List Nat):HR ρ {H with t:=BH H.t k l} c w:=by
 have g:=Gk H.t k l;refine⟨h.cap,h.Dk,fun b B o hb ho=> ?_,fun b b' B B' e1 e2 BK Bn=> ?_,h.EK,fun b B o hb ho hf AO=> ?_⟩
 ·rcases g b with e|⟨o',e1,e2⟩
  ·exact h.rel b B o hb (e ▸ho)
  ·have ho:(BH H.t k l).get b=some o:=ho;rw[e2]at ho; cases ho;exact(h.rel b B o' hb e1).kill
 ·have up: ∀{x:Nat} {o:AI},H.t.get x=some o→∃o',(BH H.t k l).get x=some o'∧o'.fam=o.fam:=fun {x o} hx=>by
   rcases g x with e|⟨o',e1,e2⟩
   ·exact⟨o,e.trans hx,rfl⟩
   ·rw[hx]at e1; cases e1;exact⟨_,e2,AI.QI o⟩
  have st: ∀{x:Nat},H.still x→PH.still {H with t:=BH H.t k l} x:=fun {x} hx o ho=>by
   have ho:(BH H.t k l).get x=some o:=ho;rcases g x with e|⟨o',e1,e2⟩
   ·exact hx o (e.symm.trans ho)
   ·rw[e2]at ho; cases ho;have:=hx _ e1;cases o'<;>exact this
  rcases h.inj b b' B B' e1 e2 BK Bn with⟨o,o',p1,p2,p3,p4⟩|⟨q1,q2⟩
  ·obtain⟨o1,a1,a2⟩:=up p1;obtain⟨o2,b1,b2⟩:=up p2;exact .inl ⟨o1,o2,a1,b1,by rw[a2]; exact p3,by rw[a2,b2]; exact p4⟩
  ·exact .inr ⟨st q1,st q2⟩
 ·rcases g b with e|⟨o',e1,e2⟩
  ·exact h.mem b B o hb (e ▸ho) hf AO
  ·have ho:(BH H.t k l).get b=some o:=ho;rw[e2]at ho; cases ho;cases o' with
   |cells _ _ _ _ _ _ _ _=>cases AO
   |obj o=>exact absurd rfl hf
theorem HR.wr(h:HR ρ H c w){blk lo:Nat}(ho:ES blk w w')(Zq: ∀k,k<lo→w'.cell? ⟨blk,k,none⟩=w.cell? ⟨blk,k,none⟩)(kI:Nf w blk→Nf w' blk)
  (hv: ∀b B o,ρ b=some B→B.blk=blk→H.t.get b=some o→o.fam≠0∧(o.FG=true→o.size≤lo)) (_hM:c.M blk) (_hrm: ∀a,c.R a→¬c.M a.block):HR ρ H c w':=by
 refine⟨h.cap,fun b B hb=>⟨(h.Dk b B hb).1,by rw[ho.size]; exact(h.Dk b B hb).2⟩,fun b B o hb hg=> ?_,h.inj,h.EK,h.mem⟩;have hr:=h.rel b B o hb hg;by_cases e:B.blk=blk
 ·obtain⟨q1,q2⟩:=hv b B o hb e hg;cases hr with
  |cells hs he hf hle Ax hR AO =>
   rename_i t size elem es own fam ok D4;refine .cells ((ho.shape _).trans hs) he hf hle (fun x=>⟨(Ax x).1,fun y=>by rw[e]; exact kI (by rw[← e]; exact(Ax x).2 y)⟩) hR (fun hk k Ac=> ?_);rcases AO hk k Ac with hn|⟨v,v',h1,h2,h3⟩
   ·exact .inl hn
   have:=q2 hk;refine .inr ⟨v,v',h1, ?_,h3⟩;rw[e,Zq k (by simp only[AI.size]at this; omega), ← e];exact h2
  |obj _ _ _=>exact absurd rfl q1
 ·have hk:=ho.keep B.blk e;cases hr with
  |cells hs he hf hle Ax hR AO =>
   refine .cells ((ho.shape _).trans hs) he hf hle (fun x=>⟨(Ax x).1,fun y off=> ?_⟩) hR (fun CP k Ac=> ?_)
   ·have:=(Ax x).2 y off;simp only[World.frozen?,hk]at this ⊢; exact this
   ·rcases AO CP k Ac with hn|⟨v,v',h1,h2,h3⟩
    ·exact .inl hn
    exact .inr ⟨v,v',h1,by rw[Kc (a:=⟨B.blk,k,none⟩) hk]; exact h2,h3⟩
  |obj hw Ym wJ=>exact .obj (hk.trans hw) Ym wJ
theorem HR.reset(h:HR ρ H c w){b:Nat}{B:RB}(hB:ρ b=some B){o o':AI}(ho:H.t.get b=some o)(Mx:BR ρ c w B o')(hf:o'.fam=o.fam)(bE:o'.mine=o.mine)(hm:o'.fam≠0→o'.FG=true→∃l,H.BF.get o'.fam=some l∧b∈l):HR ρ {H with t:=H.t.set b o'} c w:=by
 have hb:b<2^T.deep:=AV (h.Dk b B hB).1 h.cap;have g: ∀x,(H.t.set b o').get x=if x=b then some o' else H.t.get x:=fun x=>T.AW _ _ _ _ hb
 refine⟨h.cap,h.Dk,fun x X y hx hy=> ?_,fun x x' X X' e1 e2 BK Bn=> ?_,h.EK,fun x X y hx hy vn AO=> ?_⟩
 ·have hy:(H.t.set b o').get x=some y:=hy;rw[g]at hy;by_cases e:x=b
  ·rw[AD e]at hy; cases hy;rw[e,hB]at hx; cases hx;exact Mx
  ·rw[AA e]at hy;exact h.rel x X y hx hy
 ·have up: ∀{x:Nat} {z:AI},H.t.get x=some z→∃z',(H.t.set b o').get x=some z'∧z'.fam=z.fam:=fun {x z} hx=>by
   rw[g];by_cases e:x=b
   ·rw[e,ho]at hx; cases hx;exact⟨o',AD e,hf⟩
   ·exact⟨z,(AA e).trans hx,rfl⟩
  have st: ∀{x:Nat},H.still x→PH.still {H with t:=H.t.set b o'} x:=fun {x} hx z hz=>by
   have hz:(H.t.set b o').get x=some z:=hz;rw[g]at hz;by_cases e:x=b
   ·rw[AD e]at hz; cases hz;rw[bE];exact hx o (e ▸ho)
   ·rw[AA e]at hz;exact hx z hz
  rcases h.inj x x' X X' e1 e2 BK Bn with⟨o1,o2,p1,p2,p3,p4⟩|⟨q1,q2⟩
  ·obtain⟨z1,a1,a2⟩:=up p1;obtain⟨z2,b1,b2⟩:=up p2;exact .inl ⟨z1,z2,a1,b1,by rw[a2]; exact p3,by rw[a2,b2]; exact p4⟩
  ·exact .inr ⟨st q1,st q2⟩
 ·have hy:(H.t.set b o').get x=some y:=hy;rw[g]at hy;by_cases e:x=b
  ·rw[AD e]at hy; cases hy;rw[e];exact hm vn AO
  ·rw[AA e]at hy;exact h.mem x X y hx hy vn AO
theorem HR.alias(h:HR ρ H c w){b:Nat}{B:RB}(hB:ρ b=some B){o o':AI}(_ho:H.t.get b=some o)(rT:o.fam≠0)(hf:o'.fam=o.fam)(A2:H.next+1≤2^T.deep)(G4: ∀x X,ρ x=some X→X.blk=B.blk→∃y,H.t.get x=some y∧y.fam=o.fam)
  (Mx:BR ρ c w B o') {l:List Nat} (hl:H.BF.get o.fam=some l) (RU:o.fam<2^T.deep) :
  HR (ρ.put H.next B) {H with next:=H.next+1,t:=H.t.set H.next o',BF:=H.BF.set o.fam (H.next::l)} c w:=by
 have hn:H.next<2^T.deep:=by omega
 have g: ∀x,(H.t.set H.next o').get x=if x=H.next then some o' else H.t.get x:=fun x=>T.AW _ _ _ _ hn
 have gf: ∀x,(H.BF.set o.fam (H.next::l)).get x=if x=o.fam then some (H.next::l)else H.BF.get x:=fun x=>T.AW _ _ _ _ RU
 have hle:=Ah.Ed (B:=B) h.free;have pn: ∀x,x≠H.next→ρ.put H.next B x=ρ x:=fun x e=>by unfold Ah.put; rw[AA e]
 have ps:ρ.put H.next B H.next=some B:=Cy _ _ _;refine⟨A2,fun x X hx=> ?_,fun x X y hx hy=> ?_,fun x x' X X' e1 e2 BK Bn=> ?_,fun i hi=> ?_,fun x X y hx hy vn AO=> ?_⟩
 ·by_cases e:x=H.next
  ·rw[e,ps]at hx; cases hx;exact⟨by show x<H.next+1; omega,(h.Dk b B hB).2⟩
  ·rw[pn x e]at hx;exact⟨Ce (h.Dk x X hx).1,(h.Dk x X hx).2⟩
 ·have hy:(H.t.set H.next o').get x=some y:=hy;rw[g]at hy;by_cases e:x=H.next
  ·rw[AD e]at hy; cases hy;rw[e,ps]at hx; cases hx;exact Mx.mono hle
  ·rw[AA e]at hy;rw[pn x e]at hx;exact(h.rel x X y hx hy).mono hle
 ·have up: ∀{x:Nat} {z:AI},x≠H.next→H.t.get x=some z→(H.t.set H.next o').get x=some z:=fun {x z} e hx=>by rw[g,AA e]; exact hx
  by_cases e:x=H.next
  ·rw[e,ps]at e1; cases e1;have e':x'≠H.next:=fun q=>BK (e.trans q.symm);rw[pn x' e']at e2;obtain⟨y,a1,a2⟩:=G4 x' X' e2 Bn.symm;exact .inl ⟨o',y,by rw[e]; exact(g _).trans (AD rfl),up e' a1,by rw[hf]; exact rT,by rw[hf,a2]⟩
  ·rw[pn x e]at e1;by_cases e':x'=H.next
   ·rw[e',ps]at e2; cases e2;obtain⟨y,a1,a2⟩:=G4 x X e1 Bn;exact .inl ⟨y,o',up e a1,by rw[e']; exact(g _).trans (AD rfl),by rw[a2]; exact rT,by rw[hf,a2]⟩
   ·rw[pn x' e']at e2;rcases h.inj x x' X X' e1 e2 BK Bn with⟨o1,o2,p1,p2,p3,p4⟩|⟨q1,q2⟩
    ·exact .inl ⟨o1,o2,up e p1,up e' p2,p3,p4⟩
    ·have st: ∀{x:Nat},x≠H.next→H.still x→∀z,(H.t.set H.next o').get x=some z→z.mine=false:=fun hx hs z hz=>hs z (by rw[g,AA hx]at hz; exact hz);exact .inr ⟨st e q1,st e' q2⟩
 ·obtain⟨Y,h1,h2⟩:=h.EK i hi;exact⟨Y,hle _ _ h1,h2⟩
 ·show ∃l',(H.BF.set o.fam (H.next::l)).get y.fam=some l'∧x∈l';rw[gf];have hy:(H.t.set H.next o').get x=some y:=hy;rw[g]at hy;by_cases e:x=H.next
  ·rw[AD e]at hy; cases hy;exact⟨_,AD hf,by rw[e]; simp⟩
  ·rw[AA e]at hy;rw[pn x e]at hx;obtain⟨l',a1,a2⟩:=h.mem x X y hx hy vn AO;by_cases ef:y.fam=o.fam
   ·rw[ef,hl]at a1; cases a1;exact⟨_,AD ef,by simp[a2]⟩
   ·exact⟨l',by rw[AA ef]; exact a1,a2⟩
theorem HR.dI(h:HR ρ H c w)(_AO:CK c w)(A2:H.next+1≤2^T.deep){o:AI}{x:Obj}{B:RB}(hB:B.blk=w.heap.size)(Mx:BR (ρ.put H.next B) (Ctx.own c w.heap.size) (World.grow w x) B o){l:List Nat}(hl:H.BF.get o.fam=some l∨H.BF.get o.fam=Option.none∧l= [])(RU:o.fam<2^T.deep) :
  HR (ρ.put H.next B) {H with next:=H.next+1,t:=H.t.set H.next o,BF:=H.BF.set o.fam (H.next::l)} (Ctx.own c w.heap.size) (World.grow w x):=by
 have hn:H.next<2^T.deep:=by omega
 have g: ∀y,(H.t.set H.next o).get y=if y=H.next then some o else H.t.get y:=fun y=>T.AW _ _ _ _ hn
 have gf: ∀y,(H.BF.set o.fam (H.next::l)).get y=if y=o.fam then some (H.next::l)else H.BF.get y:=fun y=>T.AW _ _ _ _ RU
 have pn: ∀y,y≠H.next→ρ.put H.next B y=ρ y:=fun y e=>by unfold Ah.put; rw[AA e]
 have ps:ρ.put H.next B H.next=some B:=Cy _ _ _;have hs:(World.grow w x).heap.size=w.heap.size+1:=by simp[World.grow]
 refine⟨A2,fun y Y hy=> ?_,fun y Y z hy hz=> ?_,fun y y' Y Y' e1 e2 BK Bn=> ?_,fun i hi=> ?_,fun y Y z hy hz kI iV=> ?_⟩
 ·rw[hs];by_cases e:y=H.next
  ·rw[e,ps]at hy; cases hy;exact⟨by show y<H.next+1; omega,by omega⟩
  ·rw[pn y e]at hy;exact⟨Ce (h.Dk y Y hy).1,Ce (h.Dk y Y hy).2⟩
 ·have hz:(H.t.set H.next o).get y=some z:=hz;rw[g]at hz;by_cases e:y=H.next
  ·rw[AD e]at hz; cases hz;rw[e,ps]at hy; cases hy;exact Mx
  ·rw[AA e]at hz;rw[pn y e]at hy;exact((h.rel y Y z hy hz).grow).mono (Ah.Ed h.free)
 ·by_cases e:y=H.next
  ·rw[e,ps]at e1; cases e1;have e':y'≠H.next:=fun q=>BK (e.trans q.symm);rw[pn y' e']at e2;have:=(h.Dk y' Y' e2).2;omega
  ·rw[pn y e]at e1;by_cases e':y'=H.next
   ·rw[e',ps]at e2; cases e2;have:=(h.Dk y Y e1).2;omega
   ·rw[pn y' e']at e2;rcases h.inj y y' Y Y' e1 e2 BK Bn with⟨o1,o2,p1,p2,p3,p4⟩|⟨q1,q2⟩
    ·exact .inl ⟨o1,o2,(g y).trans ((AA e).trans p1),(g y').trans ((AA e').trans p2),p3,p4⟩
    ·have st: ∀{x:Nat},x≠H.next→H.still x→∀z,(H.t.set H.next o).get x=some z→z.mine=false:=fun hx hs z hz=>hs z (by rw[g,AA hx]at hz; exact hz);exact .inr ⟨st e q1,st e' q2⟩
 ·obtain⟨Y,h1,h2⟩:=h.EK i hi;exact⟨Y,Ah.Ed h.free _ _ h1,h2⟩
 ·show ∃l',(H.BF.set o.fam (H.next::l)).get z.fam=some l'∧y∈l';rw[gf];have hz:(H.t.set H.next o).get y=some z:=hz;rw[g]at hz;by_cases e:y=H.next
  ·rw[AD e]at hz; cases hz;exact⟨_,AD rfl,by rw[e]; simp⟩
  ·rw[AA e]at hz;rw[pn y e]at hy;obtain⟨l',a1,a2⟩:=h.mem y Y z hy hz kI iV;by_cases ef:z.fam=o.fam
   ·rw[ef]at a1;rcases hl with hl|⟨hl,rfl⟩
    ·rw[hl]at a1; cases a1;exact⟨_,AD ef,by simp[a2]⟩
    ·rw[hl]at a1; cases a1
   ·exact⟨l',by rw[AA ef]; exact a1,a2⟩
end
section
variable{P:Program}{ty:DD}{ρ:Ah}{pf:PF}{fr:Frame}{H:PH}{c:Ctx}{w:World}
def P4:TypeDesc→Bool
 | .int _=>false
 |_=>true
theorem run_append_room{sT xT:TypeId}{EY:Array TypeId}(JX:EY= #[sT,xT]){tt elem:TypeId}{ei:TypeInfo}{xd:TypeDesc}(hs:P.underlying sT=some (.slice elem))(hi:P.info? elem=some ei)(hx:P.underlying xT=some xd)(vD:P4 xd=true)
  {base:Option Addr} {sLen sCap n:Nat} {x:Value} (hn: ∀es,(Builtin.lenOf x).runT P w es=(.ok n w,es)) (H3:sLen+n≤sCap) {new:Array Value} {es es1 es2:Array Event} {w':World} (h1:(Builtin.firstCells ei.size n x).runT P w es=(.ok new w,es1))
  (h2: ∀a,base=some a→(storeCells (a.add (sLen*ei.size)) new.toList).runT P w es1=(.ok () w',es2)) (h3:base=none→w'=w∧es2=es1):(Builtin.append_ EY tt #[.slice base sLen sCap,x]).runT P w es=(.ok (.slice base (sLen+n) sCap) w',es2):=by
 subst JX;unfold Builtin.append_;simp only[G7,CM,Fg];refine(AB (Aa hs)).trans ?_;simp only
 refine(AB (runT_size hi)).trans ?_;refine(AB (Aa hx)).trans ?_;refine(AB (s:=pure _) (a:=false) (w':=w) (es':=es) (by cases xd<;>first|rfl|cases vD)).trans ?_;simp only[Bq,BS,Bool.not_false,Ad];refine(AB (hn es)).trans ?_;rw[AD H3];refine(AB h1).trans ?_;cases base with
 |none =>
  obtain⟨rfl,rfl⟩:=h3 rfl;rfl
 |some a =>
  simp only
  refine(AB (h2 a rfl)).trans ?_;rfl
theorem R8(Eu:Nat): ∀(r c:Nat),c≤2*Eu+192→Builtin.growBy Eu r c≤2*Eu+192
 |0,c,h=>h
 |r+1,c,h=>by
  unfold Builtin.growBy;split
  ·exact h
  ·exact R8 Eu r _ (by omega)
theorem nextslicecap_le{Eu old:Nat}(h:old≤Eu):Builtin.nextslicecap Eu old≤2*Eu+192:=by
 unfold Builtin.nextslicecap;split
 ·omega
 ·split
  ·omega
  ·exact R8 Eu 4 old (by omega)
def World.draw(w:World):World:={w with drawn:=w.drawn+1}
def Fp(n:Nat):Array Event:=if n>roomBytes then #[⟨.mark .noRoom,false,true⟩]else #[]
theorem run_askRoom(n:Nat)(w:World)(es:Array Event):(askRoom n).runT P w es=(.ok () w,es++Fp n):=by
 unfold askRoom Fp;split
 ·show(Result.ok () w,es.push _)=_;simp
 ·show(Result.ok () w,es)=_;simp
theorem IH{sT xT:TypeId}{EY:Array TypeId}(JX:EY= #[sT,xT]){tt elem:TypeId}{ei:TypeInfo}{xd:TypeDesc}(hs:P.underlying sT=some (.slice elem))(hi:P.info? elem=some ei)(hx:P.underlying xT=some xd)(vD:P4 xd=true){z:Value}(hz:ei.zero=some z)
  {base:Option Addr} {sLen sCap n:Nat} {x:Value} (hn: ∀es,(Builtin.lenOf x).runT P w es=(.ok n w,es)) (H3: ¬sLen+n≤sCap) (hb:ei.bytes≠0) (nu:(2*(sLen+n)+192)*ei.bytes≤2^48) {old new:Array Value} {es es1 es2:Array Event} {cp:Nat}
  (bG:cp=(Question.appendCap (sLen+n) sCap elem).cut (w.tape w.drawn (Question.appendCap (sLen+n) sCap elem)))
  (h1:(Builtin.firstCells ei.size sLen (.slice base sLen sCap)).runT P (World.draw w) (es++Fp (cp*ei.bytes))=(.ok old (World.draw w),es1)) (h2:(Builtin.firstCells ei.size n x).runT P (World.draw w) es1=(.ok new (World.draw w),es2)) :
  (Builtin.append_ EY tt #[.slice base sLen sCap,x]).runT P w es=(.ok (.slice (some ⟨w.heap.size,0,none⟩) (sLen+n) cp) (World.grow (World.draw w) (.cells (old++new++Builtin.zeroCells z.cells (cp-(sLen+n))) elem)),es2):=by
 subst JX;unfold Builtin.append_;simp only[G7,CM,Fg];refine(AB (Aa hs)).trans ?_;simp only
 refine(AB (runT_size hi)).trans ?_;refine(AB (Aa hx)).trans ?_;refine(AB (s:=pure _) (a:=false) (w':=w) (es':=es) (by cases xd<;>first|rfl|cases vD)).trans ?_;simp only[Bq,BS,Bool.not_false,Ad];refine(AB (hn es)).trans ?_;rw[AA H3];have ew:Builtin.nextslicecap (sLen+n) sCap*ei.bytes≤2^48:=A1 (Nat.mul_le_mul_right _ (nextslicecap_le (by omega))) nu;refine(AB (s:=typeInfo elem) (B6 hi)).trans ?_;rw[AA (by
  rintro⟨-,h|h⟩
  ·exact absurd h (by simp)
  ·exact hb h)]
 refine(AB (s:=typeInfo elem) (B6 hi)).trans ?_;rw[AA (by omega)];refine(AB (s:=choose (.appendCap (sLen+n) sCap elem)) (a:=cp) (w':=World.draw w) (es':=es) ?_).trans ?_
 ·rw[bG]; rfl
 refine(AB (s:=typeInfo elem) (B6 hi)).trans ?_;refine(AB (run_askRoom _ _ _)).trans ?_;refine(AB h1).trans ?_;refine(AB h2).trans ?_;refine(AB (s:=zeroValue elem) (a:=z) (w':=World.draw w) (es':=es2) ?_).trans ?_
 ·show((typeInfo elem).bind fun i=>match i.zero with|some v=>pure v|none=>unsupported (.resourceLimit "a value of more than 2^22 cells")).runT P _ _=_;rw[AB (B6 hi),hz];rfl
 rfl
end
def pread(H:PH)(a:Addr)(n:Nat):Option (List Value) :=
 match H.t.get a.block with
 |some (.cells c size _ _ _ _ true _)=>match a.spot with
  |none=>cond (Nat.ble (a.off+n) size) (DT c a.off n) none
  |_=>none
 |_=>none
section
variable{P:Program}{ty:DD}{ρ:Ah}{pf:PF}{fr:Frame}{H:PH}{c:Ctx}{w:World}
def JZ(c:Ctx)(l:List Event):Prop:= ∀e∈l,∃a,a.spot=none∧e=⟨.cell a,false,false⟩∧(c.M a.block∨c.R a)
theorem JZ.append{l m:List Event}(h:JZ c l)(h':JZ c m):JZ c (l++m):=fun e he=>by
 rcases DY.1 he with he|he
 ·exact h e he
 ·exact h' e he
theorem run_read(hH:HR ρ H c w){a:Addr}{B:RB}(hB:ρ a.block=some B){n:Nat}{l:List Value}(hp:pread H a n=some l)(es:Array Event) :
  ∃l' ev,CE ρ l l'∧(loadCells {a with block:=B.blk} n).runT P w es=(.ok l'.toArray w,es++ev.toArray)∧JZ c ev:=by
 unfold pread at hp;split at hp
 ·rename_i tr size elem es' own fam D4 e1;split at hp
  ·rename_i e2;cases e3:Nat.ble (a.off+n) size with
   |false=>rw[e3]at hp; cases hp
   |true =>
    rw[e3]at hp;simp only[AG]at hp;have e3:=AH e3;have hr:=hH.rel _ _ _ hB e1;obtain⟨blk,off,spot⟩:=a;simp only at e2 e3 hp hB;subst e2;cases hr with
    |cells hs he hf hle Ax hR AO =>
     obtain⟨l',r1,r2⟩:=FK (P:=P) (known (AO rfl)) n 0 off l #[] es (by omega) (by rw[Nat.add_zero]; exact hp);refine⟨l',Gg B.blk off n,by simpa using r1, ?_,fun e he=> ?_⟩
     ·simpa[loadCells]using r2
     ·obtain⟨k,h1,h2,rfl⟩:=Kp _ _ _ e he;refine⟨_,rfl,rfl, ?_⟩;cases own with
      |true=>exact .inl (Ax rfl).1
      |false=>exact .inr ((hR rfl rfl k (by omega)).resolve_left (G5 hp k h1 h2))
  ·cases hp
 ·cases hp
theorem Ga: ∀{t:T Value} {off n:Nat} {l:List Value},DT t off n=some l→l.length=n∧∀k,k<n→t.get (off+k)=l[k]?
 |t,off,0,l,h=>by
  have:l= []:=(As h).symm;subst this;exact⟨rfl,fun k hk=>by omega⟩
 |t,off,n+1,l,h=>by
  rw[Fv]at h;cases e1:t.get off with
  |none=>rw[e1]at h; cases h
  |some v =>
   rw[e1]at h;simp only at h;cases e2:DT t (off+1) n with
   |none=>rw[e2]at h; cases h
   |some m =>
    rw[e2]at h;simp only[AE]at h;subst h;obtain⟨h1,h2⟩:=Ga e2;refine⟨by simp[h1],fun k hk=> ?_⟩;cases k with
    |zero=>simpa using e1
    |succ k =>
     have:=h2 k (by omega);rw[show off+(k+1)=off+1+k by omega,this];rfl
theorem Mn{t:T Value}: ∀{n off:Nat},(∀k,off≤k→k<off+n→∃v,t.get k=some v)→∃l,DT t off n=some l
 |0,off,_=>⟨[],rfl⟩
 |n+1,off,h=>by
  obtain⟨v,hv⟩:=h off (AN _) (by omega);obtain⟨l,hl⟩:=Mn (n:=n) (off:=off+1) fun k h1 h2=>h k (by omega) (by omega);exact⟨v::l,by rw[Fv,hv]; simp only[hl]⟩
def aE(H:PH)(size:Nat)(x:Value):Option (Nat×List Value) :=
 match x with
 | .slice none n _=>cond (Nat.beq n 0) (some (0,[])) none
 | .slice (some a) n _=>match pread H a (n*size)with
  |some l=>some (n,l)
  |none=>none
 | .string s=>cond (Nat.beq size 1) (some (s.size,s.data.toList.map fun b=> .int .u8 b.toNat)) none
 |_=>none
theorem U3(hH:HR ρ H c w){size:Nat}{x x':Value}(hx:VR ρ x x'){n:Nat}{l:List Value}(hp:aE H size x=some (n,l)) :
  (∀(w':World) es,(Builtin.lenOf x').runT P w' es=(.ok n w',es))∧(l.length=n*size)∧∀es,∃l' ev,CE ρ l l'∧(Builtin.firstCells size n x').runT P w es=(.ok l'.toArray w,es++ev.toArray)∧JZ c ev:=by
 cases hx with
 |MC n' c' =>
  unfold aE at hp;simp only at hp;cases e:Nat.beq n' 0 with
  |false=>rw[e]at hp; cases hp
  |true =>
   rw[e]at hp;simp only[AG,AE,AR]at hp;obtain⟨rfl,rfl⟩:=hp;have:=AJ e;subst this;exact⟨fun _ _=>rfl,by simp,fun es=>⟨[],[],.nil,by simp[Builtin.firstCells,pure],fun e he=>by cases he⟩⟩
 |sl hB hc =>
  rename_i a B n' k k';unfold aE at hp;simp only at hp;cases e:pread H a (n'*size)with
  |none=>rw[e]at hp; cases hp
  |some m =>
   rw[e]at hp;simp only[AE,AR]at hp;obtain⟨rfl,rfl⟩:=hp;refine⟨fun _ _=>rfl, ?_,fun es=>run_read hH hB e es⟩;unfold pread at e;split at e
   ·split at e
    ·cases e3:Nat.ble (a.off+n'*size) _ with
     |false=>rw[e3]at e; cases e
     |true=>rw[e3]at e; exact(Ga e).1
    ·cases e
   ·cases e
 |string s =>
  unfold aE at hp;simp only at hp;cases e:Nat.beq size 1 with
  |false=>rw[e]at hp; cases hp
  |true =>
   rw[e]at hp;simp only[AG,AE,AR]at hp;obtain⟨rfl,rfl⟩:=hp;have:=AJ e;subst this;refine⟨fun _ _=>rfl,by simp,fun es=>⟨s.data.toList.map fun b=> .int .u8 b.toNat,[], ?_, ?_,fun e he=>by cases he⟩⟩
   ·exact CE.Sk fun v hv=>by
     obtain⟨b,_,rfl⟩:=Bd.1 hv;exact .int _ _
   ·show(Result.ok ((s.extract 0 s.size).data.map fun b=>Value.int .u8 b.toNat) w,es)=_;have:s.extract 0 s.size=s:=by simp
    rw[this];simp;apply Array.ext';simp
 |_=>simp[aE]at hp
theorem HR.draw(h:HR ρ H c w):HR ρ H c (World.draw w):=h.rely ⟨rfl,.refl _,.refl _,AN _,fun _ _=>rfl,fun _ _=>rfl,fun _ _=> .of rfl⟩
theorem CK.draw(h:CK c w):CK c (World.draw w):=⟨h.ml,h.rl,h.rm⟩
theorem LH{b sz:Nat}{elem:TypeId}: ∀(l:List Value) (off i:Nat) (w:World) (es:Array Event),w.shape? b=some (elem,sz)→Nf w b→(∀v∈l,Em v=true)→off+i+l.length≤sz→
  ∃w' ev,(storeCells ⟨b,off,none⟩ l i).runT P w es=(.ok () w',es++ev.toArray)∧Nd b ev∧ES b w w'∧Nf w' b∧∀k,w'.cell? ⟨b,k,none⟩=if off+i≤k∧k<off+i+l.length then l[k-(off+i)]? else w.cell? ⟨b,k,none⟩
 | [],off,i,w,es,hs,hf,_,_=>⟨w,[],by simp[storeCells,pure],(fun e he=>by cases he),ES.refl _ _,hf,fun k=>by rw[AA (by simp)]⟩
 |v::l,off,i,w,es,hs,hf,XD,hle=>by
  simp only[Dv]at hle;obtain⟨u,hu⟩: ∃u,w.cell? ⟨b,off+i,none⟩=some u:=by
   unfold World.shape? at hs;unfold World.cell?;cases e:w.heap[b]? with
   |none=>rw[e]at hs; cases hs
   |some o =>
    rw[e]at hs;cases o with
    |cells cs el fz =>
     simp only[AE,AR]at hs;simp only[Option.isSome_none,Bq,BS];exact⟨_,CR (by rw[hs.2]; omega)⟩
    |_=>cases hs
  have IB:(w.setCell ⟨b,off+i,none⟩ v).shape? b=some (elem,sz):=(E9 _ _ _ _).trans hs;have hf1:Nf (w.setCell ⟨b,off+i,none⟩ v) b:=fun o=>by rw[Dy]; exact hf o
  obtain⟨w',ev,r1,r2,r3,r4,r5⟩:=LH l off (i+1) _ (es.push ⟨.cell ⟨b,off+i,none⟩,true,false⟩) IB hf1 (fun x hx=>XD x (by simp[hx])) (by omega);refine⟨w',⟨.cell ⟨b,off+i,none⟩,true,false⟩::ev, ?_, ?_,(ES.setCell _ _ _ _).trans r3,r4,fun k=> ?_⟩
  ·show(Sem.store .plain ((⟨b,off,none⟩:Addr).add i) v ((Sem.pure ()).bind fun _=>storeCells ⟨b,off,none⟩ l (i+1))).runT P w es=_;rw[Mo,Qf (XD v (by simp)) .plain _ _ hu (hf _)];show(storeCells ⟨b,off,none⟩ l (i+1)).runT P (w.setCell ⟨b,off+i,none⟩ v) (es.push ⟨.cell ⟨b,off+i,none⟩,true,false⟩)=_;rw[r1,KL]
  ·intro e he;rcases AZ.1 he with rfl|he
   ·exact⟨_,rfl⟩
   ·exact r2 e he
  ·rw[r5 k,EB hu];simp only[Dv];by_cases e1:k=off+i
   ·subst e1;rw[AA (by omega),AD (by simp),AD (by omega)];simp
   ·by_cases e2:off+(i+1)≤k∧k<off+(i+1)+l.length
    ·rw[AD e2,AD (by omega)];have:k-(off+i)=(k-(off+(i+1)))+1:=by omega
     rw[this]; rfl
    ·rw[AA e2,AA (fun x=>e1 x.2),AA (by omega)]
end
def J4(ei:TypeInfo)(Eu:Nat):Bool :=
 match ei.zero with
 |some z=> !Nat.beq ei.bytes 0&&(Nat.ble ((2*Eu+192)*ei.bytes) 281474976710656&&Nat.beq z.cells.toList.length ei.size)
 |none=>false
def Pq(ei:TypeInfo)(elem:TypeId)(H:PH)(Eu:Nat)(l:List Value):Option (Value×PH) :=
 cond (J4 ei Eu&&(Nat.ble (H.next+2) (2^T.deep)&&Nat.ble l.length (2^T.deep)))
  (match H.BF.get (H.next+1)with
   |none=>some (.slice (some ⟨H.next,0,none⟩) Eu HN,(H.upF (H.t.set H.next (.cells (setFrom l .nil 0) l.length elem ei.size true (H.next+1) true false)) (H.BF.set (H.next+1) [H.next])))
   |some _=>none) none
def VF(ei:TypeInfo)(elem:TypeId)(H:PH)(base:Option Addr)(sLen cap n:Nat)(new:List Value):Option (Value×PH) :=
 cond (Nat.beq n 0)
  (cond (Nat.ble sLen cap||(Nat.beq cap HN&&base.isSome)) (some (.slice base sLen cap,H)) none)
  (cond (Nat.beq cap HN)
   (match base with
    |some ⟨b,0,none⟩=>match H.t.get b with
     |some (.cells tr size el es true fam true false)=>match H.BF.get fam with
      |some l=>cond (!Nat.beq fam 0&&(Nat.blt fam (2^T.deep)&&(Nat.beq es ei.size&&(Nat.beq el elem&&(Nat.ble (sLen*es) size&&(new.all Em&&(Nat.ble (H.next+1) (2^T.deep)&&(J4 ei (sLen+n)&&Nat.ble ((sLen+n)*es) (2^T.deep)))))))))
       (some (.slice (some ⟨H.next,0,none⟩) (sLen+n) HN,(H.upF ((BH H.t (sLen*es) l).set H.next (.cells (setFrom new tr (sLen*es)) ((sLen+n)*es) el es true fam true false)) (H.BF.set fam (H.next::l))))) none
      |none=>none
     |_=>none
    |_=>none)
   (cond (Nat.ble (sLen+n) cap)
    (match base with
     |some a=>match a.spot with
      |none=>match H.t.get a.block with
       |some (.cells tr size el es true 0 true false)=>cond (new.all Em&&(Nat.ble (a.off+sLen*ei.size+new.length) size&&Nat.ble size (2^T.deep)))
        (some (.slice base (sLen+n) cap,(H.Ho (H.t.set a.block (.cells (setFrom new tr (a.off+sLen*ei.size)) size el es true 0 true false))))) none
       |_=>none
      |_=>none
     |none=>none)
    (match base with
     |none=>cond (Nat.beq sLen 0) (Pq ei elem H (sLen+n) new) none
     |some a=>match pread H a (sLen*ei.size)with
      |some old=>Pq ei elem H (sLen+n) (old++new)
      |none=>none)))
def S3(ty:DD)(H:PH)(sT xT:TypeId)(s x:Value):Option (Value×PH) :=
 match ty.get sT with
 |some (_,.slice elem)=>match ty.get elem with
  |some (ei,_)=>match ty.get xT with
   |some (_,xd)=>cond (P4 xd) (match s with
    | .slice base sLen cap=>match aE H ei.size x with
     |some (n,new)=>VF ei elem H base sLen cap n new
     |none=>none
    |_=>none) none
   |none=>none
  |none=>none
 |_=>none
section
variable{P:Program}{ty:DD}{ρ:Ah}{pf:PF}{fr:Frame}{H:PH}{c:Ctx}{w:World}
theorem Y7(Eu old:Nat)(e:TypeId)(t:Nat):Eu≤(Question.appendCap Eu old e).cut t:=by
 show Eu≤Eu+t%(2^63-Eu);omega
theorem JZ.Hj{l:List Event}(h:JZ c l)(w':World):BQ c w w' l.toArray:=⟨fun e he b=>by obtain⟨a,h1,rfl,h2⟩:=h e (by simpa using he); simp[MemAct.ofEvent],fun e he x hx=>by
 obtain⟨a,h1,rfl,h2⟩:=h e (by simpa using he);simp only[MemAct.ofEvent,MemAct.touch?,AE]at hx;subst hx;rcases h2 with h2|h2
 ·exact .inl ⟨a.block,rfl,.inl h2⟩
 ·exact .inr ⟨a,rfl,h2,rfl⟩⟩
theorem JZ.Kg{l:List Event}(h:JZ c l):GU l.toArray:=fun e he=>by
 obtain⟨a,h1,rfl,h2⟩:=h e (by simpa using he);exact⟨(fun e=>by cases e),(fun e=>by cases e)⟩
theorem BQ.app{w w':World}{l m:Array Event}(h:BQ c w w' l)(h':BQ c w w' m):BQ c w w' (l++m):=⟨fun e he=>by
 rcases Ea.1 he with he|he
 ·exact h.1 e he
 ·exact h'.1 e he,fun e he=>by
 rcases Ea.1 he with he|he
 ·exact h.2 e he
 ·exact h'.2 e he⟩
theorem GU.app{l m:Array Event}(h:GU l)(h':GU m):GU (l++m):=fun e he=>by
 rcases Ea.1 he with he|he
 ·exact h e he
 ·exact h' e he
theorem HJ(n:Nat)(w':World):BQ c w w' (Fp n)∧GU (Fp n):=by
 unfold Fp;split
 ·refine⟨⟨fun e he a=>by simp at he; subst he; simp[MemAct.ofEvent],fun e he x hx=> ?_⟩,fun e he=> ?_⟩
  ·simp at he;subst he;simp[MemAct.ofEvent,MemAct.touch?]at hx
  ·simp at he;subst he;exact⟨(fun e=>by cases e),(fun e=>by cases e)⟩
 ·exact⟨⟨fun e he=>by simp at he,fun e he=>by simp at he⟩,fun e he=>by simp at he⟩
theorem Nd.Hj{b:Nat}{l:List Event}(h:Nd b l)(hb:c.M b)(w':World):BQ c w w' l.toArray:=⟨fun e he a=>by obtain⟨k,rfl⟩:=h e (by simpa using he); simp[MemAct.ofEvent],fun e he x hx=>by
 obtain⟨k,rfl⟩:=h e (by simpa using he);simp only[MemAct.ofEvent,MemAct.touch?,AE]at hx;subst hx;exact .inl ⟨b,rfl,.inl hb⟩⟩
theorem Nd.Kg{b:Nat}{l:List Event}(h:Nd b l):GU l.toArray:=fun e he=>by
 obtain⟨k,rfl⟩:=h e (by simpa using he);exact⟨(fun e=>by cases e),(fun e=>by cases e)⟩
theorem Ll{ei:TypeInfo}{Eu:Nat}(h:J4 ei Eu=true): ∃z,ei.zero=some z∧ei.bytes≠0∧(2*Eu+192)*ei.bytes≤2^48∧z.cells.size=ei.size:=by
 unfold J4 at h;cases e:ei.zero with
 |none=>rw[e]at h; cases h
 |some z =>
  rw[e]at h;simp only[AF,BI]at h;refine⟨z,rfl,Bl h.1, ?_, ?_⟩
  ·have:=AH h.2.1;simpa using this
  ·have:=AJ h.2.2;simpa using this
theorem HO(z:Array Value)(n:Nat):(Builtin.zeroCells z n).size=n*z.size:=by simp[Builtin.zeroCells]
theorem BR.grown{ρ':Ah}{c':Ctx}{w':World}{b:Nat}{tr:T Value}{l l':List Value}(hl:CE ρ' l l'){rest:Array Value}{elem es fam:Nat}{B:RB}(hB:B.blk=b)(JJ:B.es=es)(Bp:B.size=l'.length+rest.size)(hf:fam≠0)(hg: ∀k,k<l.length→tr.get k=l[k]?)
  (hw:w'.heap[b]? =some (.cells (l'.toArray++rest) elem (0,0))) (hM:c'.M b):BR ρ' c' w' B (.cells tr l.length elem es true fam true false):=by
 have ia:=hl.length;refine .cells ?_ JJ (fun e=>absurd e hf) (by omega) (fun _=>⟨hB ▸hM,fun _ off=> ?_⟩) (fun e=>by cases e) (fun _ k hk=> ?_)
 ·simp only[World.shape?,hB,hw];simp[Bp]
 ·simp only[World.frozen?,hB,hw];simp
 ·obtain⟨v,hv⟩: ∃v,l[k]? =some v:=⟨l[k],EE hk⟩;obtain⟨v',h1,h2⟩:=hl.get k v hv;refine .inr ⟨v,v',(hg k hk).trans hv, ?_,h2⟩;simp only[World.cell?,hB,hw];simp only[Option.isSome_none,Bq,BS];rw[Array.getElem?_append_left (by simp; omega)];simpa using h1
theorem Ca.IZ(AO:CK c w)(o:Obj):Ca c (Ctx.own c w.heap.size).M c.R w (World.grow (World.draw w) o):=by
 have g:=Ca.grow AO o;exact⟨g.tape,g.os,g.output,g.size,g.shape,g.keep,g.mine,g.more,g.ro⟩
theorem L4.IZ{hn:Nat}(AO:CK c w)(o:Obj){b:Nat}{B:RB}(hB:B.blk=w.heap.size)(hb:hn≤b):L4 ρ (ρ.put b B) hn c (Ctx.own c w.heap.size).M w (World.grow (World.draw w) o):=by
 have g:=L4.grow (ρ:=ρ) AO o hB hb;exact⟨g.own,g.lV,g.new⟩
theorem Nv{hn:Nat}(hhn:hn≤H.next)(hH:HR ρ H c w)(AO:CK c w){ei:TypeInfo}{elem:TypeId}{Eu:Nat}{l l':List Value}(hl:CE ρ l l')(hlen:l.length=Eu*ei.size){v:Value}{H':PH}(hp:Pq ei elem H Eu l=some (v,H')){s:Sem Next}
  (AT: ∀z,ei.zero=some z→ei.bytes≠0→(2*Eu+192)*ei.bytes≤2^48→∃cp es,Eu≤cp∧s.runT P w #[]=(.ok (.value (.slice (some ⟨w.heap.size,0,none⟩) Eu cp)) (World.grow (World.draw w) (.cells (l'.toArray++Builtin.zeroCells z.cells (cp-Eu)) elem)),es)∧(∀w',BQ c w w' es)∧GU es):Sound P ρ hn v H' c w s:=by
 unfold Pq at hp;cases e1:J4 ei Eu&&(Nat.ble (H.next+2) (2^T.deep)&&Nat.ble l.length (2^T.deep))with
 |false=>rw[e1]at hp; cases hp
 |true =>
  rw[e1]at hp;obtain⟨g1,g23⟩:=Bj.1 e1;obtain⟨g2,g3⟩:=Bj.1 g23;have g2:=AH g2;have g3:=AH g3;simp only[AG]at hp;split at hp
  ·rename_i Fx;simp only[AE,AR]at hp;obtain⟨rfl,rfl⟩:=hp;obtain⟨z,z1,z2,z3,z4⟩:=Ll g1;obtain⟨cp,es,c1,r1,r2,r3⟩:=AT z z1 z2 z3;have ia:=hl.length;have nM:l'.length+(Builtin.zeroCells z.cells (cp-Eu)).size=cp*ei.size:=by
    rw[HO,z4, ← ia,hlen, ← Nat.add_mul]
    congr 1; omega
   have hle:=Ah.Ed (B:=⟨w.heap.size,cp*ei.size,ei.size⟩) hH.free;refine⟨_,(Ctx.own c w.heap.size).M,c.R,.slice (some ⟨w.heap.size,0,none⟩) Eu cp,_,es,hle,.sl (a:=⟨H.next,0,none⟩) (B:=⟨w.heap.size,cp*ei.size,ei.size⟩) (Cy _ _ _) (.inr ⟨rfl,c1,by simp⟩),.inl r1,
    (hH.draw).dI (x:= .cells (l'.toArray++Builtin.zeroCells z.cells (cp-Eu)) elem) (o:= .cells (setFrom l .nil 0) l.length elem ei.size true (H.next+1) true false) AO.draw (by omega) rfl (BR.grown (hl.mono hle) (elem:=elem) rfl rfl nM.symm (by omega) (fun k hk=> ?_) (C7 _ _) (.inr rfl)) (.inr ⟨Fx,rfl⟩) (by show H.next+1<_; omega),
    AO.draw.grow _,Ca.IZ AO _,r2 _,r3,L4.IZ AO _ rfl hhn⟩
   rw[Gq l _ _ _ (by omega),AD (by omega)];simp
  ·cases hp
end
section
variable{P:Program}{ty:DD}{ρ:Ah}{pf:PF}{fr:Frame}{H:PH}{c:Ctx}{w:World}
theorem CE.flat{l l':List Value}(h:CE ρ l l')(hf:l.all Em=true): ∀v∈l',Em v=true:=by
 intro v hv;obtain⟨k,hk⟩:=List.mem_iff_getElem?.1 hv;have Ac:k<l.length:=by
  have:=h.length;have:=(DU.1 hk).1;omega
 obtain⟨u,h1,h2⟩:=h.get k _ (EE Ac);rw[hk]at h1;cases h1;exact O2 h2 (AX.1 hf _ (List.getElem_mem Ac))
theorem De{o:Oper}{b:Builtin}{AAe:Array Operand}{EY:Array TypeId}(ho:o.op= .call {callee:= .builtin b,args:=AAe,argTypes:=EY})(ev:Operand→Value) :
  execOp ev o=builtin b EY o.type (AAe.map fun| .const _=>true|_=>false) (AAe.map ev):=by
 unfold execOp;rw[ho];rfl
theorem N3(hH:HR ρ H c w){b:Nat}{B:RB}(hB:ρ b=some B){o:AI}(ho:H.t.get b=some o)(_hf:o.fam≠0)(Fu:o.mine=true): ∀x X,ρ x=some X→X.blk=B.blk→∃y,H.t.get x=some y∧y.fam=o.fam:=fun x X hx Bn=>by
 by_cases e:x=b
 ·exact⟨o,e ▸ho,rfl⟩
 ·rcases hH.inj x b X B hx hB e Bn with⟨o1,o2,p1,p2,p3,p4⟩|⟨_,q⟩
  ·rw[ho]at p2; cases p2;exact⟨o1,p1,p4⟩
  ·have:=q o ho;rw[Fu]at this; cases this
theorem Lw(hH:HR ρ H c w)(AO:CK c w){sT xT:TypeId}{EY:Array TypeId}(JX:EY= #[sT,xT]){tt elem:TypeId}{ei:TypeInfo}{xd:TypeDesc}(IB:P.underlying sT=some (.slice elem))(n7:P.info? elem=some ei)(nH:P.underlying xT=some xd)(e4:P4 xd=true)
  {sLen n:Nat} {x':Value} {new:List Value} (p1: ∀(w':World) es,(Builtin.lenOf x').runT P w' es=(.ok n w',es)) (p2:new.length=n*ei.size) (p3: ∀(w₀:World),HR ρ H c w₀→∀es,∃l' ev,CE ρ new l'∧(Builtin.firstCells ei.size n x').runT P w₀ es=(.ok l'.toArray w₀,es++ev.toArray)∧JZ c ev)
  {b:Nat} {B:RB} (hB:ρ b=some B) {c':Nat} (_hle:sLen≤c') (H3:c'*B.es≤B.size) {s:Sem Next} (BB: ∀{r:Value} {w':World} {es:Array Event},(Builtin.append_ EY tt #[.slice (some ⟨B.blk,0,none⟩) sLen c',x']).runT P w #[]=(.ok r w',es)→s.runT P w #[]=(.ok (.value r) w',es))
  {tr:T Value} {size es fam:Nat} {l:List Nat} (ho:H.t.get b=some (.cells tr size elem es true fam true false)) (hl:H.BF.get fam=some l) (hf:fam≠0) (RU:fam<2^T.deep) (JJ:es=ei.size) (Bp:sLen*es≤size) (vq:new.all Em=true) (A2:H.next+1≤2^T.deep) (hg:J4 ei (sLen+n)=true) (hd:(sLen+n)*es≤2^T.deep) :
  Sound P ρ H.next (.slice (some ⟨H.next,0,none⟩) (sLen+n) HN) {H with next:=H.next+1,t:=(BH H.t (sLen*es) l).set H.next (.cells (setFrom new tr (sLen*es)) ((sLen+n)*es) elem es true fam true false),BF:=H.BF.set fam (H.next::l)} c w s:=by
 have hb:b<2^T.deep:=AV (hH.Dk b B hB).1 hH.cap;have hr:=hH.rel _ _ _ hB ho;have hK:HR ρ {H with t:=BH H.t (sLen*es) l} c w:=hH.kill _ _;have eN:new.length=n*es:=by rw[p2,JJ]
 have hsum:(sLen+n)*es=sLen*es+n*es:=Nat.add_mul _ _ _;have Yr:=N3 hH hB ho hf rfl;have G4: ∀x X,ρ x=some X→X.blk=B.blk→∃y,(BH H.t (sLen*es) l).get x=some y∧y.fam=fam:=fun x X hx Bn=>by
  obtain⟨y,q1,q2⟩:=Yr x X hx Bn;rcases Gk H.t (sLen*es) l x with e|⟨o',g1,g2⟩
  ·exact⟨y,e.trans q1,q2⟩
  ·rw[q1]at g1; cases g1;exact⟨_,g2,(AI.QI _).trans q2⟩
 obtain⟨ob,eG,WK⟩:=G4 b B hB rfl;have Ew: ∀k,(setFrom new tr (sLen*es)).get k=if sLen*es≤k∧k<sLen*es+new.length then new[k-sLen*es]? else tr.get k:=fun k=>Gq new tr (sLen*es) k (by rw[eN]; omega)
 cases hr with
 |cells hs he D8 QV Ax hR EP =>
  have Zm:=fun(k:Nat) hk=>TC (EP rfl k hk);have hM:=(Ax rfl).1;have hth:=(Ax rfl).2 rfl;by_cases hr:sLen+n≤c'
  ·
   obtain⟨l',ev,q1,q2,q3⟩:=p3 w hH #[];have ia:=q1.length;have hbound:(sLen+n)*es≤B.size:=by
    rw[he]at H3;exact A1 (Nat.mul_le_mul_right _ hr) H3
   obtain⟨w',wv,r1,r2,r3,r4,r5⟩:=LH (P:=P) l' (sLen*es) 0 w (#[]++ev.toArray) hs hth (CE.flat q1 vq) (by omega);have DJ: ∀x X y,ρ x=some X→X.blk=B.blk→(BH H.t (sLen*es) l).get x=some y→y.fam≠0∧(y.FG=true→y.size≤sLen*es):=fun x X y hx Bn hy=>by
    obtain⟨y',g1,g2⟩:=G4 x X hx Bn;rw[hy]at g1; cases g1;refine⟨by rw[g2]; exact hf,fun va=> ?_⟩;obtain⟨l2,m1,m2⟩:=hK.mem x X y hx hy (by rw[g2]; exact hf) va;have m1:H.BF.get y.fam=some l2:=m1;rw[g2,hl]at m1; cases m1;exact J1 H.t (sLen*es) l x m2 (AV (hH.Dk x X hx).1 hH.cap) y hy (by rw[g2]; exact hf) va
   have hW:HR ρ {H with t:=BH H.t (sLen*es) l} c w':=hK.wr r3 (fun k hk=>by rw[r5 k,AA (by omega)]) (fun _=>r4) (fun x X y hx Bn hy=>DJ x X y hx Bn hy) hM AO.rm;have Mx:BR ρ c w' B (.cells (setFrom new tr (sLen*es)) ((sLen+n)*es) elem es true fam true false):=by
    refine .cells ((r3.shape _).trans hs) he (fun e=>absurd e hf) hbound (fun _=>⟨hM,fun _=>r4⟩) (fun e=>by cases e) (fun _ k hk=> ?_);rw[Ew k,r5 k];by_cases e:sLen*es≤k∧k<sLen*es+new.length
    ·rw[AD e,AD (by omega)];obtain⟨v,hv⟩: ∃v,new[k-sLen*es]? =some v:=⟨_,EE (by omega)⟩;obtain⟨v',h1,h2⟩:=q1.get _ v hv;exact .inr ⟨v,v',hv,by simpa using h1,h2⟩
    ·rw[AA e,AA (by omega)];exact .inr (Zm k (by omega))
   have hA:=hW.alias hB eG (by rw[WK]; exact hf) (o':= .cells (setFrom new tr (sLen*es)) ((sLen+n)*es) elem es true fam true false) (by rw[WK]; rfl) A2 (fun x X hx Bn=>by rw[WK]; exact G4 x X hx Bn) Mx (l:=l) (by rw[WK]; exact hl) (by rw[WK]; exact RU);rw[WK]at hA;have Yo:=Ah.Ed (B:=B) hH.free;refine⟨_,c.M,c.R,.slice (some ⟨B.blk,0,none⟩) (sLen+n) c',w',#[]++ev.toArray++wv.toArray,Yo,.sl (a:=⟨H.next,0,none⟩) (Cy _ _ _) (.inr ⟨rfl,hr,by simpa using H3⟩),.inl (BB ?_),hA,⟨fun x hx=>by rw[r3.size]; exact AO.ml x hx,fun x hx=>by rw[r3.size]; exact AO.rl x hx,AO.rm⟩,
    r3.RZ AO hM,BQ.app (BQ.app (BQ.nil _ _ _) (q3.Hj _)) (r2.Hj hM _),GU.app (GU.app (fun e he=>by simp at he) q3.Kg) r2.Kg,⟨fun x hx BK=>⟨hx,r3.keep x fun e=>BK b B hB e.symm⟩,fun x X hx=> ?_,fun x X hx=> ?_⟩⟩
   ·refine run_append_room (P:=P) JX IB n7 nH e4 (p1 w) hr q2 (fun a ha=> ?_) (fun e=>by cases e);cases ha;rw[Mo, ← JJ,DV];simpa using r1
   ·unfold Ah.put at hx;by_cases e:x=H.next
    ·rw[AD e]at hx; cases hx;exact .inl ⟨b,B,hB,rfl,.inr hM⟩
    ·rw[AA e]at hx;exact .inl ⟨x,X,hx,rfl,.inl rfl⟩
   ·unfold Ah.put at hx;by_cases e:x=H.next
    ·exact .inr (by omega)
    ·rw[AA e]at hx;exact .inl hx
  ·
   obtain⟨z,z1,z2,z3,z4⟩:=Ll hg;obtain⟨old,hold⟩:=Mn (t:=tr) (n:=sLen*es) (off:=0) fun k _ hk=>by
    obtain⟨v,v',g1,_⟩:=Zm k (by omega);exact⟨v,g1⟩
   obtain⟨ol,og⟩:=Ga hold;have hpr:pread H ⟨b,0,none⟩ (sLen*es)=some old:=by
    unfold pread;simp only[ho,DV];rw[E4 Bp];simpa using hold
   let q:=Question.appendCap (sLen+n) c' elem
   let cp:=q.cut (w.tape w.drawn q)
   have bG:sLen+n≤cp:=Y7 _ _ _ _;have hHd:=hH.draw;obtain⟨Vs,ev1,o1,o2,o3⟩:=run_read (P:=P) hHd (a:=⟨b,0,none⟩) hB hpr (#[]++Fp (cp*ei.bytes));obtain⟨Vu,ev2,n1,n2,n3⟩:=p3 _ hHd (#[]++Fp (cp*ei.bytes)++ev1.toArray);have aX:=o1.append n1;have ia:=aX.length;have hlen:(old++new).length=(sLen+n)*es:=by rw[List.length_append,ol,eN,hsum]
   have nM:(Vs++Vu).length+(Builtin.zeroCells z.cells (cp-(sLen+n))).size=cp*es:=by
    rw[HO,z4, ← ia,hlen, ← JJ, ← Nat.add_mul]
    congr 1; omega
   have Yo:=Ah.Ed (B:=⟨w.heap.size,cp*es,es⟩) hH.free;have AT:=IH (P:=P) (w:=w) (tt:=tt) JX IB n7 nH e4 z1 (base:=some ⟨B.blk,0,none⟩) (sLen:=sLen) (sCap:=c') (n:=n) (x:=x') (es:= #[]) (p1 w) hr z2 z3 (cp:=cp) rfl (by rw[JJ]at o2; exact o2) n2;have WT:Vs.toArray++Vu.toArray++Builtin.zeroCells z.cells (cp-(sLen+n))=(Vs++Vu).toArray++Builtin.zeroCells z.cells (cp-(sLen+n)):=by simp
   rw[WT]at AT;have Ym: ∀k,k<(old++new).length→(setFrom new tr (sLen*es)).get k=(old++new)[k]? :=fun k hk=>by
    rw[Ew k];rw[hlen]at hk;by_cases e:k<sLen*es
    ·rw[AA (by omega),List.getElem?_append_left (by omega)];simpa using og k e
    ·rw[AD (by omega),List.getElem?_append_right (by omega),ol]
   have Mx:=BR.grown (c':=Ctx.own c w.heap.size) (w':=World.grow (World.draw w) (.cells ((Vs++Vu).toArray++Builtin.zeroCells z.cells (cp-(sLen+n))) elem)) (aX.mono Yo) (elem:=elem) (es:=es) (fam:=fam) (B:=⟨w.heap.size,cp*es,es⟩) rfl rfl nM.symm hf Ym (C7 _ _) (.inr rfl);rw[hlen]at Mx;have hA:=(hK.draw).dI (x:= .cells ((Vs++Vu).toArray++Builtin.zeroCells z.cells (cp-(sLen+n))) elem) AO.draw A2 rfl Mx (l:=l) (.inl hl) RU;exact⟨_,(Ctx.own c w.heap.size).M,c.R,.slice (some ⟨w.heap.size,0,none⟩) (sLen+n) cp,_,_,Yo,.sl (a:=⟨H.next,0,none⟩) (B:=⟨w.heap.size,cp*es,es⟩) (Cy _ _ _) (.inr ⟨rfl,bG,by simp⟩),.inl (BB AT),hA,AO.draw.grow _,Ca.IZ AO _,
    BQ.app (BQ.app (BQ.app (BQ.nil _ _ _) (HJ _ _).1) (o3.Hj _)) (n3.Hj _),GU.app (GU.app (GU.app (fun e he=>by simp at he) (HJ (c:=c) (w:=w) _ w).2) o3.Kg) n3.Kg,L4.IZ AO _ rfl (AN _)⟩
theorem UJ{o:Oper}(A7:A8 P ty)(h:CJ H.ng ρ pf fr o)(hH:HR ρ H c w)(AO:CK c w){sT xT:TypeId}{x y:Operand}{EY:Array TypeId}(JX:EY= #[sT,xT]){AAe:Array Operand}(has:AAe= #[x,y])(ho:o.op= .call {callee:= .builtin .append,args:=AAe,argTypes:=EY})
  {s u v:Value} (hx:AQ H.ng pf x=some s) (hy:AQ H.ng pf y=some u) {H':PH} (hp:S3 ty H sT xT s u=some (v,H')):Sound P ρ H.next v H' c w (execOp fr.eval o):=by
 have hv:=h x (by simp[ho,Op.operands,Call.operands,has]) _ hx;have hu:=h y (by simp[ho,Op.operands,Call.operands,has]) _ hy;unfold S3 at hp;split at hp
 ·rename_i ti elem e1;split at hp
  ·rename_i ei ed e2;split at hp
   ·rename_i tx xd e3;cases e4:P4 xd with
    |false=>rw[e4]at hp; cases hp
    |true =>
     rw[e4]at hp;simp only[AG]at hp;split at hp
     ·rename_i base sLen cap;split at hp
      ·rename_i n new e5;have IB:=(A7 _ _ e1).2;have n7:=(A7 _ _ e2).1;have nH:=(A7 _ _ e3).2;obtain⟨p1,p2,p3⟩:=U3 (P:=P) hH hu e5;have BB: ∀{b':Option Addr} {c':Nat} {r:Value} {w':World} {es:Array Event},fr.eval x= .slice b' sLen c'→(Builtin.append_ EY o.type #[.slice b' sLen c',fr.eval y]).runT P w #[]=(.ok r w',es)→(execOp fr.eval o).runT P w #[]=(.ok (.value r) w',es):=fun {b' c' r w' es} he hr=>by
        have oC:execOp fr.eval o=(Builtin.append_ EY o.type #[.slice b' sLen c',fr.eval y]).bind fun r=>Sem.pure (Next.value r):=by
         rw[De ho,has, ← he];simp only[List.map_toArray,Du,List.map_nil];rfl
        rw[oC,AB hr];rfl
       unfold VF at hp;cases b0:Nat.beq n 0 with
       |true =>
        rw[b0]at hp;simp only[AG]at hp;have b0:=AJ b0;subst b0;cases b1:(Nat.ble sLen cap||(Nat.beq cap HN&&base.isSome))with
        |false=>rw[b1]at hp; cases hp
        |true =>
         rw[b1]at hp;simp only[AG,AE,AR]at hp;obtain⟨rfl,rfl⟩:=hp;obtain⟨l',ev,q1,q2,q3⟩:=p3 #[];have hl0:l'= []:=by
          have:=q1.length;rw[p2]at this;exact Ge.1 (by omega)
         subst hl0;have main: ∀(b':Option Addr) (c':Nat),fr.eval x= .slice b' sLen c'→sLen≤c'→VR ρ (.slice base sLen cap) (.slice b' sLen c')→Sound P ρ H.next (.slice base sLen cap) H c w (execOp fr.eval o):=fun b' c' he hle hr=>by
          refine⟨ρ,c.M,c.R,.slice b' sLen c',w,#[]++ev.toArray,.refl ρ,hr,.inl (BB he ?_),hH,AO,Ca.refl AO,BQ.app (BQ.nil _ _ _) (q3.Hj w),GU.app (fun e he=>by simp at he) q3.Kg,L4.refl _ _ _ _⟩;have:=run_append_room (P:=P) (tt:=o.type) JX IB n7 nH e4 (base:=b') (sLen:=sLen) (sCap:=c') (p1 w) (by omega) q2 (w':=w) (es2:= #[]++ev.toArray) (fun a ha=>by simp[storeCells,pure]) (fun _=>⟨rfl,rfl⟩);simpa using this
         generalize C6:fr.eval x=u' at hv main;cases hv with
         |MC =>
          refine main none cap rfl ?_ (.MC _ _);simp only[Option.isSome_none,Bool.and_false,Bool.or_false]at b1;exact AH b1
         |sl hB hc =>
          refine main _ _ rfl ?_ (.sl hB hc);rcases hc with hc|hc
          ·rw[hc.2];cases bb:Nat.ble sLen cap with
           |true=>exact AH bb
           |false =>
            rw[bb,Bool.false_or,AF]at b1;exact absurd (AJ b1.1) hc.1
          ·exact hc.2.1
       |false =>
        rw[b0]at hp;simp only[Av]at hp;have b0:=Bl b0;have yQ: ∀(w₀:World),HR ρ H c w₀→∀es,∃l' ev,CE ρ new l'∧(Builtin.firstCells ei.size n (fr.eval y)).runT P w₀ es=(.ok l'.toArray w₀,es++ev.toArray)∧JZ c ev:=fun w₀ h₀=>(U3 (P:=P) h₀ hu e5).2.2;have grow: ∀{b':Option Addr} {c':Nat} {old:List Value},fr.eval x= .slice b' sLen c'→¬sLen+n≤c'→old.length=sLen*ei.size→(∀(w₀:World),HR ρ H c w₀→∀es,∃l' ev,CE ρ old l'∧(Builtin.firstCells ei.size sLen (.slice b' sLen c')).runT P w₀ es=(.ok l'.toArray w₀,es++ev.toArray)∧JZ c ev)→
          Pq ei elem H (sLen+n) (old++new)=some (v,H')→Sound P ρ H.next v H' c w (execOp fr.eval o):=fun {b' c' old} he hr vR hold rO=>by
         let q:=Question.appendCap (sLen+n) c' elem
         let cp:=q.cut (w.tape w.drawn q)
         obtain⟨Vs,ev1,o1,o2,o3⟩:=hold _ hH.draw (#[]++Fp (cp*ei.bytes));obtain⟨Vu,ev2,n1,n2,n3⟩:=yQ _ hH.draw (#[]++Fp (cp*ei.bytes)++ev1.toArray);refine Nv (AN _) hH AO (o1.append n1) (by rw[List.length_append,vR,p2,Nat.add_mul]) rO fun z z1 z2 z3=> ?_;have AT:=IH (P:=P) (w:=w) (tt:=o.type) JX IB n7 nH e4 z1 (base:=b') (sLen:=sLen) (sCap:=c') (n:=n) (x:=fr.eval y) (es:= #[]) (p1 w) hr z2 z3 (cp:=cp) rfl o2 n2;have WT:Vs.toArray++Vu.toArray++Builtin.zeroCells z.cells (cp-(sLen+n))=(Vs++Vu).toArray++Builtin.zeroCells z.cells (cp-(sLen+n)):=by simp
         rw[WT]at AT;exact⟨cp,_,Y7 _ _ _ _,BB he AT,fun w'=>BQ.app (BQ.app (BQ.app (BQ.nil _ _ _) (HJ _ _).1) (o3.Hj _)) (n3.Hj _),GU.app (GU.app (GU.app (fun e he=>by simp at he) (HJ (c:=c) (w:=w) _ w).2) o3.Kg) n3.Kg⟩
        generalize C6:fr.eval x=u' at hv BB grow;cases hv with
        |MC =>
         cases b2:Nat.beq cap HN with
         |true=>rw[b2]at hp; cases hp
         |false =>
          rw[b2]at hp;simp only[Av]at hp;cases b3:Nat.ble (sLen+n) cap with
          |true=>rw[b3]at hp; cases hp
          |false =>
           rw[b3]at hp;simp only[Av]at hp;cases b4:Nat.beq sLen 0 with
           |false=>rw[b4]at hp; cases hp
           |true =>
            rw[b4]at hp;have b4:=AJ b4;refine grow (b':=none) (c':=cap) (old:= []) rfl (fun hl=> ?_) (by simp[b4]) (fun w₀ _ es=>⟨[],[],.nil,by simp[Builtin.firstCells,pure],fun e he=>by cases he⟩) hp;rw[E4 hl]at b3; cases b3
        |sl hB hc =>
         rename_i a B c';cases b2:Nat.beq cap HN with
         |true =>
          rw[b2]at hp;have b2:=AJ b2;obtain⟨-,hle,H3⟩:cap=HN∧sLen≤c'∧a.off+c'*B.es≤B.size:=by
           rcases hc with hc|hc
           ·exact absurd b2 hc.1
           ·exact hc
          obtain⟨b,off,spot⟩:=a;simp only[AG]at hp;split at hp
          ·rename_i b' eb;simp only[AE,Addr.mk.injEq]at eb;obtain⟨rfl,rfl,rfl⟩:=eb;split at hp
           ·rename_i tr size el es fam Ck;split at hp
            ·rename_i l hl;cases b3:(!Nat.beq fam 0&&(Nat.blt fam (2^T.deep)&&(Nat.beq es ei.size&&(Nat.beq el elem&&(Nat.ble (sLen*es) size&&(new.all Em&&(Nat.ble (H.next+1) (2^T.deep)&&(J4 ei (sLen+n)&&Nat.ble ((sLen+n)*es) (2^T.deep)))))))))with
             |false=>rw[b3]at hp; cases hp
             |true =>
              rw[b3]at hp;simp only[AG,AE,AR]at hp;obtain⟨rfl,rfl⟩:=hp;simp only[AF,BI]at b3;obtain⟨c1,c2,c3,c4,c5,c6,c7,c8,c9⟩:=b3;have c4:=AJ c4;subst c4;exact Lw hH AO JX IB n7 nH e4 p1 p2 yQ hB hle (by simpa using H3) (fun hr=>BB rfl hr) Ck hl (Bl c1) (AH c2) (AJ c3) (AH c5) c6 (AH c7) c8 (AH c9)
            ·cases hp
           ·cases hp
          ·cases hp
         |false =>
          rw[b2]at hp;simp only[Av]at hp;have eh:c'=cap:=by
           rcases hc with hc|hc
           ·exact hc.2
           ·exact absurd hc.1 (Bl b2)
          subst eh;cases b3:Nat.ble (sLen+n) c' with
          |true =>
           rw[b3]at hp;simp only[AG]at hp;split at hp
           ·rename_i esp;split at hp
            ·rename_i tr size el es Ck;cases b4:(new.all Em&&(Nat.ble (a.off+sLen*ei.size+new.length) size&&Nat.ble size (2^T.deep)))with
             |false=>rw[b4]at hp; cases hp
             |true =>
              rw[b4]at hp;simp only[AG,AE,AR]at hp;obtain⟨rfl,rfl⟩:=hp;simp only[AF]at b4;obtain⟨c1,c2,c3⟩:=b4;obtain⟨l',ev,q1,q2,q3⟩:=yQ w hH #[];obtain⟨w',wv,r1,r2,r3,r4⟩:=Fl (P:=P) hB q1 tr (a.off+sLen*ei.size) 0 H w (#[]++ev.toArray) hH Ck c1 (by have:=AH c2; omega) (AH c3);have hM:c.M B.blk:=by
               have:=hH.rel _ _ _ hB Ck;cases this with
               |cells hs he hf hle Ax hR EP=>exact(Ax rfl).1
              have yM:HR ρ {H with t:=H.t.set a.block (.cells (setFrom new tr (a.off+sLen*ei.size)) size el es true 0 true false)} c w':=r3;refine⟨ρ,c.M,c.R,.slice (some {a with block:=B.blk}) (sLen+n) c',w',#[]++ev.toArray++wv.toArray,.refl ρ,.sl hB (.inl ⟨Bl b2,rfl⟩),.inl (BB rfl ?_),yM,⟨fun x hx=>by rw[r4.size]; exact AO.ml x hx,fun x hx=>by rw[r4.size]; exact AO.rl x hx,AO.rm⟩,ES.RZ AO r4 hM,
               BQ.app (BQ.app (BQ.nil _ _ _) (q3.Hj _)) (r2.Hj hM _),GU.app (GU.app (fun e he=>by simp at he) q3.Kg) r2.Kg,ES.oT r4 hB⟩
              refine run_append_room (P:=P) JX IB n7 nH e4 (p1 w) (AH b3) q2 (fun a' ha=> ?_) (fun e=>by cases e);cases ha;have ea:(({a with block:=B.blk}:Addr).add (sLen*ei.size))=⟨B.blk,a.off+sLen*ei.size,none⟩:=by
               obtain⟨b,off,sp⟩:=a;simp only at esp;subst esp;exact Mo _ _ _
              rw[ea];simpa using r1
            ·cases hp
           ·cases hp
          |false =>
           rw[b3]at hp;simp only[Av]at hp;split at hp
           ·rename_i old e7;refine grow (b':=some {a with block:=B.blk}) (c':=c') rfl (fun hl=> ?_) ?_ (fun w₀ h₀ es=>run_read (P:=P) h₀ hB e7 es) hp
            ·rw[E4 hl]at b3; cases b3
            ·unfold pread at e7;split at e7
             ·split at e7
              ·cases e8:Nat.ble (a.off+sLen*ei.size) _ with
               |false=>rw[e8]at e7; cases e7
               |true=>rw[e8]at e7; exact(Ga e7).1
              ·cases e7
             ·cases e7
           ·cases hp
      ·cases hp
     ·cases hp
   ·cases hp
  ·cases hp
 ·cases hp
end
end Go.Gd
end
