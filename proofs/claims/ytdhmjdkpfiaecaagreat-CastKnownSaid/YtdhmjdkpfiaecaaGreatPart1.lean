/- A part of the proof of CastKnown: no condition of its own. -/
import Derived.Conc.CrowdRun
import Derived.Conc.CrowdComm
import Derived.Conc.QuitsD
import Derived.Conc.RecvAny
import Derived.Conc.WrWorld
noncomputable section
theorem A1: ∀{n m k:Nat},n≤m→m≤k→n≤k:=@Nat.le_trans
theorem AV: ∀{n m k:Nat},n<m→m≤k→n<k:=@Nat.lt_of_lt_of_le
theorem Bf: ∀(n m k:Nat),n+m+k=n+(m+k):=@Nat.add_assoc
theorem FC: ∀{α:Type _} {xs:Array α},xs.toList.length=xs.size:=@Array.length_toList
theorem Eo: ∀{α:Type _} {xs:Array α},xs.size=0→xs= #[]:=@Array.eq_empty_of_size_eq_zero
theorem G7: ∀{α:Type _} {xs:List α} {i:Nat},xs.toArray[i]? =xs[i]? :=@List.getElem?_toArray
theorem CM: ∀{α:Type _} {a:α} {l:List α},(a::l)[0]? =some a:=@List.getElem?_cons_zero
theorem Fg: ∀{α:Type _} {a:α} {i:Nat} {l:List α},(a::l)[i+1]? =l[i]? :=@List.getElem?_cons_succ
theorem Bq:(false=true)=False:=@Bool.false_eq_true
theorem BS: ∀{α:Sort _} {_:Decidable False} (t e:α),(if False then t else e)=e:=@if_false
theorem Ad: ∀{α:Sort _} {_:Decidable True} (t e:α),(if True then t else e)=t:=@if_true
theorem AD: ∀{c:Prop} {_:Decidable c},c→∀{α:Sort _} {t e:α},(if c then t else e)=t:=@if_pos
theorem AA: ∀{c:Prop} {_:Decidable c},¬c→∀{α:Sort _} {t e:α},(if c then t else e)=e:=@if_neg
theorem DY: ∀{α:Type _} {a:α} {s t:List α},a∈s++t↔a∈s∨a∈t:=@List.mem_append
theorem AG: ∀{α:Sort _} (a b:α),(bif true then a else b)=a:=@cond_true
theorem AH: ∀{n m:Nat},n.ble m=true→n≤m:=@Nat.le_of_ble_eq_true
theorem As: ∀{α:Type _} {val val_1:α},some val=some val_1→val=val_1:=@Option.some.inj
theorem AE: ∀{α:Type _} (val val_1:α),(some val=some val_1)=(val=val_1):=@Option.some.injEq
theorem AN: ∀(n:Nat),n≤n:=@Nat.le_refl
theorem AR: ∀{α:Type _} {β:Type _} (fst:α) (snd:β) (fst_1:α) (snd_1:β),((fst,snd)=(fst_1,snd_1))=(fst=fst_1∧snd=snd_1):=@Prod.mk.injEq
theorem AJ: ∀{n m:Nat},n.beq m=true→n=m:=@Nat.eq_of_beq_eq_true
theorem Bd: ∀{α:Type _} {β:Type _} {b:β} {f:α→β} {l:List α},b∈List.map f l↔∃a,a∈l∧f a=b:=@List.mem_map
theorem Dv: ∀{α:Type _} {a:α} {AAe:List α},(a::AAe).length=AAe.length+1:=@List.length_cons
theorem CR: ∀{α:Type _} {xs:Array α} {i:Nat} (h:i<xs.size),xs[i]? =some xs[i]:=@Array.getElem?_eq_getElem
theorem AZ: ∀{α:Type _} {b:α} {l:List α} {a:α},a∈b::l↔a=b∨a∈l:=@List.mem_cons
theorem AF: ∀(a b:Bool),((a&&b)=true)=(a=true∧b=true):=@Bool.and_eq_true
theorem BI: ∀(b:Bool),((!b)=true)=(b=false):=@Bool.not_eq_true'
theorem B8: ∀{α:Type _} {p:α→Bool} {AAe:List α} {x:α},x∈List.filter p AAe↔x∈AAe∧p x=true:=@List.mem_filter
theorem Cq: ∀{m n:Nat},m∈List.range n↔m<n:=@List.mem_range
theorem DX: ∀(a b:Bool),((a||b)=true)=(a=true∨b=true):=@Bool.or_eq_true
theorem Du: ∀{α:Type _} {β:Type _} {f:α→β} {a:α} {l:List α},List.map f (a::l)=f a::List.map f l:=@List.map_cons
theorem DV: ∀(n:Nat),0+n=n:=@Nat.zero_add
theorem Bt: ∀{α:Type _} {xs:Array α} {i:Nat} {d:α},xs.getD i d=xs[i]?.getD d:=@Array.getD_eq_getD_getElem?
theorem A6: ∀{α:Type _} {i:Nat} {b:α} {xs:Array α},xs[i]? =some b↔∃h,xs[i]=b:=@Array.getElem?_eq_some_iff
theorem Bc: ∀{α:Type _} {β:Type _} (a:α) (f:α→β),Option.map f (some a)=some (f a):=@Option.map_some
theorem AX: ∀{α:Type _} {p:α→Bool} {l:List α},l.all p=true↔∀(x:α),x∈l→p x=true:=@List.all_eq_true
theorem Cg: ∀{α:Type _} {l:List α} {i:Nat} {a:α},l[i]? =some a→a∈l:=@List.mem_of_getElem?
theorem Bs: ∀{α:Type _} {xs:Array α} {i:Nat} {a:α},i<xs.size→(xs.setIfInBounds i a)[i]? =some a:=@Array.getElem?_setIfInBounds_self_of_lt
theorem Bb: ∀{α:Type _} {xs:Array α} {i j:Nat},i≠j→∀{a:α},(xs.setIfInBounds i a)[j]? =xs[j]? :=@Array.getElem?_setIfInBounds_ne
theorem E6: ∀{p:Prop} [Decidable p],decide p=true→p:=@of_decide_eq_true
theorem DU: ∀{α:Type _} {i:Nat} {a:α} {l:List α},l[i]? =some a↔∃h,l[i]=a:=@List.getElem?_eq_some_iff
theorem EE: ∀{α:Type _} {l:List α} {i:Nat} (h:i<l.length),l[i]? =some l[i]:=@List.getElem?_eq_getElem
theorem CQ: ∀{α:Type _} {xs:Array α} {i:Nat},xs.toList[i]? =xs[i]? :=@Array.getElem?_toList
theorem DF: ∀{α:Type _} {xs:Array α},xs++ #[]=xs:=@Array.append_empty
theorem ED: ∀{α:Type _} {xs ys:Array α},xs.toList=ys.toList↔xs=ys:=@Array.toList_inj
theorem Av: ∀{α:Sort _} (a b:α),(bif false then a else b)=b:=@cond_false
theorem CL: ∀{α:Type _} {b:α} {α_1:Type _} {x:Option α_1} {f:α_1→α},Option.map f x=some b↔∃a,x=some a∧f a=b:=@Option.map_eq_some_iff
theorem Ce: ∀{a b:Nat},a<b→a<b.succ:=@Nat.lt_succ_of_lt
theorem E5: ∀{α:Type _} {xs:Array α} {i:Nat} {f:α→α} {j:Nat},(xs.modify i f)[j]? =if i=j then Option.map f xs[j]? else xs[j]? :=@Array.getElem?_modify
theorem E4: ∀{n m:Nat},n≤m→n.ble m=true:=@Nat.ble_eq_true_of_le
theorem Bl: ∀{n m:Nat},n.beq m=false→¬n=m:=@Nat.ne_of_beq_eq_false
theorem Gf: ∀(n:Nat),Int.ofNat n= ↑n:=@Int.ofNat_eq_natCast
theorem B3: ∀{α:Type _} {a b:α},a∈ [b]↔a=b:=@List.mem_singleton
theorem Bj: ∀{x y:Bool},(x&&y)=true↔x=true∧y=true:=@Bool.and_eq_true_iff
theorem Cp: ∀{α:Type _} {p:α→Bool} {l:List α},l.any p=true↔∃x,x∈l∧p x=true:=@List.any_eq_true
theorem EC: ∀{α:Type _} {β:Type _} (a:α) (f:α→Option β),(some a).bind f=f a:=@Option.bind_some
theorem Ge: ∀{α:Type _} {l:List α},l.length=0↔l= []:=@List.length_eq_zero_iff
theorem Ea: ∀{α:Type _} {a:α} {xs ys:Array α},a∈xs++ys↔a∈xs∨a∈ys:=@Array.mem_append
theorem E3: ∀{α:Type _} {xs:Array α},xs.toList.toArray=xs:=@Array.toArray_toList
namespace Go.Gw
open Go Go.Conc Go.ConcN
def bk:Loc→Option Nat
 | .cell a=>some a.block
 | .obj r=>some r
 |_=>none
theorem oy{l:Loc}(h:l.isMemory=true): ∃b,bk l=some b:=by
 cases l<;>simp[Loc.isMemory]at h<;>exact⟨_,rfl⟩
theorem counts_old{t u:Trace}{k:Nat}(h:k<t.size):(t++u).counts k↔t.counts k:=by
 unfold Trace.counts;rw[act?_old h,heard_old h]
structure Lk where
 K:Addr→Prop
 mt:Nat→Prop
 P:Nat→Prop
 la:Addr
 B:Nat→Prop
 hand:Nat→Option Nat
def Lk.on(Q:Lk)(i:Nat):Prop:=Q.mt i∧Q.hand i=none
def jS(Mi:Nat→Prop)(Ri:Addr→Prop)(S T:Nat→Nat→Prop)(Q:Lk)(i:Nat)(x:Touch):Prop :=
 (∃b,bk x.loc=some b∧Mi b)∨(∃a,x.loc= .cell a∧Ri a∧x.write=false)∨(∃b,bk x.loc=some b∧T i b∧x.kind≠ .plain∧(x.kind= .said→S i b))∨(∃a,x.loc= .cell a∧Q.K a∧Q.on i∧x.kind= .atomic)
structure TI(n sz:Nat)(M:Nat→Nat→Prop)(R:Nat→Addr→Prop)(S T:Nat→Nat→Prop)(Q:Lk)(acc:Nat→Nat)(t:Trace):Prop where
 mine: ∀i b,M i b→∀k x,touchAt t k=some x→bk x.loc=some b→Knows t i k
 ro: ∀i a,R i a→∀k x,touchAt t k=some x→x.loc= .cell a→x.write=true→Knows t i k
 sh: ∀i b p,T i b→S p b→∀k x,touchAt t k=some x→bk x.loc=some b→Knows t i k∨(x.kind≠ .plain∧(x.kind= .said→t.g? k=some p))
 nr: ∀said,¬Race said t
 gs: ∀(k:Nat) (op:MemOp),t[k]? =some op→op.g<n
 lt: ∀k x b,touchAt t k=some x→bk x.loc=some b→b<sz
 Z3: ∀k g,t.g? k=some g→t.counts k→Knows t (acc g) k
 kw: ∀a,Q.K a→∀k x,touchAt t k=some x→x.loc= .cell a→x.kind= .atomic∨∀i,Q.mt i→Knows t i k
 tok: ∀b,Q.P b→∀k x,touchAt t k=some x→bk x.loc=some b→(∀i,Q.mt i→Knows t i k)∨∃r j,t.act? r=some (.mark (.releaseMerge Q.la))∧t.heard r∧Before t k r∧t.g? r=some j∧Q.mt j∧∀q,Q.hand j=some q→r<q
 OV: ∀b,Q.B b→∀k x,touchAt t k=some x→bk x.loc=some b→(∀i,Q.mt i→Knows t i k)∨∃j,t.g? k=some j∧Q.mt j∧∀q,Q.hand j=some q→k<q
structure bN(sz:Nat)(M:Nat→Nat→Prop)(R:Nat→Addr→Prop)(S T:Nat→Nat→Prop)(Q:Lk):Prop where
 mm: ∀i j b,M i b→M j b→i=j
 ml: ∀i b,M i b→b<sz
 ms: ∀i p b,M i b→¬S p b
 rl: ∀i a,R i a→a.block<sz
 rm: ∀i j a,R i a→¬M j a.block
 rs: ∀i p a,R i a→¬S p a.block
 ss: ∀p q b,S p b→S q b→p=q
 sl: ∀p b,S p b→b<sz
 ts: ∀i b,T i b→∃p,S p b
 kb: ∀a,Q.K a→Q.B a.block
 kr: ∀i a,Q.K a→¬R i a
 bm: ∀i b,Q.B b→¬M i b
 br: ∀i a,Q.B a.block→R i a→Q.on i∧a.spot=none
 bs: ∀p b,Q.B b→¬S p b
 bl: ∀b,Q.B b→b<sz
 pm: ∀i b,Q.P b→¬M i b
 pr: ∀i a,Q.P a.block→¬R i a
 ps: ∀p b,Q.P b→¬S p b
 pl: ∀b,Q.P b→b<sz
 pb: ∀b,Q.P b→¬Q.B b
section
variable{n sz:Nat}{M:Nat→Nat→Prop}{R:Nat→Addr→Prop}{S T:Nat→Nat→Prop}{Q:Lk}{acc:Nat→Nat}{t u:Trace}
theorem TI.freeze{M':Nat→Nat→Prop}{R':Nat→Addr→Prop}{S' T':Nat→Nat→Prop}(h:TI n sz M R S T Q acc t)
  (hM: ∀i b,M' i b→M i b) (hR: ∀i a,R' i a→R i a∨M i a.block) (hS: ∀i b p,T' i b→S' p b→(T i b∧S p b)∨M i b):TI n sz M' R' S' T' Q acc t :=
 ⟨fun i b hb=>h.mine i b (hM i b hb),fun i a ha k x hx hl hw=>(hR i a ha).elim (fun r=>h.ro i a r k x hx hl hw) (fun m=>h.mine i _ m k x hx (by rw[hl]; rfl)),
  fun i b p hb hp k x hx Dn=>(hS i b p hb hp).elim (fun e=>h.sh i b p e.1 e.2 k x hx Dn) (fun m=> .inl (h.mine i b m k x hx Dn)),h.nr,h.gs,h.lt,h.Z3,h.kw,h.tok,h.OV⟩
theorem TI.step(h:TI n sz M R S T Q acc t)(L:bN sz M R S T Q){i sz':Nat}(hi:i<n)(Bp:sz≤sz')(Tp:acc i=i∨∀op∈u,op.act.touch?=none)
  (hu: ∀op∈u,op.g=i∧∀x,op.act.touch?=some x→jS (fun b=>M i b∨(sz≤b∧b<sz')) (R i) S T Q i x) :
  TI n sz' (fun j b=>M j b∨(j=i∧sz≤b∧b<sz')) R S T Q acc (t++u):=by
 have hg: ∀op∈u,op.g=i:=fun op ho=>(hu op ho).1;have split: ∀{k:Nat} {x:Touch},touchAt (t++u) k=some x→(k<t.size∧touchAt t k=some x)∨(∃op,(t++u)[k]? =some op∧op∈u∧op.act.touch?=some x):=by
  intro k x hx;obtain⟨op,ho,FY⟩:=touch_of hx;rcases getElem?_append_cases ho with⟨hk,Ck⟩|⟨_,EU⟩
  ·exact .inl ⟨hk,by rw[touchAt_of Ck]; exact FY⟩
  ·exact .inr ⟨op,ho,EU,FY⟩
 refine⟨?_, ?_, ?_, ?_, ?_, ?_, ?_, ?_, ?_, ?_⟩
 ·intro j b hb k x hx Dn;rcases split hx with⟨_,Hp⟩|⟨op,ho,EU,FY⟩
  ·rcases hb with hb|⟨rfl,hb,_⟩
   ·exact(h.mine j b hb k x Hp Dn).app u
   ·have:=h.lt k x b Hp Dn; omega
  ·by_cases hj:j=i
   ·subst hj; rw[← hg op EU]; exact knows_own ho
   ·exfalso;have hb:M j b:=hb.elim id fun e=>absurd e.1 hj;rcases(hu op EU).2 x FY with⟨b',B7,hM|hn⟩|⟨a,ha,hR,_⟩|⟨b',B7,hT,_⟩|⟨a,ha,hK,_⟩
    ·rw[Dn]at B7; cases B7; exact hj (L.mm _ _ _ hb hM)
    ·rw[Dn]at B7; cases B7; have:=L.ml _ _ hb; omega
    ·rw[ha]at Dn; simp only[bk,AE]at Dn; subst Dn; exact L.rm _ _ _ hR hb
    ·rw[Dn]at B7; cases B7; obtain⟨p,hp⟩:=L.ts _ _ hT; exact L.ms _ _ _ hb hp
    ·rw[ha]at Dn; simp only[bk,AE]at Dn; subst Dn; exact L.bm _ _ (L.kb _ hK) hb
 ·intro j a ha k x hx Fc xS;rcases split hx with⟨_,Hp⟩|⟨op,ho,EU,FY⟩
  ·exact(h.ro j a ha k x Hp Fc xS).app u
  ·exfalso;rcases(hu op EU).2 x FY with⟨b',B7,hM|hn⟩|⟨a',Cx,_,hw⟩|⟨b',B7,hT,_⟩|⟨a',Cx,hK,_⟩
   ·rw[Fc]at B7; simp only[bk,AE]at B7; subst B7; exact L.rm _ _ _ ha hM
   ·rw[Fc]at B7; simp only[bk,AE]at B7; subst B7; have:=L.rl _ _ ha; omega
   ·rw[xS]at hw; cases hw
   ·rw[Fc]at B7; simp only[bk,AE]at B7; subst B7; obtain⟨p,hp⟩:=L.ts _ _ hT; exact L.rs _ _ _ ha hp
   ·rw[Fc]at Cx; cases Cx; exact L.kr _ _ hK ha
 ·intro j b p hb hp k x hx Dn;rcases split hx with⟨hk,Hp⟩|⟨op,ho,EU,FY⟩
  ·rcases h.sh j b p hb hp k x Hp Dn with h1|⟨h1,h2⟩
   ·exact .inl (h1.app u)
   ·exact .inr ⟨h1,fun e=>by rw[g?_old hk]; exact h2 e⟩
  ·rcases(hu op EU).2 x FY with⟨b',B7,hM|hn⟩|⟨a',Cx,hR,_⟩|⟨b',B7,hT,hk,hS⟩|⟨a',Cx,hK,_⟩
   ·rw[Dn]at B7; cases B7; exact absurd hp (L.ms _ _ _ hM)
   ·rw[Dn]at B7; cases B7; have:=L.sl _ _ hp; omega
   ·rw[Cx]at Dn; simp only[bk,AE]at Dn; subst Dn; exact absurd hp (L.rs _ _ _ hR)
   ·rw[Dn]at B7; cases B7;refine .inr ⟨hk,fun e=> ?_⟩;rw[L.ss _ _ _ hp (hS e),Trace.g?,ho,Bc,hg op EU]
   ·rw[Cx]at Dn; simp only[bk,AE]at Dn; subst Dn; exact absurd hp (L.bs _ _ (L.kb _ hK))
 ·intro said;refine noRace_append (h.nr said) hg (fun k a ha op EU x FY hc=> ?_);obtain⟨eK,DJ,hw,kF⟩:=hc;obtain⟨b,hb⟩:=oy DJ;rcases(hu op EU).2 x FY with⟨b',B7,hM|hn⟩|⟨a',Cx,hR,xS⟩|⟨b',B7,hT,hk,hS⟩|⟨a',Cx,hK,IW,Bg⟩
  ·rw[← eK,hb]at B7; cases B7;exact h.mine i b hM k a ha hb
  ·rw[← eK,hb]at B7; cases B7;have:=h.lt k a b ha hb; omega
  ·have haw:a.write=true:=hw.resolve_right (by rw[xS]; simp);exact h.ro i a' hR k a ha (eK.trans Cx) haw
  ·rw[← eK,hb]at B7; cases B7;obtain⟨p,hp⟩:=L.ts _ _ hT;rcases h.sh i b p hT hp k a ha hb with h1|⟨h1,h2⟩
   ·exact h1
   ·rcases kF with e|e|⟨_,e1,e2⟩
    ·exact absurd e h1
    ·exact absurd e hk
    ·have hki:=h2 e1;have:=L.ss _ _ _ hp (hS e2);subst this;obtain⟨hY,Ck,_⟩:=touch_of ha;rw[Trace.g?,Ck,Bc,AE]at hki;rw[← hki]; exact knows_own Ck
  ·rcases h.kw a' hK k a ha (eK.trans Cx)with e|e
   ·rcases kF with e'|e'|⟨_,e',_⟩
    ·rw[e]at e'; cases e'
    ·rw[Bg]at e'; cases e'
    ·rw[e]at e'; cases e'
   ·exact e i IW.1
 ·intro k op ho;rcases getElem?_append_cases ho with⟨_,Ck⟩|⟨_,EU⟩
  ·exact h.gs k op Ck
  ·rw[hg op EU]; exact hi
 ·intro k x b hx Dn;rcases split hx with⟨_,Hp⟩|⟨op,ho,EU,FY⟩
  ·exact AV (h.lt k x b Hp Dn) Bp
  ·rcases(hu op EU).2 x FY with⟨b',B7,hM|hn⟩|⟨a',Cx,hR,_⟩|⟨b',B7,hT,hk,hS⟩|⟨a',Cx,hK,_⟩
   ·rw[Dn]at B7; cases B7; exact AV (L.ml _ _ hM) Bp
   ·rw[Dn]at B7; cases B7; exact hn.2
   ·rw[Cx]at Dn; simp only[bk,AE]at Dn; subst Dn; exact AV (L.rl _ _ hR) Bp
   ·rw[Dn]at B7; cases B7; obtain⟨p,hp⟩:=L.ts _ _ hT; exact AV (L.sl _ _ hp) Bp
   ·rw[Cx]at Dn; simp only[bk,AE]at Dn; subst Dn; exact AV (L.bl _ (L.kb _ hK)) Bp
 ·intro k g ig hc;rcases Nat.lt_or_ge k t.size with hk|hk
  ·rw[g?_old hk]at ig;exact(h.Z3 k g ig ((counts_old hk).1 hc)).app u
  ·obtain⟨op,ho,bC⟩:=CL.1 ig;rcases getElem?_append_cases ho with⟨CP,_⟩|⟨_,EU⟩
   ·omega
   ·rcases Tp with Tp|Tp
    ·have e:g=i:=by rw[← bC]; exact hg op EU
     subst e;rw[Tp];have:=knows_own ho
     rwa [hg op EU]at this
    ·exfalso;obtain⟨x,hx,_⟩:=hc;obtain⟨hY,Ck,FY⟩:=touch_of hx;rw[ho]at Ck; cases Ck;rw[Tp op EU]at FY; cases FY
 ·intro a hK k x hx Fc;rcases split hx with⟨_,Hp⟩|⟨op,ho,EU,FY⟩
  ·exact(h.kw a hK k x Hp Fc).imp id fun e j hj=>(e j hj).app u
  ·rcases(hu op EU).2 x FY with⟨b',B7,hM|hn⟩|⟨a',Cx,hR,_⟩|⟨b',B7,hT,_⟩|⟨a',Cx,_,_,Bg⟩
   ·rw[Fc]at B7; simp only[bk,AE]at B7; subst B7; exact absurd hM (L.bm _ _ (L.kb _ hK))
   ·rw[Fc]at B7; simp only[bk,AE]at B7; subst B7; have:=L.bl _ (L.kb _ hK); omega
   ·rw[Fc]at Cx; cases Cx; exact absurd hR (L.kr _ _ hK)
   ·rw[Fc]at B7; simp only[bk,AE]at B7; subst B7; obtain⟨p,hp⟩:=L.ts _ _ hT; exact absurd hp (L.bs _ _ (L.kb _ hK))
   ·exact .inl Bg
 ·intro b hP k x hx Dn;rcases split hx with⟨_,Hp⟩|⟨op,ho,EU,FY⟩
  ·rcases h.tok b hP k x Hp Dn with e|⟨r,j,h1,h2,h3,h4,h5⟩
   ·exact .inl fun j hj=>(e j hj).app u
   ·have hr:=lt_of_act? h1;exact .inr ⟨r,j,by rw[act?_old hr]; exact h1,(heard_old hr).2 h2,h3.app u,by rw[g?_old hr]; exact h4,h5⟩
  ·exfalso;rcases(hu op EU).2 x FY with⟨b',B7,hM|hn⟩|⟨a',Cx,hR,_⟩|⟨b',B7,hT,_⟩|⟨a',Cx,hK,_⟩
   ·rw[Dn]at B7; cases B7; exact L.pm _ _ hP hM
   ·rw[Dn]at B7; cases B7; have:=L.pl _ hP; omega
   ·rw[Cx]at Dn; simp only[bk,AE]at Dn; subst Dn; exact L.pr _ _ hP hR
   ·rw[Dn]at B7; cases B7; obtain⟨p,hp⟩:=L.ts _ _ hT; exact L.ps _ _ hP hp
   ·rw[Cx]at Dn; simp only[bk,AE]at Dn; subst Dn; exact L.pb _ hP (L.kb _ hK)
 ·intro b hB k x hx Dn;rcases split hx with⟨hk,Hp⟩|⟨op,ho,EU,FY⟩
  ·exact(h.OV b hB k x Hp Dn).imp (fun e j hj=>(e j hj).app u) fun⟨j,e1,e2⟩=>⟨j,by rw[g?_old hk]; exact e1,e2⟩
  ·have on:Q.on i→(∀i,Q.mt i→Knows (t++u) i k)∨∃j,(t++u).g? k=some j∧Q.mt j∧∀q,Q.hand j=some q→k<q:=fun o=> .inr ⟨i,by rw[Trace.g?,ho,Bc,hg op EU],o.1,fun q hq=>by rw[o.2]at hq; cases hq⟩;rcases(hu op EU).2 x FY with⟨b',B7,hM|hn⟩|⟨a',Cx,hR,_⟩|⟨b',B7,hT,_⟩|⟨a',Cx,hK,IW,_⟩
   ·rw[Dn]at B7; cases B7; exact absurd hM (L.bm _ _ hB)
   ·rw[Dn]at B7; cases B7; have:=L.bl _ hB; omega
   ·rw[Cx]at Dn; simp only[bk,AE]at Dn; subst Dn; exact on (L.br _ _ hB hR).1
   ·rw[Dn]at B7; cases B7; obtain⟨p,hp⟩:=L.ts _ _ hT; exact absurd hp (L.bs _ _ hB)
   ·exact on IW
theorem TI.same(h:TI n sz M R S T Q acc t)(L:bN sz M R S T Q){i:Nat}(hi:i<n)(Tp:acc i=i∨∀op∈u,op.act.touch?=none)
  (hu: ∀op∈u,op.g=i∧∀x,op.act.touch?=some x→jS (M i) (R i) S T Q i x):TI n sz M R S T Q acc (t++u) :=
 (h.step L hi (AN sz) Tp fun op ho=>⟨(hu op ho).1,fun x hx=>((hu op ho).2 x hx).imp (fun⟨b,e1,e2⟩=>⟨b,e1,.inl e2⟩) id⟩).freeze (fun _ _ hb=> .inl hb) (fun _ _=> .inl) (fun _ _ _ a b=> .inl ⟨a,b⟩)
theorem TI.quiet(h:TI n sz M R S T Q acc t){i:Nat}(hi:i<n)(hu: ∀op∈u,op.g=i∧op.act.touch?=none):TI n sz M R S T Q acc (t++u):=by
 have old: ∀{k:Nat} {x:Touch},touchAt (t++u) k=some x→touchAt t k=some x:=by
  intro k x hx;obtain⟨op,ho,FY⟩:=touch_of hx;rcases getElem?_append_cases ho with⟨hk,Ck⟩|⟨_,EU⟩
  ·rw[touchAt_of Ck]; exact FY
  ·rw[(hu op EU).2]at FY; cases FY
 have lt: ∀{k:Nat} {x:Touch},touchAt t k=some x→k<t.size:=fun hx=>by
  obtain⟨op,ho,_⟩:=touch_of hx;exact lt_size_of_getElem? ho
 refine⟨fun i b hb k x hx Dn=>(h.mine i b hb k x (old hx) Dn).app u,fun i a ha k x hx hl hw=>(h.ro i a ha k x (old hx) hl hw).app u,fun i b p hb hp k x hx Dn=> ?_,fun said=> ?_,fun k op ho=> ?_,fun k x b hx Dn=>h.lt k x b (old hx) Dn,fun k g ig hc=> ?_,fun a hK k x hx Fc=>(h.kw a hK k x (old hx) Fc).imp id fun e j hj=>(e j hj).app u,fun b hP k x hx Dn=>(h.tok b hP k x (old hx) Dn).imp (fun e j hj=>(e j hj).app u) fun⟨r,j,h1,h2,h3,h4,h5⟩=>⟨r,j,by rw[act?_old (lt_of_act? h1)]; exact h1,(heard_old (lt_of_act? h1)).2 h2,h3.app u,by rw[g?_old (lt_of_act? h1)]; exact h4,h5⟩,fun b hB k x hx Dn=>(h.OV b hB k x (old hx) Dn).imp (fun e j hj=>(e j hj).app u) fun⟨j,e1,e2⟩=>⟨j,by rw[g?_old (lt (old hx))]; exact e1,e2⟩⟩
 ·rcases h.sh i b p hb hp k x (old hx) Dn with h1|⟨h1,h2⟩
  ·exact .inl (h1.app u)
  ·exact .inr ⟨h1,fun e=>by rw[g?_old (lt (old hx))]; exact h2 e⟩
 ·exact noRace_append (h.nr said) (fun op ho=>(hu op ho).1) (fun k a _ op EU x FY _=>by rw[(hu op EU).2]at FY; cases FY)
 ·rcases getElem?_append_cases ho with⟨_,Ck⟩|⟨_,EU⟩
  ·exact h.gs k op Ck
  ·rw[(hu op EU).1]; exact hi
 ·have Ig:=hc;obtain⟨x,hx,_⟩:=Ig;have hk:=lt (old hx);rw[g?_old hk]at ig;exact(h.Z3 k g ig ((counts_old hk).1 hc)).app u
theorem Wg{t:Trace}{p c:Nat}{x y:MemOp}(hx:x.g=p∧x.act= .go c)(hy:y.g=c∧y.act= .start)(h0:Deaf t p=0)(hk:Deaf t c=0){i:Nat}(h:Knows t p i):Knows (t++ #[x,y]) c i:=by
 have dn:(t++ #[x,y])[t.size]? =some x:=by rw[Array.getElem?_append_right (AN _)]; simp
 have hyp:(t++ #[x,y])[t.size+1]? =some y:=by rw[Array.getElem?_append_right (by omega)]; simp
 have h1:HappensBefore (t++ #[x,y]) i t.size:=h.hb_new (AN _) dn hx.1;have e0:(t++ #[x,y]).heard t.size:=⟨p,by simp[Trace.g?,hx.1],by rw[deaf_old (AN _)]; exact h0⟩;have e1:(t++ #[x,y]).heard (t.size+1):=⟨c,by simp[Trace.g?,hy.1],by rw[deaf_succ dn,deaf_old (AN _)]; simp only[deafStep,hx.2]; exact hk⟩;exact⟨t.size+1,y,hyp,hy.1,.inr (h1.trans (.single (.inr ⟨.spawn (child:=c) (by rw[act?_of dn,hx.2]) (by rw[act?_of hyp,hy.2]) (by simp[Trace.g?,hy.1]),e0,e1⟩)))⟩
theorem TI.spawn(h:TI n sz M R S T Q acc t){p:Nat}(hp:p<n){x y:MemOp}(hx:x.g=p∧x.act= .go n)(hy:y.g=n∧y.act= .start)(h0:Deaf t p=0)
  {R':Nat→Addr→Prop} {T':Nat→Nat→Prop} (hM: ∀b,¬M n b) (hR: ∀i a,R' i a→R i a∨(i=n∧R p a)) (hT: ∀i b,T' i b→T i b∨(i=n∧T p b)) {mt':Nat→Prop} (hm: ∀i,mt' i→Q.mt i∨(i=n∧Q.mt p)) (Zn: ∀i,Q.mt i→mt' i) :
  TI (n+1) sz M R' S T' {Q with mt:=mt'} acc (t++ #[x,y]):=by
 have hk:Deaf t n=0:=Deaf_absent fun i op hi e=>by have:=h.gs i op hi; omega
 have hnt: ∀op∈ #[x,y],∀b,op.act.touch?=some b→False:=by
  intro op A5 b hb;simp only[List.mem_toArray,AZ,List.not_mem_nil,or_false]at A5;rcases A5 with rfl|rfl
  ·rw[hx.2]at hb; cases hb
  ·rw[hy.2]at hb; cases hb
 have old: ∀{i:Nat} {a:Touch},touchAt (t++ #[x,y]) i=some a→i<t.size∧touchAt t i=some a:=by
  intro i a ha;obtain⟨z,hz,hza⟩:=touch_of ha;rcases getElem?_append_cases hz with⟨hk,xQ⟩|⟨_,hzu⟩
  ·exact⟨hk,by rw[touchAt_of xQ]; exact hza⟩
  ·exact(hnt z hzu a hza).elim
 have kn: ∀{k:Nat},Knows t p k→Knows (t++ #[x,y]) n k:=fun KZ=>Wg hx hy h0 hk KZ;refine⟨fun i b hb k z hz RR=>(h.mine i b hb k z (old hz).2 RR).app _,fun i a ha k z hz hl hw=> ?_,fun i b q hb hq k z hz RR=> ?_,fun said=> ?_,fun i op hi=> ?_,fun k z b hz RR=>h.lt k z b (old hz).2 RR,fun k g ig hc=> ?_,fun a hK k z hz hzl=>(h.kw a hK k z (old hz).2 hzl).imp id fun e j hj=>(hm j hj).elim (fun hj=>(e j hj).app _) fun⟨e1,He⟩=>by rw[e1]; exact kn (e p He),
  fun b hP k z hz RR=>(h.tok b hP k z (old hz).2 RR).imp (fun e j hj=>(hm j hj).elim (fun hj=>(e j hj).app _) fun⟨e1,He⟩=>by rw[e1]; exact kn (e p He)) fun⟨r,j,h1,h2,h3,h4,h5⟩=>⟨r,j,by rw[act?_old (lt_of_act? h1)]; exact h1,(heard_old (lt_of_act? h1)).2 h2,h3.app _,by rw[g?_old (lt_of_act? h1)]; exact h4,Zn j h5.1,h5.2⟩,
  fun b hB k z hz RR=>(h.OV b hB k z (old hz).2 RR).imp (fun e j hj=>(hm j hj).elim (fun hj=>(e j hj).app _) fun⟨e1,He⟩=>by rw[e1]; exact kn (e p He)) fun⟨j,e1,e2⟩=>⟨j,by rw[g?_old (old hz).1]; exact e1,Zn j e2.1,e2.2⟩⟩
 ·rcases hR i a ha with hr|⟨rfl,hr⟩
  ·exact(h.ro i a hr k z (old hz).2 hl hw).app _
  ·exact kn (h.ro p a hr k z (old hz).2 hl hw)
 ·have side: ∀{z':Touch},(z'.kind≠ .plain∧(z'.kind= .said→t.g? k=some q))→(z'.kind≠ .plain∧(z'.kind= .said→(t++ #[x,y]).g? k=some q)):=fun⟨h1,h2⟩=>⟨h1,fun e=>by rw[g?_old (old hz).1]; exact h2 e⟩;rcases hT i b hb with hr|⟨rfl,hr⟩
  ·exact(h.sh i b q hr hq k z (old hz).2 RR).imp (·.app _) side
  ·exact(h.sh p b q hr hq k z (old hz).2 RR).imp kn side
 ·have e:t++ #[x,y]=(t++ #[x])++ #[y]:=by apply Array.ext'; simp
  rw[e];refine noRace_append (g:=n) (noRace_append (g:=p) (h.nr said) (fun op A5=>by simp at A5; rw[A5]; exact hx.1) (fun i a _ op A5 b hb _=>(hnt op (by simp at A5 ⊢; exact .inl A5) b hb).elim))
   (fun op A5=>by simp at A5; rw[A5]; exact hy.1) (fun i a _ op A5 b hb _=>(hnt op (by simp at A5 ⊢; exact .inr A5) b hb).elim)
 ·rcases getElem?_append_cases hi with⟨_,rS⟩|⟨_,hiu⟩
  ·exact Ce (h.gs i op rS)
  ·simp only[List.mem_toArray,AZ,List.not_mem_nil,or_false]at hiu;rcases hiu with rfl|rfl
   ·rw[hx.1]; omega
   ·rw[hy.1]; omega
 ·have Ig:=hc;obtain⟨z,hz,_⟩:=Ig;have hk:=(old hz).1;rw[g?_old hk]at ig;exact(h.Z3 k g ig ((counts_old hk).1 hc)).app _
structure FT(acc:Nat→Nat)(t:Trace)(j ch s q:Nat)(Rm:Addr→Prop):Prop where
 act:t.act? q=some (.send ch s)
 g:t.g? q=some j
 heard:t.heard q
 all: ∀k g,t.g? k=some g→acc g=j→t.counts k→Before t k q
 ro: ∀a,Rm a→∀k x,touchAt t k=some x→x.loc= .cell a→x.write=true→Before t k q
theorem FT.app{j ch s q:Nat}{Rm:Addr→Prop}(h:FT acc t j ch s q Rm)(hc: ∀k g,t.size≤k→(t++u).g? k=some g→acc g=j→¬(t++u).counts k)
  (hr: ∀op∈u,∀x,op.act.touch?=some x→∀a,Rm a→x.loc= .cell a→x.write=false):FT acc (t++u) j ch s q Rm:=by
 have hq:q<t.size:=lt_of_act? h.act;refine⟨by rw[act?_old hq]; exact h.act,by rw[g?_old hq]; exact h.g,(heard_old hq).2 h.heard,fun k g hg ha hk=> ?_,fun a ha k x hx hl hw=> ?_⟩
 ·rcases Nat.lt_or_ge k t.size with Ac|gT
  ·rw[g?_old Ac]at hg;exact(h.all k g hg ha ((counts_old Ac).1 hk)).app u
  ·exact absurd hk (hc k g gT hg ha)
 ·obtain⟨op,ho,FY⟩:=touch_of hx;rcases getElem?_append_cases ho with⟨_,Ck⟩|⟨_,EU⟩
  ·exact(h.ro a ha k x (by rw[touchAt_of Ck]; exact FY) hl hw).app u
  ·rw[hr op EU x FY a ha hl]at hw; cases hw
theorem FT.new(h:TI n sz M R S T Q acc t){j ch s:Nat}{x:MemOp}(hx:x.g=j∧x.act= .send ch s)(h0:Deaf t j=0){Rm:Addr→Prop}(hR: ∀a,Rm a→R j a∨M j a.block):FT acc (t++ #[x]) j ch s t.size Rm:=by
 have dn:(t++ #[x])[t.size]? =some x:=by simp
 have kn: ∀{k:Nat},Knows t j k→Before (t++ #[x]) k t.size:=fun hk=> .inr (hk.hb_new (AN _) dn hx.1);have old: ∀{k:Nat} {z:Touch},touchAt (t++ #[x]) k=some z→k<t.size∧touchAt t k=some z:=by
  intro k z hz;obtain⟨op,ho,eE⟩:=touch_of hz;rcases getElem?_append_cases ho with⟨hk,Ck⟩|⟨_,EU⟩
  ·exact⟨hk,by rw[touchAt_of Ck]; exact eE⟩
  ·simp at EU; subst EU; rw[hx.2]at eE; cases eE
 refine⟨by rw[act?_of dn,hx.2],by simp[Trace.g?,hx.1],⟨j,by simp[Trace.g?,hx.1],by rw[deaf_old (AN _)]; exact h0⟩,fun k g hg ha hc=> ?_,fun a ha k z hz hl hw=> ?_⟩
 ·have Ig:=hc;obtain⟨z,hz,_⟩:=Ig;have hk:=(old hz).1;rw[g?_old hk]at hg;have:=h.Z3 k g hg ((counts_old hk).1 hc);rw[ha]at this;exact kn this
 ·exact kn ((hR a ha).elim (fun r=>h.ro j a r k z (old hz).2 hl hw) (fun m=>h.mine j _ m k z (old hz).2 (by rw[hl]; rfl)))
theorem TI.Nc(h:TI n sz M R S T Q acc t){j p ch s q:Nat}{Rm:Addr→Prop}(f:FT acc t j ch s q Rm){z:MemOp}(hp:p<n)(hz:z.g=p∧z.act= .recvDone ch s)(h0:Deaf t p=0)
  {acc':Nat→Nat} (ha: ∀g,acc' g=if acc g=j then p else acc g) {R':Nat→Addr→Prop} (hR: ∀i a,R' i a→R i a∨(i=p∧Rm a)):TI n sz M R' S T Q acc' (t++ #[z]):=by
 have h':=h.quiet (u:= #[z]) hp (by intro op A5; simp at A5; subst A5; exact⟨hz.1,by rw[hz.2]; rfl⟩);have j7:(t++ #[z])[t.size]? =some z:=by simp
 have hq:q<t.size:=lt_of_act? f.act;have fT:HappensBefore (t++ #[z]) q t.size:= .single (.inr ⟨.handOver (c:=ch) (k:=s) (by rw[act?_old hq]; exact f.act) (by rw[act?_of j7,hz.2]),(heard_old hq).2 f.heard,⟨p,by simp[Trace.g?,hz.1],by rw[deaf_old (AN _)]; exact h0⟩⟩);have kn: ∀{k:Nat},Before t k q→Knows (t++ #[z]) p k:=fun hk=>⟨t.size,z,j7,hz.1,.inr ((hk.app _).hb fT)⟩;have old: ∀{k:Nat} {x:Touch},touchAt (t++ #[z]) k=some x→k<t.size∧touchAt t k=some x:=by
  intro k x hx;obtain⟨op,ho,FY⟩:=touch_of hx;rcases getElem?_append_cases ho with⟨hk,Ck⟩|⟨_,EU⟩
  ·exact⟨hk,by rw[touchAt_of Ck]; exact FY⟩
  ·simp at EU; subst EU; rw[hz.2]at FY; cases FY
 refine⟨h'.mine,fun i a hi k x hx hl hw=> ?_,h'.sh,h'.nr,h'.gs,h'.lt,fun k g hg hc=> ?_,h'.kw,h'.tok,fun b hB k x hx Dn=>(h.OV b hB k x (old hx).2 Dn).imp (fun e j hj=>(e j hj).app _) fun⟨j,e1,e2⟩=>⟨j,by rw[g?_old (old hx).1]; exact e1,e2⟩⟩
 ·rcases hR i a hi with hr|⟨rfl,hr⟩
  ·exact h'.ro i a hr k x hx hl hw
  ·exact kn (f.ro a hr k x (old hx).2 hl hw)
 ·rw[ha g];by_cases e:acc g=j
  ·rw[AD e];have Ig:=hc;obtain⟨x,hx,_⟩:=Ig;have hk:=(old hx).1;rw[g?_old hk]at hg;exact kn (f.all k g hg e ((counts_old hk).1 hc))
  ·rw[AA e]; exact h'.Z3 k g hg hc
theorem FT.XX{acc':Nat→Nat}{j ch s q:Nat}{Rm:Addr→Prop}(h:FT acc t j ch s q Rm)(ha: ∀g,acc' g=j→acc g=j):FT acc' t j ch s q Rm :=
 ⟨h.act,h.g,h.heard,fun k g hg e=>h.all k g hg (ha g e),h.ro⟩
end
end Go.Gw
namespace Go.Gm
open Go Go.Conc Go.ConcN
theorem GC: ∀n:Nat,(sumTo n fun _=>0)=0
 |0=>rfl
 |n+1=>by simp[sumTo,GC n]
inductive LP where
 |out|loop (aw:Bool)|Cs|up|hold|SX|rel|fin
 deriving DecidableEq
structure MW where
 l:Bool
 wk:Bool
 sv:Bool
 q:Nat
def b1(b:Bool):Nat:=if b then 1 else 0
def MW.val(m:MW):Int:=b1 m.l+2*b1 m.wk+4*b1 m.sv+8*m.q
def MW.x(m:MW):Bool:=m.sv&& !m.l
def DH:LP→Nat| .hold=>1|_=>0
def Cc:LP→Nat| .Cs=>1|_=>0
def GM:LP→Nat| .rel=>1|_=>0
def Hc:LP→Nat| .SX=>1|_=>0
def CW:LP→Nat| .loop true=>1|_=>0
def Lh:LP→Nat| .up=>1|_=>0
def Hd:LP→Nat
 | .out=>5| .loop false=>5| .loop true=>4| .Cs=>3| .up=>4| .hold=>3| .SX=>2| .rel=>1| .fin=>0
def num(k:LP→Nat)(n:Nat)(p:Nat→LP):Nat:=sumTo n fun j=>k (p j)
theorem HA(k:LP→Nat){n:Nat}(p:Nat→LP){i:Nat}(hi:i<n)(x:LP):num k n (upd p i x)+k (p i)=num k n p+k x:=sumTo_upd p x k hi
theorem Jt(k:LP→Nat){n:Nat}(p:Nat→LP){i:Nat}(hi:i<n):k (p i)≤num k n p:=le_sumTo (f:=fun j=>k (p j)) hi
structure MI(n:Nat)(p:Nat→LP)(m:MW)(s:Nat):Prop where
 held:num DH n p=b1 m.l
 wait:num Cc n p+b1 m.x=m.q+s+num GM n p
 tok:num CW n p+num Lh n p+num GM n p+s=b1 m.wk+b1 m.x
 look:m.l=false→m.sv=false→m.wk=false→0<m.q→0<num Hc n p
 strv:m.sv=true→0<m.q
 svwk:m.sv=true→m.wk=false
 svaw:m.sv=true→num CW n p=0
def EX(n:Nat)(p:Nat→LP)(s:Nat):Nat:=num Hd n p+s
section
variable{n:Nat}{p:Nat→LP}{m:MW}{s i:Nat}
theorem fy(b:Bool):b1 b≤1:=by cases b<;>simp[b1]
theorem b1_t:b1 true=1:=rfl
theorem b1_f:b1 false=0:=rfl
theorem counts(p:Nat→LP)(hi:i<n)(x:LP) :
  (num DH n (upd p i x)+DH (p i)=num DH n p+DH x)∧(num Cc n (upd p i x)+Cc (p i)=num Cc n p+Cc x)∧(num GM n (upd p i x)+GM (p i)=num GM n p+GM x)∧
  (num Hc n (upd p i x)+Hc (p i)=num Hc n p+Hc x)∧(num CW n (upd p i x)+CW (p i)=num CW n p+CW x)∧(num Lh n (upd p i x)+Lh (p i)=num Lh n p+Lh x)∧(num Hd n (upd p i x)+Hd (p i)=num Hd n p+Hd x) :=
 ⟨HA _ p hi x,HA _ p hi x,HA _ p hi x,HA _ p hi x,HA _ p hi x,HA _ p hi x,HA _ p hi x⟩
theorem MI.only(h:MI n p m s){j:Nat}(hi:i<n)(hj:j<n)(h1:p i= .hold)(h2:p j= .hold):i=j:=by
 by_cases e:j=i
 ·exact e.symm
 ·have a:=HA DH p hi .fin;have b:=Jt DH (upd p i .fin) hj;rw[upd_ne _ _ e,h2]at b;rw[h1]at a;simp only[DH]at a b;have:=h.held;have:=fy m.l;omega
theorem MI.holds(h:MI n p m s)(hi:i<n)(hp:p i= .hold):m.l=true:=by
 have a:=Jt DH p hi;rw[hp]at a;simp only[DH]at a;have:=h.held;cases e:m.l with
 |true=>rfl
 |false=>rw[e,b1_f]at this; omega
theorem MI.jC(h:MI n p m s)(hi:i<n)(hp:p i= .out)(h1:m.val=0):MI n (upd p i .hold) ⟨true,false,false,0⟩ s∧EX n (upd p i .hold) s+2=EX n p s:=by
 obtain⟨c1,c2,c3,c4,c5,c6,c7⟩:=counts p hi .hold;rw[hp]at c1 c2 c3 c4 c5 c6 c7;simp only[DH,Cc,GM,Hc,CW,Lh,Hd]at c1 c2 c3 c4 c5 c6 c7;obtain⟨l,wk,sv,q⟩:=m;obtain⟨e1,e2,e3,e4,e5,e6,e7⟩:=h;unfold MW.val at h1;cases l<;>cases wk<;>cases sv<;>simp[b1,MW.x]at* <;>first|omega|(refine⟨⟨?_, ?_, ?_, ?_, ?_, ?_, ?_⟩, ?_⟩<;>simp[b1,MW.x,EX]<;>omega)
theorem MI.Z4(h:MI n p m s)(hi:i<n)(hp:p i= .loop false)(h1:m.l=true)(h2:m.sv=false)(h3:m.wk=false):MI n (upd p i (.loop true)) {m with wk:=true} s∧EX n (upd p i (.loop true)) s+1=EX n p s:=by
 obtain⟨c1,c2,c3,c4,c5,c6,c7⟩:=counts p hi (.loop true);rw[hp]at c1 c2 c3 c4 c5 c6 c7;simp only[DH,Cc,GM,Hc,CW,Lh,Hd]at c1 c2 c3 c4 c5 c6 c7;obtain⟨l,wk,sv,q⟩:=m;obtain⟨e1,e2,e3,e4,e5,e6,e7⟩:=h;simp only at h1 h2 h3;subst h1 h2 h3;simp[b1,MW.x]at *;refine⟨⟨?_, ?_, ?_, ?_, ?_, ?_, ?_⟩, ?_⟩<;>simp[b1,MW.x,EX]<;>omega
theorem MI.take(h:MI n p m s)(hi:i<n){aw:Bool}(hp:p i= .loop aw)(h1:m.l=false)(h2:m.sv=false):MI n (upd p i .hold) {m with l:=true,wk:=m.wk&& !aw} s∧EX n (upd p i .hold) s+1≤EX n p s:=by
 obtain⟨c1,c2,c3,c4,c5,c6,c7⟩:=counts p hi .hold;rw[hp]at c1 c2 c3 c4 c5 c6 c7;obtain⟨l,wk,sv,q⟩:=m;obtain⟨e1,e2,e3,e4,e5,e6,e7⟩:=h;simp only at h1 h2;subst h1 h2;cases aw<;>cases wk<;>simp only[DH,Cc,GM,Hc,CW,Lh,Hd]at c1 c2 c3 c4 c5 c6 c7<;>simp[b1,MW.x]at* <;>first|omega|(refine⟨⟨?_, ?_, ?_, ?_, ?_, ?_, ?_⟩, ?_⟩<;>simp[b1,MW.x,EX]<;>omega)
theorem MI.BX(h:MI n p m s)(hi:i<n){aw jl:Bool}(hp:p i= .loop aw)(h1:m.l=true∨m.sv=true)(dx:jl=true→aw=true∧m.l=true) :
  MI n (upd p i .Cs) {m with wk:=m.wk&& !aw,sv:=m.sv||jl,q:=m.q+1} s∧EX n (upd p i .Cs) s+1≤EX n p s:=by
 obtain⟨c1,c2,c3,c4,c5,c6,c7⟩:=counts p hi .Cs;have d:=Jt CW p hi;rw[hp]at c1 c2 c3 c4 c5 c6 c7 d;obtain⟨l,wk,sv,q⟩:=m;obtain⟨e1,e2,e3,e4,e5,e6,e7⟩:=h;cases aw<;>cases wk<;>cases l<;>cases sv<;>cases jl<;>simp only[DH,Cc,GM,Hc,CW,Lh,Hd]at c1 c2 c3 c4 c5 c6 c7 d<;>simp[b1,MW.x]at* <;>
  first|omega|(refine⟨⟨?_, ?_, ?_, ?_, ?_, ?_, ?_⟩, ?_⟩<;>simp[b1,MW.x,EX]<;>omega)
theorem MI.pass(h:MI n p m (s+1))(hi:i<n)(hp:p i= .Cs):MI n (upd p i .up) m s∧EX n (upd p i .up) s=EX n p (s+1):=by
 obtain⟨c1,c2,c3,c4,c5,c6,c7⟩:=counts p hi .up;rw[hp]at c1 c2 c3 c4 c5 c6 c7;simp only[DH,Cc,GM,Hc,CW,Lh,Hd]at c1 c2 c3 c4 c5 c6 c7;obtain⟨e1,e2,e3,e4,e5,e6,e7⟩:=h;exact⟨⟨by omega,by omega,by omega,fun a b c d=>by have:=e4 a b c d; omega,e5,e6,fun a=>by have:=e7 a; omega⟩,by simp only[EX]; omega⟩
theorem MI.back(h:MI n p m s)(hi:i<n)(hp:p i= .up)(h1:m.sv=false):MI n (upd p i (.loop true)) m s∧EX n (upd p i (.loop true)) s=EX n p s∧m.wk=true:=by
 obtain⟨c1,c2,c3,c4,c5,c6,c7⟩:=counts p hi (.loop true);have d:=Jt Lh p hi;rw[hp]at c1 c2 c3 c4 c5 c6 c7 d;simp only[DH,Cc,GM,Hc,CW,Lh,Hd]at c1 c2 c3 c4 c5 c6 c7 d;obtain⟨e1,e2,e3,e4,e5,e6,e7⟩:=h;obtain⟨l,wk,sv,q⟩:=m;simp only at h1;subst h1;refine⟨⟨by omega,by omega,by omega,fun a b c d=>by have:=e4 a b c d; omega,e5,e6,fun a=>by cases a⟩,by simp only[EX]; omega, ?_⟩;cases wk with
 |true=>rfl
 |false=>simp[b1,MW.x]at e3; omega
theorem MI.handed(h:MI n p m s)(hi:i<n)(hp:p i= .up)(h1:m.sv=true):m.l=false∧m.wk=false∧0<m.q:=by
 have d:=Jt Lh p hi;rw[hp]at d;simp only[Lh]at d;obtain⟨e1,e2,e3,e4,e5,e6,e7⟩:=h;obtain⟨l,wk,sv,q⟩:=m;simp only at h1;subst h1;cases l<;>cases wk<;>simp[b1,MW.x]at* <;>omega
theorem MI.fH(h:MI n p m s)(hi:i<n)(hp:p i= .up)(h1:m.sv=true){keep:Bool}(hk:keep=true→1<m.q):MI n (upd p i .hold) {m with l:=true,sv:=keep,q:=m.q-1} s∧EX n (upd p i .hold) s+1=EX n p s:=by
 obtain⟨g1,g2,g3⟩:=h.handed hi hp h1;obtain⟨c1,c2,c3,c4,c5,c6,c7⟩:=counts p hi .hold;rw[hp]at c1 c2 c3 c4 c5 c6 c7;simp only[DH,Cc,GM,Hc,CW,Lh,Hd]at c1 c2 c3 c4 c5 c6 c7;obtain⟨e1,e2,e3,e4,e5,e6,e7⟩:=h;obtain⟨l,wk,sv,q⟩:=m;simp only at h1 g1 g2 g3 hk;subst h1 g1 g2;cases keep<;>simp[b1,MW.x]at* <;>(refine⟨⟨?_, ?_, ?_, ?_, ?_, ?_, ?_⟩, ?_⟩<;>simp[b1,MW.x,EX]<;>omega)
theorem MI.fK(h:MI n p m s)(hi:i<n)(hp:p i= .hold)(h1:m.val=1):MI n (upd p i .fin) ⟨false,false,false,0⟩ s∧EX n (upd p i .fin) s+3=EX n p s:=by
 obtain⟨c1,c2,c3,c4,c5,c6,c7⟩:=counts p hi .fin;rw[hp]at c1 c2 c3 c4 c5 c6 c7;simp only[DH,Cc,GM,Hc,CW,Lh,Hd]at c1 c2 c3 c4 c5 c6 c7;obtain⟨l,wk,sv,q⟩:=m;obtain⟨e1,e2,e3,e4,e5,e6,e7⟩:=h;unfold MW.val at h1;cases l<;>cases wk<;>cases sv<;>simp[b1,MW.x]at* <;>first|omega|(refine⟨⟨?_, ?_, ?_, ?_, ?_, ?_, ?_⟩, ?_⟩<;>simp[b1,MW.x,EX]<;>omega)
theorem MI.Wf(h:MI n p m s)(hi:i<n)(hp:p i= .hold)(h1:m.sv=false):MI n (upd p i .SX) {m with l:=false} s∧EX n (upd p i .SX) s+1=EX n p s:=by
 have hl:=h.holds hi hp;obtain⟨c1,c2,c3,c4,c5,c6,c7⟩:=counts p hi .SX;rw[hp]at c1 c2 c3 c4 c5 c6 c7;simp only[DH,Cc,GM,Hc,CW,Lh,Hd]at c1 c2 c3 c4 c5 c6 c7;obtain⟨l,wk,sv,q⟩:=m;obtain⟨e1,e2,e3,e4,e5,e6,e7⟩:=h;simp only at h1 hl;subst h1 hl;simp[b1,MW.x]at *;refine⟨⟨?_, ?_, ?_, ?_, ?_, ?_, ?_⟩, ?_⟩<;>simp[b1,MW.x,EX]<;>omega
theorem MI.We(h:MI n p m s)(hi:i<n)(hp:p i= .hold)(h1:m.sv=true):MI n (upd p i .rel) {m with l:=false} s∧EX n (upd p i .rel) s+2=EX n p s:=by
 have hl:=h.holds hi hp;obtain⟨c1,c2,c3,c4,c5,c6,c7⟩:=counts p hi .rel;rw[hp]at c1 c2 c3 c4 c5 c6 c7;simp only[DH,Cc,GM,Hc,CW,Lh,Hd]at c1 c2 c3 c4 c5 c6 c7;obtain⟨l,wk,sv,q⟩:=m;obtain⟨e1,e2,e3,e4,e5,e6,e7⟩:=h;simp only at h1 hl;subst h1 hl;cases wk<;>simp[b1,MW.x]at* <;>first|omega|(refine⟨⟨?_, ?_, ?_, ?_, ?_, ?_, ?_⟩, ?_⟩<;>simp[b1,MW.x,EX]<;>omega)
theorem MI.leave(h:MI n p m s)(hi:i<n)(hp:p i= .SX)(h1:m.q=0∨m.l=true∨m.wk=true∨m.sv=true):MI n (upd p i .fin) m s∧EX n (upd p i .fin) s+2=EX n p s:=by
 obtain⟨c1,c2,c3,c4,c5,c6,c7⟩:=counts p hi .fin;rw[hp]at c1 c2 c3 c4 c5 c6 c7;simp only[DH,Cc,GM,Hc,CW,Lh,Hd]at c1 c2 c3 c4 c5 c6 c7;obtain⟨e1,e2,e3,e4,e5,e6,e7⟩:=h;refine⟨⟨by omega,by omega,by omega,fun a b c d=> ?_,e5,e6,fun a=>by have:=e7 a; omega⟩,by simp only[EX]; omega⟩;rw[a,b,c]at h1;simp at h1;omega
theorem MI.call(h:MI n p m s)(hi:i<n)(hp:p i= .SX)(h0:m.l=false)(h1:m.wk=false)(h2:m.sv=false)(h3:0<m.q):MI n (upd p i .rel) {m with wk:=true,q:=m.q-1} s∧EX n (upd p i .rel) s+1=EX n p s:=by
 obtain⟨c1,c2,c3,c4,c5,c6,c7⟩:=counts p hi .rel;rw[hp]at c1 c2 c3 c4 c5 c6 c7;simp only[DH,Cc,GM,Hc,CW,Lh,Hd]at c1 c2 c3 c4 c5 c6 c7;obtain⟨l,wk,sv,q⟩:=m;obtain⟨e1,e2,e3,e4,e5,e6,e7⟩:=h;simp only at h0 h1 h2 h3;subst h0 h1 h2;simp[b1,MW.x]at *;refine⟨⟨?_, ?_, ?_, ?_, ?_, ?_, ?_⟩, ?_⟩<;>simp[b1,MW.x,EX]<;>omega
theorem MI.raise(h:MI n p m s)(hi:i<n)(hp:p i= .rel):MI n (upd p i .fin) m (s+1)∧EX n (upd p i .fin) (s+1)=EX n p s:=by
 obtain⟨c1,c2,c3,c4,c5,c6,c7⟩:=counts p hi .fin;rw[hp]at c1 c2 c3 c4 c5 c6 c7;simp only[DH,Cc,GM,Hc,CW,Lh,Hd]at c1 c2 c3 c4 c5 c6 c7;obtain⟨e1,e2,e3,e4,e5,e6,e7⟩:=h;exact⟨⟨by omega,by omega,by omega,fun a b c d=>by have:=e4 a b c d; omega,e5,e6,fun a=>by have:=e7 a; omega⟩,by simp only[EX]; omega⟩
theorem MI.MB(h:MI n p m 0)(hi:i<n)(hp:p i= .Cs): ∃j,j<n∧p j≠ .Cs∧p j≠ .fin:=by
 refine Classical.byContradiction fun bD=> ?_;have G4: ∀j,j<n→p j= .Cs∨p j= .fin:=fun j hj=>by
  by_cases e:p j= .Cs
  ·exact .inl e
  ·by_cases e':p j= .fin
   ·exact .inr e'
   ·exact absurd ⟨j,hj,e,e'⟩ bD
 have zero: ∀(k:LP→Nat),k .Cs=0→k .fin=0→num k n p=0:=fun k k1 k2=>by
  have:num k n p=sumTo n fun _=>0:=sumTo_congr fun j hj=>by rcases G4 j hj with e|e<;>rw[e]<;>assumption
  rw[this];exact GC n
 have a:=Jt Cc p hi;rw[hp]at a;simp only[Cc]at a;obtain⟨e1,e2,e3,e4,e5,e6,e7⟩:=h;have z1:=zero DH rfl rfl;have z2:=zero GM rfl rfl;have z3:=zero Hc rfl rfl;have z4:=zero CW rfl rfl;have z5:=zero Lh rfl rfl;obtain⟨l,wk,sv,q⟩:=m;cases l<;>cases wk<;>cases sv<;>simp[b1,MW.x]at* <;>omega
end
theorem MW.val_inj{m m':MW}(h:m.val=m'.val):m=m':=by
 obtain⟨l,wk,sv,q⟩:=m;obtain⟨l',wk',jl,q'⟩:=m';unfold MW.val at h;cases l<;>cases wk<;>cases sv<;>cases l'<;>cases wk'<;>cases jl<;>simp[b1]at h ⊢ <;>omega
inductive Tr:LP→MW→LP→MW→Prop where
 |jC:Tr .out ⟨false,false,false,0⟩ .hold ⟨true,false,false,0⟩
 |Z4 {q:Nat}:Tr (.loop false) ⟨true,false,false,q⟩ (.loop true) ⟨true,true,false,q⟩
 |take {aw wk:Bool} {q:Nat}:Tr (.loop aw) ⟨false,wk,false,q⟩ .hold ⟨true,wk&& !aw,false,q⟩
 |BX {aw l wk sv jl:Bool} {q:Nat} (h1:l=true∨sv=true) (h2:jl=true→aw=true∧l=true):Tr (.loop aw) ⟨l,wk,sv,q⟩ .Cs ⟨l,wk&& !aw,sv||jl,q+1⟩
 |fH {keep:Bool} {q:Nat} (h:keep=true→0<q):Tr .up ⟨false,false,true,q+1⟩ .hold ⟨true,false,keep,q⟩
 |fK:Tr .hold ⟨true,false,false,0⟩ .fin ⟨false,false,false,0⟩
 |Wf {wk:Bool} {q:Nat}:Tr .hold ⟨true,wk,false,q⟩ .SX ⟨false,wk,false,q⟩
 |kS {wk:Bool} {q:Nat} (h:q=0∨wk=true):Tr .hold ⟨true,wk,false,q⟩ .fin ⟨false,wk,false,q⟩
 |We {wk:Bool} {q:Nat}:Tr .hold ⟨true,wk,true,q⟩ .rel ⟨false,wk,true,q⟩
 |call {q:Nat}:Tr .SX ⟨false,false,false,q+1⟩ .rel ⟨false,true,false,q⟩
inductive Si:LP→MW→LP→Prop where
 |same {x:LP} {m:MW}:Si x m x
 |tp {m:MW} (h:m.val≠0):Si .out m (.loop false)
 |back {m:MW} (h:m.sv=false):Si .up m (.loop true)
 |leave {m:MW} (h:m.q=0∨m.l=true∨m.wk=true∨m.sv=true):Si .SX m .fin
section
variable{n:Nat}{p:Nat→LP}{m m':MW}{s i:Nat}{x:LP}
theorem MI.SY(h:MI n p m s)(hi:i<n)(ht:Tr (p i) m x m'):MI n (upd p i x) m' s∧EX n (upd p i x) s<EX n p s:=by
 generalize hp:p i=y at ht;cases ht with
 |jC =>
  obtain⟨a,b⟩:=h.jC hi hp (by simp[MW.val,b1]);exact⟨a,by omega⟩
 |Z4 =>
  obtain⟨a,b⟩:=h.Z4 hi hp rfl rfl rfl;exact⟨a,by omega⟩
 |take =>
  obtain⟨a,b⟩:=h.take hi hp rfl rfl;exact⟨a,by omega⟩
 |BX h1 h2 =>
  obtain⟨a,b⟩:=h.BX hi hp h1 h2;exact⟨a,by omega⟩
 |fH hk =>
  obtain⟨a,b⟩:=h.fH (keep:=_) hi hp rfl (fun e=>by have:=hk e; show 1<_+1; omega);exact⟨a,by omega⟩
 |fK =>
  obtain⟨a,b⟩:=h.fK hi hp (by simp[MW.val,b1]);exact⟨a,by omega⟩
 |Wf =>
  obtain⟨a,b⟩:=h.Wf hi hp rfl;exact⟨a,by omega⟩
 |We =>
  obtain⟨a,b⟩:=h.We hi hp rfl;exact⟨a,by omega⟩
 |kS h1 =>
  obtain⟨a,b⟩:=h.Wf hi hp rfl;obtain⟨c,d⟩:=a.leave hi (upd_same _ _ _) (h1.imp id fun e=> .inr (.inl e));have e: ∀y z:LP,upd (upd p i y) i z=upd p i z:=fun y z=>by
   funext j;by_cases e:j=i
   ·subst e; rw[upd_same,upd_same]
   ·rw[upd_ne _ _ e,upd_ne _ _ e,upd_ne _ _ e]
  rw[e]at c d;exact⟨c,by omega⟩
 |call =>
  obtain⟨a,b⟩:=h.call hi hp rfl rfl rfl (Nat.succ_pos _);exact⟨a,by omega⟩
theorem MI.stays(h:MI n p m s)(hi:i<n){j:Nat}(hj:j<n)(BK:j≠i)(hp:p j= .up)(dx:m.sv=true)(ht:Tr (p i) m x m'):m'.sv=true∧m.q≤m'.q:=by
 generalize rN:p i=y at ht;cases ht with
 |BX h1 h2=>simp only at dx; subst dx; exact⟨rfl,Nat.le_succ _⟩
 |We=>exact⟨rfl,AN _⟩
 |fH hk =>
  have a:=HA Lh p hi .fin;have b:=Jt Lh (upd p i .fin) hj;rw[upd_ne _ _ BK,hp]at b;rw[rN]at a;simp only[Lh]at a b;have:=h.tok;simp[b1,MW.x]at this;omega
 |_=>cases dx
theorem XQ{α:Type}(f:Nat→α)(i:Nat):upd f i (f i)=f:=by
 funext j;by_cases e:j=i
 ·subst e; exact upd_same _ _ _
 ·exact upd_ne _ _ e
theorem MI.still(h:MI n p m s)(hi:i<n)(ht:Si (p i) m x):MI n (upd p i x) m s∧EX n (upd p i x) s≤EX n p s:=by
 generalize hp:p i=y at ht;cases ht with
 |same =>
  rw[← hp,XQ];exact⟨h,AN _⟩
 |tp _ =>
  obtain⟨c1,c2,c3,c4,c5,c6,c7⟩:=counts p hi (.loop false);rw[hp]at c1 c2 c3 c4 c5 c6 c7;simp only[DH,Cc,GM,Hc,CW,Lh,Hd]at c1 c2 c3 c4 c5 c6 c7;obtain⟨e1,e2,e3,e4,e5,e6,e7⟩:=h;exact⟨⟨by omega,by omega,by omega,fun a b c d=>by have:=e4 a b c d; omega,e5,e6,fun a=>by have:=e7 a; omega⟩,by simp only[EX]; omega⟩
 |back h1 =>
  obtain⟨a,b,_⟩:=h.back hi hp h1;exact⟨a,by omega⟩
 |leave h1 =>
  obtain⟨a,b⟩:=h.leave hi hp h1;exact⟨a,by omega⟩
theorem Iu(k:LP→Nat)(hk:k .fin=0):num k (n+1) (upd p n .fin)=num k n p:=by
 show num k n (upd p n .fin)+k (upd p n .fin n)=_;rw[upd_same,hk];exact sumTo_upd_out p .fin k (AN n)
theorem MI.grow(h:MI n p m s):MI (n+1) (upd p n .fin) m s∧EX (n+1) (upd p n .fin) s=EX n p s:=by
 obtain⟨e1,e2,e3,e4,e5,e6,e7⟩:=h;have g1:=Iu (n:=n) (p:=p) DH rfl;have g2:=Iu (n:=n) (p:=p) Cc rfl;have g3:=Iu (n:=n) (p:=p) GM rfl;have g4:=Iu (n:=n) (p:=p) Hc rfl;have g5:=Iu (n:=n) (p:=p) CW rfl;have g6:=Iu (n:=n) (p:=p) Lh rfl;have g7:=Iu (n:=n) (p:=p) Hd rfl;exact⟨⟨by omega,by omega,by omega,fun a b c d=>by have:=e4 a b c d; omega,e5,e6,fun a=>by have:=e7 a; omega⟩,by simp only[EX]; omega⟩
theorem MI.join(h:MI n p m s):MI (n+1) (upd p n .out) m s∧EX (n+1) (upd p n .out) s=EX n p s+5:=by
 obtain⟨e1,e2,e3,e4,e5,e6,e7⟩:=h;have nw: ∀(k:LP→Nat),num k (n+1) (upd p n .out)=num k n p+k .out:=fun k=>by
  show num k n (upd p n .out)+k (upd p n .out n)=_;rw[upd_same]
  congr 1
  exact sumTo_upd_out p .out k (AN n)
 have g1:=nw DH;have g2:=nw Cc;have g3:=nw GM;have g4:=nw Hc;have g5:=nw CW;have g6:=nw Lh;have g7:=nw Hd;simp only[DH,Cc,GM,Hc,CW,Lh,Hd]at g1 g2 g3 g4 g5 g6 g7;exact⟨⟨by omega,by omega,by omega,fun a b c d=>by have:=e4 a b c d; omega,e5,e6,fun a=>by have:=e7 a; omega⟩,by simp only[EX]; omega⟩
theorem MI.zero(hp: ∀j,p j= .fin):MI n p ⟨false,false,false,0⟩ 0∧EX n p 0=0:=by
 have z: ∀(k:LP→Nat),k .fin=0→num k n p=0:=fun k hk=>by
  have:num k n p=sumTo n fun _=>0:=sumTo_congr fun j _=>by rw[hp j]; exact hk
  rw[this]; exact GC n
 exact⟨⟨z _ rfl,by rw[z Cc rfl,z GM rfl]; rfl,by rw[z CW rfl,z Lh rfl,z GM rfl]; rfl,fun _ _ _ h=>absurd h (by simp),fun h=>(by cases h),fun h=>(by cases h),fun h=>(by cases h)⟩,by simp only[EX]; rw[z Hd rfl]⟩
theorem MI.awake(h:MI n p m s)(hi:i<n)(hp:p i= .loop true):m.wk=true∧m.sv=false:=by
 have d:=Jt CW p hi;rw[hp]at d;simp only[CW]at d;obtain⟨e1,e2,e3,e4,e5,e6,e7⟩:=h;obtain⟨l,wk,sv,q⟩:=m;cases l<;>cases wk<;>cases sv<;>simp[b1,MW.x]at* <;>omega
theorem MI.x8(h:MI n p m s)(hp: ∀j,j<n→p j≠ .hold):m.l=false:=by
 have z:num DH n p=0:=by
  have:num DH n p=sumTo n fun _=>0:=sumTo_congr fun j hj=>by
   have:=hp j hj;cases e:p j<;>first|rfl|exact absurd e this
  rw[this]; exact GC n
 have:=h.held;cases e:m.l with
 |false=>rfl
 |true=>rw[e,b1_t]at this; omega
theorem MI.NC(h:MI n p m s)(hp: ∀j,j<n→p j= .fin):m=⟨false,false,false,0⟩∧s=0:=by
 have z: ∀(k:LP→Nat),k .fin=0→num k n p=0:=fun k hk=>by
  have:num k n p=sumTo n fun _=>0:=sumTo_congr fun j hj=>by rw[hp j hj]; exact hk
  rw[this]; exact GC n
 obtain⟨e1,e2,e3,e4,e5,e6,e7⟩:=h;have z1:=z DH rfl;have z2:=z Cc rfl;have z3:=z GM rfl;have z4:=z CW rfl;have z5:=z Lh rfl;obtain⟨l,wk,sv,q⟩:=m;cases l<;>cases wk<;>cases sv<;>simp[b1,MW.x]at* <;>omega
end
structure Bo where
 lb:Nat
 lo:Nat
 P:Nat→Prop
 J:(Nat→Option Value)→World→Prop
 keep: ∀σ w w',(∀b,P b→w'.heap[b]? =w.heap[b]?)→(∀b x,w.shape? b=some x→w'.shape? b=some x)→J σ w→J σ w'
 tj: ¬P lb
def Bo.wa(C:Bo):Addr:=⟨C.lb,C.lo,none⟩
def Bo.sa(C:Bo):Addr:=⟨C.lb,C.lo+1,none⟩
inductive Ow where
 |no|own (wa:World)|put (v:Value)
structure Ct where
 lp:LP
 ow:Ow
 φ:Nat
 sn:Option MW
 tk:Nat
def Am:Nat:=4
def Hi:Nat:=5*Am
def fresh(tk:Nat):Ct:=⟨.out,.no,Hi,none,tk⟩
def Ib:LP→Ow→Prop
 | .hold,_=>True
 | .SX,.put _| .rel,.put _| .fin,.put _=>True
 | .out,.no| .loop _,.no| .Cs,.no| .up,.no=>True
 |_,_=>False
def iF:Option Ct→LP
 |some μ=>μ.lp
 |none=> .fin
def posOf(AL:Nat→Option Ct)(j:Nat):LP:=iF (AL j)
structure Bz(C:Bo)(w:World)(m:MW)(s:Nat):Prop where
 word:w.cell? C.wa=some (.int .i32 m.val)
 sema:w.cell? C.sa=some (.int .u32 s)
 th: ∀off,w.frozen? ⟨C.lb,off,none⟩=false
theorem Bz.block{C:Bo}{w w':World}{m:MW}{s:Nat}(h:Bz C w m s)(hb:w'.heap[C.lb]? =w.heap[C.lb]?):Bz C w' m s :=
 ⟨by rw[← h.word]; simp only[World.cell?,Bo.wa,hb],by rw[← h.sema]; simp only[World.cell?,Bo.sa,hb],fun off=>by rw[← h.th off]; simp only[World.frozen?,hb]⟩
theorem ff{w:World}{a:Addr}{v:Value}(h:w.cell? a=some v): ∃c e fz,w.heap[a.block]? =some (.cells c e fz)∧a.spot=none∧c[a.off]? =some v:=by
 unfold World.cell? at h;split at h
 ·rename_i c e fz he;split at h
  ·cases h
  ·rename_i hs;exact⟨c,e,fz,he,by simpa using hs,h⟩
 ·cases h
theorem RA{w:World}{a:Addr}{c:Array Value}{e:TypeId}{fz:Nat×Nat}(h:w.heap[a.block]? =some (.cells c e fz))(hs:a.spot=none)(v:Value):(w.setCell a v).heap[a.block]? =some (.cells (c.setIfInBounds a.off v) e fz):=by
 unfold World.setCell;simp only[E5,Ad,h,Bc,hs,Option.isSome_none,Bq,BS]
theorem Dy(w:World)(a:Addr)(v:Value)(b:Addr):(w.setCell a v).frozen? b=w.frozen? b:=by
 unfold World.frozen? World.setCell;simp only[E5];by_cases e:a.block=b.block
 ·rw[AD e];cases h:w.heap[b.block]? with
  |none=>rfl
  |some o=>cases o<;>simp<;>split<;>simp
 ·rw[AA e]
theorem Nn(w:World)(a:Addr)(v:Value): ∀b x,w.shape? b=some x→(w.setCell a v).shape? b=some x:=fun b x h=>by
 unfold World.shape? World.setCell at *;simp only[E5];by_cases e:a.block=b
 ·rw[AD e];cases h1:w.heap[b]? with
  |none=>rw[h1]at h; cases h
  |some o =>
   rw[h1]at h;cases o<;>simp at h ⊢ <;>try exact h
   split<;>simpa using h
 ·rw[AA e]; exact h
theorem bZ{w:World}{b:Nat}{x:TypeId×Nat}(h:w.shape? b=some x):b<w.heap.size:=by
 unfold World.shape? at h;cases e:w.heap[b]? with
 |none=>rw[e]at h; cases h
 |some o=>exact(A6.1 e).1
theorem EB{w:World}{a:Addr}{u:Value}(h:w.cell? a=some u)(v:Value):(w.setCell a v).cell? a=some v∧∀b:Addr,b≠a→(w.setCell a v).cell? b=w.cell? b:=by
 obtain⟨c,e,fz,h1,h2,h3⟩:=ff h;have hb:=RA h1 h2 v;have Ac:=(A6.1 h3).1;refine⟨by simp only[World.cell?,hb,h2]; simp[Ac],fun b BK=> ?_⟩;by_cases e1:b.block=a.block
 ·simp only[World.cell?,e1,hb,h1];by_cases e2:b.spot.isSome
  ·simp[e2]
  ·simp only[e2];by_cases e3:b.off=a.off
   ·exfalso;apply BK;obtain⟨b1,b2,b3⟩:=b;obtain⟨a1,a2,a3⟩:=a;simp only at e1 e2 e3 h2;subst e1 e3 h2;cases b3 with
    |none=>rfl
    |some _=>simp at e2
   ·simp[Ne.symm e3]
 ·unfold World.cell? World.setCell;simp only[E5];rw[AA fun x=>e1 x.symm]
theorem Bo.jh(C:Bo):C.wa≠C.sa:=fun h=>by have:=congrArg Addr.off h; simp[Bo.wa,Bo.sa]at this
theorem Bz.yG{C:Bo}{w:World}{m:MW}{s:Nat}(h:Bz C w m s)(m':MW):Bz C (w.setCell C.wa (.int .i32 m'.val)) m' s:=by
 obtain⟨a,b⟩:=EB h.word (.int .i32 m'.val);exact⟨a,(b _ C.jh.symm).trans h.sema,fun off=>(Dy ..).trans (h.th off)⟩
theorem Bz.yH{C:Bo}{w:World}{m:MW}{s:Nat}(h:Bz C w m s)(s':Nat):Bz C (w.setCell C.sa (.int .u32 s')) m s':=by
 obtain⟨a,b⟩:=EB h.sema (.int .u32 s');exact⟨(b _ C.jh).trans h.word,a,fun off=>(Dy ..).trans (h.th off)⟩
theorem Mb(w:World)(a:Addr)(v:Value){b:Nat}(h:b≠a.block):(w.setCell a v).heap[b]? =w.heap[b]? :=by
 simp only[World.setCell,E5];rw[AA fun e=>h e.symm]
structure CI(C:Bo)(n:Nat)(AL:Nat→Option Ct)(left:Nat)(m:MW)(s:Nat)(σ:Nat→Option Value)(w:World):Prop where
 mi:MI n (posOf AL) m s
 lk:Bz C w m s
 lt: ∀j μ,AL j=some μ→j<n
 fuel: ∀j μ,AL j=some μ→EX n (posOf AL) s+5*left≤μ.φ∧(∀m',μ.sn=some m'→m'≠m→EX n (posOf AL) s+5*left<μ.φ)∧(μ.lp= .up→∀m',μ.sn=some m'→m'.sv=true→m.sv=true∧m'.q≤m.q)
 LX: ∀j μ,AL j=some μ→Ib μ.lp μ.ow
 sI: ∀i j μ ν,AL i=some μ→AL j=some ν→μ.tk=ν.tk→i=j
 pI: ∀j μ,AL j=some μ→μ.tk+left<Am
 cnt:sumTo n (fun j=>if(AL j).isSome then 1 else 0)+left=Am
 km:EX n (posOf AL) s+5*left≤Hi
 sig: ∀τ v,σ τ=some v↔∃j μ,AL j=some μ∧μ.tk=τ∧μ.ow= .put v
 owns: ∀j μ wa,AL j=some μ→μ.ow= .own wa→C.J σ wa
 free:(∀j μ wa,AL j=some μ→μ.ow≠ .own wa)→C.J σ w
section
variable{C:Bo}{n left s i:Nat}{AL:Nat→Option Ct}{m m':MW}{σ:Nat→Option Value}{w w':World}{μ:Ct}
theorem DC(AL:Nat→Option Ct)(i:Nat)(x:Option Ct):posOf (upd AL i x)=upd (posOf AL) i (iF x):=by
 funext j;unfold posOf;by_cases e:j=i
 ·subst e; rw[upd_same,upd_same]
 ·rw[upd_ne _ _ e,upd_ne _ _ e]
theorem CI.other(h:CI C n AL left m s σ w)(h2: ∀b x,w.shape? b=some x→w'.shape? b=some x)(h1:w'.heap[C.lb]? =w.heap[C.lb]?)(h3:(∀j μ wa,AL j=some μ→μ.ow≠ .own wa)→∀b,C.P b→w'.heap[b]? =w.heap[b]?):CI C n AL left m s σ w' :=
 ⟨h.mi,h.lk.block h1,h.lt,h.fuel,h.LX,h.sI,h.pI,h.cnt,h.km,h.sig,h.owns,fun hf=>C.keep _ _ _ (h3 hf) h2 (h.free hf)⟩
theorem CI.alone(h:CI C n AL left m s σ w){j:Nat}{ν:Ct}(hi:AL i=some μ)(hj:AL j=some ν)(h1:μ.lp= .hold)(h2:ν.lp= .hold):i=j :=
 h.mi.only (h.lt i μ hi) (h.lt j ν hj) (by unfold posOf; rw[hi]; exact h1) (by unfold posOf; rw[hj]; exact h2)
theorem MT{x:LP}{wa:World}(h:Ib x (.own wa)):x= .hold:=by cases x<;>first|rfl|exact h.elim
theorem Mm(Ac:i<n)(hi:AL i=some μ)(μ':Ct):sumTo n (fun j=>if(upd AL i (some μ') j).isSome then 1 else 0)=sumTo n (fun j=>if(AL j).isSome then 1 else 0):=by
 have:=sumTo_upd AL (some μ') (fun x=>if x.isSome then 1 else 0) Ac;rw[hi]at this;simpa using this
theorem CI.swap(h:CI C n AL left m s σ w)(hi:AL i=some μ){μ':Ct}(ho:μ'.ow=μ.ow)(ht:μ'.tk=μ.tk) :
  (∀τ v,σ τ=some v↔∃j μ₁,upd AL i (some μ') j=some μ₁∧μ₁.tk=τ∧μ₁.ow= .put v)∧((∀j μ₁ wa,upd AL i (some μ') j=some μ₁→μ₁.ow≠ .own wa)→∀j μ₁ wa,AL j=some μ₁→μ₁.ow≠ .own wa)∧
  (∀j μ₁ wa,upd AL i (some μ') j=some μ₁→μ₁.ow= .own wa→C.J σ wa):=by
 refine⟨fun τ v=> ?_,fun hf j μ₁ wa hj=> ?_,fun j μ₁ wa hj e=> ?_⟩
 ·rw[h.sig τ v];constructor
  ·rintro⟨j,μ₁,e1,e2,e3⟩;by_cases e:j=i
   ·subst e;rw[hi]at e1; cases e1;exact⟨j,μ',upd_same _ _ _,ht.trans e2,ho.trans e3⟩
   ·exact⟨j,μ₁,by rw[upd_ne _ _ e]; exact e1,e2,e3⟩
  ·rintro⟨j,μ₁,e1,e2,e3⟩;by_cases e:j=i
   ·subst e;rw[upd_same]at e1; cases e1;exact⟨j,μ,hi,ht.symm.trans e2,ho.symm.trans e3⟩
   ·exact⟨j,μ₁,by rw[upd_ne _ _ e]at e1; exact e1,e2,e3⟩
 ·by_cases e:j=i
  ·subst e;rw[hi]at hj; cases hj;have:=hf j μ' wa (upd_same _ _ _);rw[ho]at this; exact this
  ·exact hf j μ₁ wa (by rw[upd_ne _ _ e]; exact hj)
 ·by_cases e':j=i
  ·subst e';rw[upd_same]at hj; cases hj;exact h.owns j μ wa hi (ho ▸e)
  ·rw[upd_ne _ _ e']at hj; exact h.owns j μ₁ wa hj e
theorem CI.sJ(h:CI C n AL left m s σ w)(hi:AL i=some μ){μ':Ct}(ht:μ'.tk=μ.tk) :
  (∀a b μ₁ ν,upd AL i (some μ') a=some μ₁→upd AL i (some μ') b=some ν→μ₁.tk=ν.tk→a=b)∧(∀j μ₁,upd AL i (some μ') j=some μ₁→μ₁.tk+left<Am)∧(∀j μ₁,upd AL i (some μ') j=some μ₁→j<n):=by
 have old: ∀{a:Nat} {μ₁:Ct},upd AL i (some μ') a=some μ₁→∃μ₀,AL a=some μ₀∧μ₀.tk=μ₁.tk:=by
  intro a μ₁ ha;by_cases e:a=i
  ·subst e; rw[upd_same]at ha; cases ha; exact⟨μ,hi,ht.symm⟩
  ·rw[upd_ne _ _ e]at ha; exact⟨μ₁,ha,rfl⟩
 refine⟨fun a b μ₁ ν ha hb fB=> ?_,fun j μ₁ hj=> ?_,fun j μ₁ hj=> ?_⟩
 ·obtain⟨μ₀,e1,e2⟩:=old ha;obtain⟨ν₀,e3,e4⟩:=old hb;exact h.sI a b μ₀ ν₀ e1 e3 (by rw[e2,e4]; exact fB)
 ·obtain⟨μ₀,e1,e2⟩:=old hj;rw[← e2]; exact h.pI j μ₀ e1
 ·obtain⟨μ₀,e1,e2⟩:=old hj;exact h.lt j μ₀ e1
theorem CI.SY(h:CI C n AL left m s σ w)(hi:AL i=some μ){lp':LP}(ht:Tr μ.lp m lp' m')(ho:Ib lp' μ.ow) :
  0<μ.φ∧CI C n (upd AL i (some {μ with lp:=lp',φ:=μ.φ-1,sn:=some m'})) left m' s σ (w.setCell C.wa (.int .i32 m'.val)):=by
 have h3: ∀b,C.P b→(w.setCell C.wa (.int .i32 m'.val)).heap[b]? =w.heap[b]? :=fun b hb=>Mb _ _ _ fun e=>C.tj (by rw[show C.lb=b from e.symm]; exact hb);have Ac:=h.lt i μ hi;have hp:posOf AL i=μ.lp:=by unfold posOf; rw[hi]; rfl
 obtain⟨a,b⟩:=h.mi.SY Ac (x:=lp') (m':=m') (by rw[hp]; exact ht);have f:=(h.fuel i μ hi).1;have bd:=h.km;obtain⟨s1,s2,s3⟩:=h.swap hi (μ':={μ with lp:=lp',φ:=μ.φ-1,sn:=some m'}) rfl rfl;obtain⟨t1,t2,t3⟩:=h.sJ hi (μ':={μ with lp:=lp',φ:=μ.φ-1,sn:=some m'}) rfl;refine⟨by omega,⟨by rw[DC]; exact a,h.lk.yG m',t3,fun j ν hj=> ?_,fun j ν hj=> ?_,t1,t2,by rw[Mm Ac hi]; exact h.cnt,by rw[DC]; show EX n (upd (posOf AL) i lp') s+5*left≤Hi; omega,s1,s3,fun hf=>C.keep _ _ _ h3 (Nn _ _ _) (h.free (s2 hf))⟩⟩
 ·rw[DC];show EX n (upd (posOf AL) i lp') s+5*left≤ν.φ∧_;by_cases e:j=i
  ·subst e;rw[upd_same]at hj; cases hj;exact⟨by simp only; omega,fun m₁ e1 e2=>(by simp only[AE]at e1; exact absurd e1.symm e2),fun _ m₁ e1 e2=>(by simp only[AE]at e1; rw[e1]; exact⟨e2,AN _⟩)⟩
  ·rw[upd_ne _ _ e]at hj;obtain⟨f1,_,f3⟩:=h.fuel j ν hj;exact⟨by omega,fun _ _ _=>(by show EX n (upd (posOf AL) i lp') s+5*left<ν.φ; omega),fun e1 m₁ e2 e3=>(by
    obtain⟨a1,a2⟩:=f3 e1 m₁ e2 e3;obtain⟨b1,b2⟩:=h.mi.stays Ac (h.lt j ν hj) e (by unfold posOf; rw[hj]; exact e1) a1 (x:=lp') (m':=m') (by rw[hp]; exact ht);exact⟨b1,A1 a2 b2⟩)⟩
 ·by_cases e:j=i
  ·subst e; rw[upd_same]at hj; cases hj; exact ho
  ·rw[upd_ne _ _ e]at hj; exact h.LX j ν hj
theorem CI.look(h:CI C n AL left m s σ w)(hi:AL i=some μ){lp':LP}(ht:Si μ.lp m lp')(ho:Ib lp' μ.ow) :
  ∃φ',φ'≤μ.φ∧(∀m₀,μ.sn=some m₀→m₀≠m→φ'<μ.φ)∧CI C n (upd AL i (some {μ with lp:=lp',φ:=φ',sn:=some m})) left m s σ w:=by
 have Ac:=h.lt i μ hi;have hp:posOf AL i=μ.lp:=by unfold posOf; rw[hi]; rfl
 obtain⟨a,b⟩:=h.mi.still Ac (x:=lp') (by rw[hp]; exact ht);obtain⟨f,f',_⟩:=h.fuel i μ hi;have bd:=h.km;obtain⟨s1,s2,s3⟩:=h.swap hi (μ':={μ with lp:=lp',φ:=EX n (posOf AL) s+5*left,sn:=some m}) rfl rfl;obtain⟨t1,t2,t3⟩:=h.sJ hi (μ':={μ with lp:=lp',φ:=EX n (posOf AL) s+5*left,sn:=some m}) rfl;refine⟨EX n (posOf AL) s+5*left,f,f',⟨by rw[DC]; exact a,h.lk,t3,fun j ν hj=> ?_,fun j ν hj=> ?_,t1,t2,by rw[Mm Ac hi]; exact h.cnt,by rw[DC]; show EX n (upd (posOf AL) i lp') s+5*left≤Hi; omega,s1,s3,fun hf=>h.free (s2 hf)⟩⟩
 ·rw[DC];show EX n (upd (posOf AL) i lp') s+5*left≤ν.φ∧(∀m',ν.sn=some m'→m'≠m→EX n (upd (posOf AL) i lp') s+5*left<ν.φ)∧(ν.lp= .up→∀m',ν.sn=some m'→m'.sv=true→m.sv=true∧m'.q≤m.q);by_cases e:j=i
  ·subst e;rw[upd_same]at hj; cases hj;exact⟨by simp only; omega,fun m₁ e1 e2=>(by simp only[AE]at e1; exact absurd e1.symm e2),fun _ m₁ e1 e2=>(by simp only[AE]at e1; rw[e1]; exact⟨e2,AN _⟩)⟩
  ·rw[upd_ne _ _ e]at hj;obtain⟨g,g',kP⟩:=h.fuel j ν hj;exact⟨by omega,fun m₁ e1 e2=>(by have:=g' m₁ e1 e2; omega),kP⟩
 ·by_cases e:j=i
  ·subst e; rw[upd_same]at hj; cases hj; exact ho
  ·rw[upd_ne _ _ e]at hj; exact h.LX j ν hj
theorem CI.Di(h:CI C n AL left m s σ w)(hi:AL i=some μ){lp':LP}{s':Nat}(Aq:(μ.lp= .Cs∧lp'= .up∧s=s'+1)∨(μ.lp= .rel∧lp'= .fin∧s'=s+1)) :
  CI C n (upd AL i (some {μ with lp:=lp',sn:=none})) left m s' σ (w.setCell C.sa (.int .u32 s')):=by
 have h3: ∀b,C.P b→(w.setCell C.sa (.int .u32 s')).heap[b]? =w.heap[b]? :=fun b hb=>Mb _ _ _ fun e=>C.tj (by rw[show C.lb=b from e.symm]; exact hb);have Ac:=h.lt i μ hi;have hp:posOf AL i=μ.lp:=by unfold posOf; rw[hi]; rfl
 have key:MI n (upd (posOf AL) i lp') m s'∧EX n (upd (posOf AL) i lp') s'=EX n (posOf AL) s:=by
  rcases Aq with⟨e1,e2,e3⟩|⟨e1,e2,e3⟩
  ·subst e2 e3;exact h.mi.pass Ac (hp.trans e1)
  ·subst e2 e3;exact h.mi.raise Ac (hp.trans e1)
 have ho:Ib lp' μ.ow:=by
  have:=h.LX i μ hi;rcases Aq with⟨e1,e2,_⟩|⟨e1,e2,_⟩<;>rw[e1]at this<;>rw[e2]<;>revert this<;>cases μ.ow<;>exact id
 obtain⟨s1,s2,s3⟩:=h.swap hi (μ':={μ with lp:=lp',sn:=none}) rfl rfl;obtain⟨t1,t2,t3⟩:=h.sJ hi (μ':={μ with lp:=lp',sn:=none}) rfl;have fl: ∀{j:Nat} {ν:Ct},upd AL i (some {μ with lp:=lp',sn:=none}) j=some ν→∃ν₀,AL j=some ν₀∧ν₀.φ=ν.φ∧(ν₀=ν∨ν.sn=none):=by
  intro j ν hj;by_cases e:j=i
  ·subst e; rw[upd_same]at hj; cases hj; exact⟨μ,hi,rfl,.inr rfl⟩
  ·rw[upd_ne _ _ e]at hj; exact⟨ν,hj,rfl,.inl rfl⟩
 refine⟨by rw[DC]; exact key.1,h.lk.yH s',t3,fun j ν hj=> ?_,fun j ν hj=> ?_,t1,t2,by rw[Mm Ac hi]; exact h.cnt,by rw[DC]; show EX n (upd (posOf AL) i lp') s'+5*left≤Hi; rw[key.2]; exact h.km,s1,s3,fun hf=>C.keep _ _ _ h3 (Nn _ _ _) (h.free (s2 hf))⟩
 ·obtain⟨ν₀,e1,e2,e3⟩:=fl hj;rw[DC];show EX n (upd (posOf AL) i lp') s'+5*left≤ν.φ∧(∀m',ν.sn=some m'→m'≠m→EX n (upd (posOf AL) i lp') s'+5*left<ν.φ)∧(ν.lp= .up→∀m',ν.sn=some m'→m'.sv=true→m.sv=true∧m'.q≤m.q);rw[key.2, ← e2];obtain⟨f1,f2,f3⟩:=h.fuel j ν₀ e1;rcases e3 with rfl|e3
  ·exact⟨f1,f2,f3⟩
  ·exact⟨f1,fun m' e4=>(by rw[e3]at e4; cases e4),fun _ m' e4=>(by rw[e3]at e4; cases e4)⟩
 ·by_cases e:j=i
  ·subst e; rw[upd_same]at hj; cases hj; exact ho
  ·rw[upd_ne _ _ e]at hj; exact h.LX j ν hj
theorem CI.ZQ(hi:AL i=some μ)(ow:Ow):posOf (upd AL i (some {μ with ow:=ow}))=posOf AL:=by
 have hp:posOf AL i=μ.lp:=by unfold posOf; rw[hi]; rfl
 rw[DC];show upd (posOf AL) i μ.lp=_;rw[← hp,XQ]
theorem CI.Ju(h:CI C n AL left m s σ w)(hi:AL i=some μ)(h1:μ.lp= .hold)(h2:μ.ow= .no): ∀j μ₁ wa,AL j=some μ₁→μ₁.ow≠ .own wa:=fun j ν wa hj e=>by
 have hh:=MT (e ▸h.LX j ν hj);have:=h.alone hi hj h1 hh;subst this;rw[hi]at hj; cases hj;rw[h2]at e; cases e
theorem CI.jj(h:CI C n AL left m s σ w)(hi:AL i=some μ)(h2: ∀v,μ.ow≠ .put v):σ μ.tk=none:=by
 cases e:σ μ.tk with
 |none=>rfl
 |some v =>
  obtain⟨j,μ₁,e1,e2,e3⟩:=(h.sig _ v).1 e;have:=h.sI j i μ₁ μ e1 hi e2;subst this;rw[hi]at e1; cases e1;exact absurd e3 (h2 v)
theorem CI.acq(h:CI C n AL left m s σ w)(hi:AL i=some μ)(h1:μ.lp= .hold)(h2:μ.ow= .no):C.J σ w∧σ μ.tk=none∧CI C n (upd AL i (some {μ with ow:= .own w})) left m s σ w:=by
 have Ac:=h.lt i μ hi;have Ju:=h.Ju hi h1 h2;have hn:=h.jj hi (by rw[h2]; simp);have hJ:=h.free Ju;have pe:=CI.ZQ hi (.own w);obtain⟨t1,t2,t3⟩:=h.sJ hi (μ':={μ with ow:= .own w}) rfl;refine⟨hJ,hn,⟨by rw[pe]; exact h.mi,h.lk,t3,fun j ν hj=> ?_,fun j ν hj=> ?_,t1,t2,by rw[Mm Ac hi]; exact h.cnt,by rw[pe]; exact h.km,fun τ v=> ?_,fun j ν wa hj e=> ?_,fun hf=>absurd rfl (hf i _ w (upd_same _ _ _))⟩⟩
 ·rw[pe];by_cases e:j=i
  ·subst e; rw[upd_same]at hj; cases hj; exact h.fuel j μ hi
  ·rw[upd_ne _ _ e]at hj; exact h.fuel j ν hj
 ·by_cases e:j=i
  ·subst e; rw[upd_same]at hj; cases hj; simp only[h1]; trivial
  ·rw[upd_ne _ _ e]at hj; exact h.LX j ν hj
 ·rw[h.sig τ v];constructor
  ·rintro⟨j,μ₁,e1,e2,e3⟩;have e:j≠i:=fun e=>by subst e; rw[hi]at e1; cases e1; rw[h2]at e3; cases e3
   exact⟨j,μ₁,by rw[upd_ne _ _ e]; exact e1,e2,e3⟩
  ·rintro⟨j,μ₁,e1,e2,e3⟩;have e:j≠i:=fun e=>by subst e; rw[upd_same]at e1; cases e1; cases e3
   exact⟨j,μ₁,by rw[upd_ne _ _ e]at e1; exact e1,e2,e3⟩
 ·by_cases e':j=i
  ·subst e'; rw[upd_same]at hj; cases hj; cases e; exact hJ
  ·rw[upd_ne _ _ e']at hj; exact absurd e (Ju j ν wa hj)
theorem CI.rel(h:CI C n AL left m s σ w)(hi:AL i=some μ){wa:World}(h2:μ.ow= .own wa){v:Value}(hJ: ∀σ,C.J σ wa→σ μ.tk=none→C.J (upd σ μ.tk (some v)) w):CI C n (upd AL i (some {μ with ow:= .put v})) left m s (upd σ μ.tk (some v)) w:=by
 have Ac:=h.lt i μ hi;have h1:μ.lp= .hold:=MT (h2 ▸h.LX i μ hi);have hn:=h.jj hi (by rw[h2]; simp);have hJ':=hJ σ (h.owns i μ wa hi h2) hn;have pe:=CI.ZQ hi (.put v);obtain⟨t1,t2,t3⟩:=h.sJ hi (μ':={μ with ow:= .put v}) rfl;refine⟨by rw[pe]; exact h.mi,h.lk,t3,fun j ν hj=> ?_,fun j ν hj=> ?_,t1,t2,by rw[Mm Ac hi]; exact h.cnt,by rw[pe]; exact h.km,fun τ u=> ?_,fun j ν wb hj e=> ?_,fun _=>hJ'⟩
 ·rw[pe];by_cases e:j=i
  ·subst e; rw[upd_same]at hj; cases hj; exact h.fuel j μ hi
  ·rw[upd_ne _ _ e]at hj; exact h.fuel j ν hj
 ·by_cases e:j=i
  ·subst e; rw[upd_same]at hj; cases hj; simp only[h1]; trivial
  ·rw[upd_ne _ _ e]at hj; exact h.LX j ν hj
 ·by_cases e:τ=μ.tk
  ·subst e;rw[upd_same];constructor
   ·intro x; cases x; exact⟨i,_,upd_same _ _ _,rfl,rfl⟩
   ·rintro⟨j,μ₁,e1,e2,e3⟩;have ej:=t1 j i μ₁ _ e1 (upd_same _ _ _) e2;subst ej;rw[upd_same]at e1; cases e1;simp only[Ow.put.injEq]at e3; rw[e3]
  ·rw[upd_ne _ _ e,h.sig τ u];constructor
   ·rintro⟨j,μ₁,e1,e2,e3⟩;have e':j≠i:=fun e'=>by subst e'; rw[hi]at e1; cases e1; exact e e2.symm
    exact⟨j,μ₁,by rw[upd_ne _ _ e']; exact e1,e2,e3⟩
   ·rintro⟨j,μ₁,e1,e2,e3⟩;have e':j≠i:=fun e'=>by subst e'; rw[upd_same]at e1; cases e1; exact e e2.symm
    exact⟨j,μ₁,by rw[upd_ne _ _ e']at e1; exact e1,e2,e3⟩
 ·by_cases e':j=i
  ·subst e'; rw[upd_same]at hj; cases hj; cases e
  ·rw[upd_ne _ _ e']at hj;have:=h.alone hi hj h1 (MT (e ▸h.LX j ν hj));exact absurd this.symm e'
theorem CI.grow(h:CI C n AL left m s σ w):CI C (n+1) AL left m s σ w:=by
 have hn:AL n=none:=by
  cases e:AL n with
  |none=>rfl
  |some μ=>exact absurd (h.lt n μ e) (Nat.lt_irrefl n)
 have pe:upd (posOf AL) n .fin=posOf AL:=by
  have:posOf AL n= .fin:=by unfold posOf; rw[hn]; rfl
  rw[← this,XQ]
 obtain⟨a,b⟩:=h.mi.grow;rw[pe]at a b;exact⟨a,h.lk,fun j ν hj=>Ce (h.lt j ν hj),fun j ν hj=>by rw[b]; exact h.fuel j ν hj,h.LX,h.sI,h.pI,by simp only[sumTo,hn]; exact h.cnt,by rw[b]; exact h.km,h.sig,h.owns,h.free⟩
theorem CI.join(h:CI C n AL (left+1) m s σ w):CI C (n+1) (upd AL n (some (fresh (Am-(left+1))))) left m s σ w:=by
 have hn:AL n=none:=by
  cases e:AL n with
  |none=>rfl
  |some μ=>exact absurd (h.lt n μ e) (Nat.lt_irrefl n)
 have ne: ∀{j:Nat} {ν:Ct},AL j=some ν→j≠n:=fun hj e=>by rw[e,hn]at hj; cases hj
 have old: ∀{j:Nat} {ν:Ct},upd AL n (some (fresh (Am-(left+1)))) j=some ν→j≠n→AL j=some ν:=fun hj e=>by rwa [upd_ne _ _ e]at hj
 have hc:=h.cnt;have bd:=h.km;obtain⟨a,b⟩:=h.mi.join;refine⟨by rw[DC]; exact a,h.lk,fun j ν hj=> ?_,fun j ν hj=> ?_,fun j ν hj=> ?_,fun i j μ ν hi hj e=> ?_,fun j ν hj=> ?_, ?_,by rw[DC]; show EX (n+1) (upd (posOf AL) n .out) s+5*left≤Hi; omega,fun τ v=> ?_,fun j ν wa hj e=> ?_,fun hf=>h.free fun j ν wa hj=>hf j ν wa (by rw[upd_ne _ _ (ne hj)]; exact hj)⟩
 ·by_cases e:j=n
  ·omega
  ·exact Ce (h.lt j ν (old hj e))
 ·rw[DC];show EX (n+1) (upd (posOf AL) n .out) s+5*left≤ν.φ∧(∀m',ν.sn=some m'→m'≠m→EX (n+1) (upd (posOf AL) n .out) s+5*left<ν.φ)∧(ν.lp= .up→∀m',ν.sn=some m'→m'.sv=true→m.sv=true∧m'.q≤m.q);by_cases e:j=n
  ·subst e; rw[upd_same]at hj; cases hj;exact⟨by simp only[fresh]; omega,fun m' e1 _=>(by cases e1),fun _ m' e1=>(by cases e1)⟩
  ·obtain⟨g,g',kP⟩:=h.fuel j ν (old hj e);exact⟨by omega,fun m₁ e1 e2=>(by have:=g' m₁ e1 e2; omega),kP⟩
 ·by_cases e:j=n
  ·subst e; rw[upd_same]at hj; cases hj; trivial
  ·exact h.LX j ν (old hj e)
 ·have lo: ∀{j:Nat} {ν:Ct},AL j=some ν→ν.tk<Am-(left+1):=fun hj=>by have:=h.pI _ _ hj; omega
  by_cases e1:i=n
  ·by_cases e2:j=n
   ·rw[e1,e2]
   ·subst e1; rw[upd_same]at hi; cases hi;have:=lo (old hj e2);simp only[fresh]at e;omega
  ·by_cases e2:j=n
   ·subst e2; rw[upd_same]at hj; cases hj;have:=lo (old hi e1);simp only[fresh]at e;omega
   ·exact h.sI i j μ ν (old hi e1) (old hj e2) e
 ·by_cases e:j=n
  ·subst e; rw[upd_same]at hj; cases hj; simp only[fresh]; omega
  ·have:=h.pI j ν (old hj e); omega
 ·show sumTo n _+(if(upd AL n (some (fresh (Am-(left+1)))) n).isSome then 1 else 0)+left=Am;rw[sumTo_congr (g:=fun j=>if(AL j).isSome then 1 else 0) fun j hj=>by rw[upd_ne _ _ (by omega)],upd_same];simp only[Option.isSome_some,Ad];omega
 ·rw[h.sig τ v];constructor
  ·rintro⟨j,μ₁,e1,e2,e3⟩;exact⟨j,μ₁,by rw[upd_ne _ _ (ne e1)]; exact e1,e2,e3⟩
  ·rintro⟨j,μ₁,e1,e2,e3⟩;have e:j≠n:=fun e=>by subst e; rw[upd_same]at e1; cases e1; cases e3
   exact⟨j,μ₁,old e1 e,e2,e3⟩
 ·have e':j≠n:=fun e'=>by subst e'; rw[upd_same]at hj; cases hj; cases e
  exact h.owns j ν wa (old hj e') e
theorem CI.found(h1:Bz C w ⟨false,false,false,0⟩ 0)(hJ:C.J (fun _=>none) w):CI C n (fun _=>none) Am ⟨false,false,false,0⟩ 0 (fun _=>none) w :=
 ⟨(MI.zero fun _=>rfl).1,h1,fun _ _ hj=>(by cases hj),fun _ _ hj=>(by cases hj),fun _ _ hj=>(by cases hj),fun _ _ _ _ hj=>(by cases hj),fun _ _ hj=>(by cases hj),by simp[GC],by
  have:=(MI.zero (n:=n) (p:=posOf fun _=>none) fun _=>rfl).2;rw[this]; simp[Hi],fun j v=>⟨fun x=>(by cases x),fun⟨_,_,e,_⟩=>(by cases e)⟩,fun _ _ _ hj=>(by cases hj),fun _=>hJ⟩
theorem CI.NC(h:CI C n AL left m s σ w)(hp: ∀j μ,AL j=some μ→μ.lp= .fin):Bz C w ⟨false,false,false,0⟩ 0∧C.J σ w∧∀j μ,AL j=some μ→∃v,μ.ow= .put v∧σ μ.tk=some v:=by
 obtain⟨rfl,rfl⟩:=h.mi.NC fun j _=>by
  unfold posOf;cases e:AL j with
  |none=>rfl
  |some μ=>exact hp j μ e
 have own: ∀j μ,AL j=some μ→∃v,μ.ow= .put v:=fun j μ hj=>by
  have:=h.LX j μ hj;rw[hp j μ hj]at this;revert this;cases μ.ow<;>first|exact fun _=>⟨_,rfl⟩|exact fun x=>x.elim
 refine⟨h.lk,h.free (fun j μ wa hj e=>by obtain⟨v,hv⟩:=own j μ hj; rw[hv]at e; cases e),fun j μ hj=> ?_⟩;obtain⟨v,hv⟩:=own j μ hj;exact⟨v,hv,(h.sig _ v).2 ⟨j,μ,hj,rfl,hv⟩⟩
theorem CI.MB(h:CI C n AL left m 0 σ w)(hi:AL i=some μ)(h1:μ.lp= .Cs): ∃j ν,AL j=some ν∧ν.lp≠ .Cs∧ν.lp≠ .fin:=by
 obtain⟨j,hj,e1,e2⟩:=h.mi.MB (h.lt i μ hi) (by unfold posOf; rw[hi]; exact h1);unfold posOf at e1 e2;cases e:AL j with
 |none=>rw[e]at e2; exact absurd rfl e2
 |some ν =>
  rw[e]at e1 e2;exact⟨j,ν,e,e1,e2⟩
theorem PD{f g:Nat→Nat}: ∀{n:Nat},(∀j,j<n→f j≤g j)→sumTo n f≤sumTo n g
 |0,_=>AN _
 |n+1,h=>Nat.add_le_add (PD fun j hj=>h j (Ce hj)) (h n (Nat.lt_succ_self n))
theorem CI.sK(h:CI C n AL left m s σ w)(k:LP→Nat)(hk: ∀x,k x≤1)(h0:k .fin=0):num k n (posOf AL)≤Am:=by
 have:num k n (posOf AL)≤sumTo n (fun j=>if(AL j).isSome then 1 else 0):=PD fun j _=>by
  unfold posOf;cases e:AL j with
  |none=>simp[iF,h0]
  |some μ=>simpa[iF]using hk μ.lp
 have:=h.cnt;omega
theorem CI.few(h:CI C n AL left m s σ w):m.q≤5∧s≤2:=by
 have a:=h.sK Cc (fun x=>by cases x<;>simp[Cc]) rfl;obtain⟨e1,e2,e3,e4,e5,e6,e7⟩:=h.mi;have b:=fy m.x;have c:=fy m.wk;unfold Am at a;exact⟨by omega,by omega⟩
def JQ:LP→MW→Prop
 | .hold,m=>m.l=true
 | .loop true,m=>m.wk=true∧m.sv=false
 | .up,m=>(m.sv=true→m.l=false∧m.wk=false∧0<m.q)∧(m.sv=false→m.wk=true)
 |_,_=>True
theorem CI.maybe(h:CI C n AL left m s σ w)(hi:AL i=some μ):JQ μ.lp m:=by
 have Ac:=h.lt i μ hi;have hp:posOf AL i=μ.lp:=by unfold posOf; rw[hi]; rfl
 cases e:μ.lp with
 |hold=>exact h.mi.holds Ac (hp.trans e)
 |up=>exact⟨fun hs=>h.mi.handed Ac (hp.trans e) hs,fun hs=>(h.mi.back Ac (hp.trans e) hs).2.2⟩
 |loop aw =>
  cases aw with
  |true=>exact h.mi.awake Ac (hp.trans e)
  |false=>trivial
 |_=>trivial
def Ng(μ:Ct)(m:MW):Prop:=JQ μ.lp m∧(μ.lp= .up→∀m',μ.sn=some m'→m'.sv=true→m.sv=true∧m'.q≤m.q)
theorem CI.yI(h:CI C n AL left m s σ w)(hi:AL i=some μ):Ng μ m:=⟨h.maybe hi,(h.fuel i μ hi).2.2⟩
end
end Go.Gm
namespace Go.Gw
open Go Go.Conc Go.ConcN
open Go.ConcR (KK wgBlock WgAt stA smA)
open Go.Gm (Bo Ct LP MW Ow Tr Si Ng Ib Bz Am)
structure Spec where
 ok:Value→(Addr→Prop)→World→Prop
 keep: ∀v (R:Addr→Prop) w w',(∀a,R a→w'.cell? a=w.cell? a∧w'.shape? a.block=w.shape? a.block)→ok v R w→ok v R w'
inductive IE where
 |cnt|k1|k2|k3
 deriving DecidableEq
inductive Lz where
 |idle (mx:Nat)|pend (mx:Nat)|w2 (vs:Nat)|reg|w4|fin
 deriving DecidableEq
structure CZ where
 ch:Nat
 cap:Nat
 kids:List Spec
 wg:Option (Nat×Lz)
 closed:Bool
 AY:Option Bo:=none
structure Jb where
 C:Bo
 μ:Ct
structure Ctx where
 M:Nat→Prop
 R:Addr→Prop
 d:Nat
 send:Option (Nat×Spec)
 dec:Option (Nat×IE)
 AP:Option CZ
 AL:Option Jb:=none
def Ctx.TZ(c:Ctx)(R:Addr→Prop)(a:Addr):Prop:=R a∧∀x,c.AL=some x→a.block≠x.C.lb
structure H8(a:Addr)(w w₁:World):Prop where
 cell:w₁.cell? a=w.cell? a
 whole:a.spot.isSome=true→w₁.heap[a.block]? =w.heap[a.block]?
theorem H8.of{a:Addr}{w w₁:World}(h:w₁.heap[a.block]? =w.heap[a.block]?):H8 a w w₁:=⟨by simp only[World.cell?,h],fun _=>h⟩
theorem H8.refl(a:Addr)(w:World):H8 a w w:= .of rfl
theorem H8.trans{a:Addr}{w w₁ w₂:World}(h:H8 a w w₁)(h':H8 a w₁ w₂):H8 a w w₂:=⟨h'.cell.trans h.cell,fun e=>(h'.whole e).trans (h.whole e)⟩
def Z0(o o':Os):Prop:= ∃d:Nat,o'={o with wall:=o.wall+d,mono:=o.mono+d}
theorem Z0.refl(o:Os):Z0 o o:=⟨0,rfl⟩
theorem Z0.of{o o':Os}(h:o'=o):Z0 o o':=h ▸ .refl o
theorem Z0.trans{a b c:Os}(h:Z0 a b)(k:Z0 b c):Z0 a c:=by
 obtain⟨d,rfl⟩:=h;obtain⟨e,rfl⟩:=k;exact⟨d+e,by simp[Bf]⟩
structure AS(c:Ctx)(w w₁:World):Prop where
 tape:w₁.tape=w.tape
 os:Z0 w.os w₁.os
 output:w₁.output=w.output
 size:w.heap.size≤w₁.heap.size
 shape: ∀b,b<w.heap.size→w₁.shape? b=w.shape? b
 mine: ∀b,c.M b→w₁.heap[b]? =w.heap[b]?
 ro: ∀a,c.R a→H8 a w w₁
theorem AS.roc{c:Ctx}{w w₁:World}(h:AS c w w₁)(a:Addr)(ha:c.R a):w₁.cell? a=w.cell? a:=(h.ro a ha).cell
theorem AS.refl(c:Ctx)(w:World):AS c w w:=⟨rfl,.refl _,rfl,AN _,fun _ _=>rfl,fun _ _=>rfl,fun _ _=> .refl _ _⟩
theorem AS.trans{c:Ctx}{w w₁ w₂:World}(h:AS c w w₁)(h':AS c w₁ w₂):AS c w w₂ :=
 ⟨h'.tape.trans h.tape,h.os.trans h'.os,h'.output.trans h.output,A1 h.size h'.size,fun b hb=>(h'.shape b (AV hb h.size)).trans (h.shape b hb),
  fun b hb=>(h'.mine b hb).trans (h.mine b hb),fun a ha=>(h.ro a ha).trans (h'.ro a ha)⟩
theorem AS.at(c:Ctx)(w:World)(d:Nat):AS c w (w.at d):=⟨rfl,.refl _,rfl,AN _,fun _ _=>rfl,fun _ _=>rfl,fun _ _=> .of rfl⟩
theorem AS.sub{c c':Ctx}{w w₁:World}(h:AS c w w₁)(hM: ∀b,c'.M b→c.M b)(hR: ∀a,c'.R a→c.R a):AS c' w w₁ :=
 ⟨h.tape,h.os,h.output,h.size,h.shape,fun b hb=>h.mine b (hM b hb),fun a ha=>h.ro a (hR a ha)⟩
structure Ca(c:Ctx)(M':Nat→Prop)(R':Addr→Prop)(w₁ w':World):Prop where
 tape:w'.tape=w₁.tape
 os:Z0 w₁.os w'.os
 output:w'.output=w₁.output
 size:w₁.heap.size≤w'.heap.size
 shape: ∀b,b<w₁.heap.size→w'.shape? b=w₁.shape? b
 keep: ∀b,b<w₁.heap.size→¬c.M b→w'.heap[b]? =w₁.heap[b]?
 mine: ∀b,M' b→b<w'.heap.size∧(c.M b∨w₁.heap.size≤b)
 more: ∀a,c.R a→R' a
 ro: ∀a,R' a→c.R a∨(a.block<w'.heap.size∧(c.M a.block∨w₁.heap.size≤a.block)∧¬M' a.block)
def SJ(es:Array Event):Prop:= ∀e∈es,∀a,MemAct.ofEvent e≠ .mark (.release a)
def BQ(c:Ctx)(w₁ w':World)(es:Array Event):Prop :=
 SJ es∧∀e∈es,∀x,(MemAct.ofEvent e).touch?=some x→(∃b,bk x.loc=some b∧(c.M b∨(w₁.heap.size≤b∧b<w'.heap.size)))∨(∃a,x.loc= .cell a∧c.R a∧x.write=false)
theorem BQ.sub{c:Ctx}{w w':World}{l m:Array Event}(h:BQ c w w' l)(hs: ∀e∈m,e∈l):BQ c w w' m:=⟨fun e he=>h.1 e (hs e he),fun e he=>h.2 e (hs e he)⟩
def GV(b:Nat)(es:Array Event):Prop :=
 SJ es∧∀e∈es,∀x,(MemAct.ofEvent e).touch?=some x→bk x.loc=some b∧x.kind≠ .plain
def K8(b d:Nat)(es:Array Event):Prop :=
 SJ es∧∀j e,es[j]? =some e→(MemAct.ofEvent e).touch?=none∨(∃x,(MemAct.ofEvent e).touch?=some x∧bk x.loc=some b∧x.kind= .atomic∧0<deafBehind d (es.extract 0 j))
def Gs(a:Addr)(es:Array Event):Prop :=
 SJ es∧∀e∈es,∀x,(MemAct.ofEvent e).touch?=some x→x.loc= .cell a∧x.kind= .atomic
def Qx(x:Jb)(m:MW)(lp':LP)(m':MW)(w w':World):Prop :=
 Ib lp' x.μ.ow∧((Tr x.μ.lp m lp' m'∧w'=w.setCell x.C.wa (.int .i32 m'.val))∨(Si x.μ.lp m lp'∧m'=m∧w'=w))
def Q4(μ:Ct)(m m':MW)(φ':Nat):Prop:=φ'≤μ.φ∧((m'≠m∨∃m₀,μ.sn=some m₀∧m₀≠m)→φ'<μ.φ)
def Apart(c:Ctx)(b:Nat):Prop:= ¬c.M b∧∀x,c.R x→x.block≠b
def CZ.drop(G:CZ)(k:Nat):CZ:={G with kids:=G.kids.eraseIdx k}
def CZ.ph(G:CZ)(a:Nat)(p:Lz):CZ:={G with wg:=some (a,p)}
structure Nx where
 g:Goroutine
 w:World
 es:Array Event
 M:Nat→Prop:=fun _=>False
 R:Addr→Prop:=fun _=>False
 child:Goroutine:=default
 sp:Spec:=⟨fun _ _ _=>True,fun _ _ _ _ _ _=>trivial⟩
 v:Value:= .nilFunc
 z:Value:= .nilFunc
 FG:Bool:=false
 lp:LP:= .fin
 m:MW:=⟨false,false,false,0⟩
inductive W(P:Program)(ty:TypeId)(Post:Value→World→Prop):Bool→Nat→Ctx→Goroutine→World→Prop
 |MN {main:Bool} {n:Nat} {c:Ctx} {g:Goroutine} {w:World} (N:World→Nx) (hs:g.status= .running) (hb:main=true∨c.send≠none∨(c.dec≠none∧∀w₁,AS c w w₁→∀e∈(N w₁).es,(MemAct.ofEvent e).touch?=none))
   (h: ∀w₁,AS c w w₁→stepG P main g w₁= .go (N w₁).g (N w₁).w (N w₁).es∧(N w₁).g.status= .running∧Ca c (N w₁).M (N w₁).R w₁ (N w₁).w∧BQ c w₁ (N w₁).w (N w₁).es)
   (k: ∀w₁,AS c w w₁→W P ty Post main n {c with M:=(N w₁).M,R:=(N w₁).R,d:=deafBehind c.d (N w₁).es} (N w₁).g (N w₁).w):W P ty Post main (n+1) c g w
 |spawn {main:Bool} {n n₁ n₂:Nat} {c:Ctx} {g:Goroutine} {w:World} (N:World→Nx) {G:CZ} {Je:Option (Nat×Lz)} (hs:g.status= .running) (hn:n₁+n₂≤n) (hd:c.d=0) (hG:c.AP=some G) (Dq:G.closed=false) (A2:G.cap=0∨G.kids.length<G.cap)
   (Az:G.wg=none∧Je=none∨∃a mx,G.wg=some (a,.pend mx)∧Je=some (a,.idle mx))
   (h: ∀w₁,AS c w w₁→stepG P main g w₁= .spawn (N w₁).g (N w₁).child w₁ (N w₁).es∧(N w₁).g.status= .running∧(N w₁).child.status= .running∧Ca c (N w₁).M (N w₁).R w₁ w₁∧BQ c w₁ w₁ (N w₁).es∧deafBehind 0 (N w₁).es=0)
   (k₁: ∀w₁,AS c w w₁→W P ty Post main n₁ {c with M:=(N w₁).M,R:=(N w₁).R,AP:=some {G with kids:=G.kids++ [(N w₁).sp],wg:=Je}} (N w₁).g w₁)
   (k₂: ∀w₁,AS c w w₁→W P ty Post false n₂ {M:=fun _=>False,R:=c.TZ (N w₁).R,d:=0,send:=some (G.ch,(N w₁).sp),dec:=G.wg.map fun x=>(x.1,.cnt),AP:=none,AL:=G.AY.map fun C=>⟨C,Gm.fresh G.kids.length⟩} (N w₁).child w₁):W P ty Post main (n+1) c g w
 |send {n:Nat} {c:Ctx} {g:Goroutine} {w:World} (N:World→Nx) {ch:Nat} {sp:Spec} (hs:g.status= .running) (hd:c.d=0) (hsend:c.send=some (ch,sp)) (hG:c.AP=none) (IW:c.AL=none)
   (h: ∀w₁,AS c w w₁→stepG P false g w₁= .comm (N w₁).g #[scase ch (N w₁).v (N w₁).z] true .send w₁ (N w₁).es∧BQ c w₁ w₁ (N w₁).es∧deafBehind 0 (N w₁).es=0∧sp.ok (N w₁).v (N w₁).R w₁∧
    (∀a,(N w₁).R a→a.block<w₁.heap.size∧(c.R a∨c.M a.block)))
   (k: ∀w₁,AS c w w₁→W P ty Post false n {c with M:=fun _=>False,R:=fun a=>c.R a∨(N w₁).R a,send:=none} (Conc.served (N w₁).g undef) w₁):W P ty Post false (n+1) c g w
 |recv {main:Bool} {n:Nat} {c:Ctx} {g:Goroutine} {w:World} (N:World→Nx) {G:CZ} (hs:g.status= .running) (hd:c.d=0) (hG:c.AP=some G) (hk:G.kids≠ []) (BW:G.AY=none) (A2:G.cap=0∧G.closed=false∨0<G.cap∧G.closed=true)
   (h: ∀w₁,AS c w w₁→stepG P main g w₁= .comm (N w₁).g #[rcase G.ch (N w₁).z] true (.recv (N w₁).FG) w₁ (N w₁).es∧BQ c w₁ w₁ (N w₁).es∧deafBehind 0 (N w₁).es=0)
   (k: ∀w₁,AS c w w₁→∀(k:Nat) (sp:Spec),G.kids[k]? =some sp→∀(v:Value) (Rm:Addr→Prop) (w₂:World),AS c w₁ w₂→sp.ok v Rm w₂→(∀a,Rm a→a.block<w₂.heap.size∧¬c.M a.block)→
    W P ty Post main n {c with R:=fun a=>c.R a∨Rm a,AP:=some (G.drop k)} (Conc.served (N w₁).g (Conc.recvd (N w₁).FG v true)) w₂):W P ty Post main (n+1) c g w
 |close {main:Bool} {n:Nat} {c:Ctx} {g:Goroutine} {w:World} (N:World→Nx) {G:CZ} {a:Nat} (hs:g.status= .running) (hd:c.d=0) (hG:c.AP=some G) (A2:0<G.cap) (Az:G.wg=some (a,.fin)) (Dq:G.closed=false) (BW:G.AY=none)
   (h: ∀w₁,AS c w w₁→∀buf s r,w₁.heap[G.ch]? =some (.chan G.cap buf false s r false)→stepG P main g w₁= .go (N w₁).g (w₁.setChan G.ch G.cap buf true s r false) (N w₁).es∧(N w₁).g.status= .running∧GV G.ch (N w₁).es∧deafBehind 0 (N w₁).es=0)
   (k: ∀w₁,AS c w w₁→Apart c G.ch→∀buf s r,w₁.heap[G.ch]? =some (.chan G.cap buf false s r false)→W P ty Post main n {c with AP:=some {G with closed:=true}} (N w₁).g (w₁.setChan G.ch G.cap buf true s r false)):W P ty Post main (n+1) c g w
 |NC {main:Bool} {n:Nat} {c:Ctx} {g:Goroutine} {w:World} (N:World→Nx) {G:CZ} (hs:g.status= .running) (hd:c.d=0) (hG:c.AP=some G) (hk:G.kids= []) (BW:G.AY=none) (Dq:G.closed=true)
   (h: ∀w₁,AS c w w₁→stepG P main g w₁= .comm (N w₁).g #[rcase G.ch (N w₁).z] true (.recv (N w₁).FG) w₁ (N w₁).es∧BQ c w₁ w₁ (N w₁).es∧deafBehind 0 (N w₁).es=0)
   (k: ∀w₁,AS c w w₁→W P ty Post main n c (Conc.served (N w₁).g (Conc.recvd (N w₁).FG (N w₁).z false)) w₁):W P ty Post main (n+1) c g w
 |XP {main:Bool} {n:Nat} {c:Ctx} {g:Goroutine} {w:World} (N:World→Nx) {G:CZ} {a mx:Nat} (hs:g.status= .running) (hG:c.AP=some G) (Az:G.wg=some (a,.idle mx)) (hd:0<c.d) (gS:mx<4)
   (h: ∀w₁,AS c w w₁→∀v:Nat,v≤mx→WgAt ty a w₁ (v*KK) 0→stepG P main g w₁= .go (N w₁).g (w₁.setCell (stA a) (.int .u64 ((v+1)*KK))) (N w₁).es∧(N w₁).g.status= .running∧GV a (N w₁).es∧deafBehind c.d (N w₁).es=c.d)
   (k: ∀w₁,AS c w w₁→Apart c a→∀v:Nat,v≤mx→WgAt ty a w₁ (v*KK) 0→W P ty Post main n {c with AP:=some (G.ph a (.pend (mx+1)))} (N w₁).g (w₁.setCell (stA a) (.int .u64 ((v+1)*KK)))):W P ty Post main (n+1) c g w
 |XJ {main:Bool} {n:Nat} {c:Ctx} {g:Goroutine} {w:World} (N:World→Nx) {G:CZ} {a:Nat} {φ:Lz} (hs:g.status= .running) (hG:c.AP=some G) (Az:G.wg=some (a,φ)) (hφ:φ≠ .fin)
   (h: ∀w₁,AS c w w₁→stepG P main g w₁= .go (N w₁).g w₁ (N w₁).es∧(N w₁).g.status= .running∧GV a (N w₁).es∧deafBehind c.d (N w₁).es=c.d)
   (k: ∀w₁,AS c w w₁→W P ty Post main n {c with AP:=some (G.ph a φ)} (N w₁).g w₁):W P ty Post main (n+1) c g w
 |O6 {main:Bool} {n:Nat} {c:Ctx} {g:Goroutine} {w:World} (N:World→Nx) {G:CZ} {a mx:Nat} (hs:g.status= .running) (hG:c.AP=some G) (Az:G.wg=some (a,.idle mx)) (hd:0<c.d)
   (h: ∀w₁,AS c w w₁→∀v:Nat,v≤mx→WgAt ty a w₁ (v*KK) 0→stepG P main g w₁= .go (N w₁).g w₁ (N w₁).es∧(N w₁).g.status= .running∧GV a (N w₁).es∧deafBehind c.d (N w₁).es=c.d)
   (k: ∀w₁,AS c w w₁→∀v:Nat,v≤mx→WgAt ty a w₁ (v*KK) 0→W P ty Post main n {c with AP:=some (G.ph a (if v=0 then .fin else .w2 v))} (N w₁).g w₁):W P ty Post main (n+1) c g w
 |XO {main:Bool} {n:Nat} {c:Ctx} {g:Goroutine} {w:World} (N N':World→Nx) {G:CZ} {a vs:Nat} (hs:g.status= .running) (hG:c.AP=some G) (Az:G.wg=some (a,.w2 vs)) (hd:0<c.d) (Zk:vs≠0)
   (h: ∀w₁,AS c w w₁→WgAt ty a w₁ (vs*KK) 0→stepG P main g w₁= .go (N w₁).g (w₁.setCell (stA a) (.int .u64 (vs*KK+1))) (N w₁).es∧(N w₁).g.status= .running∧GV a (N w₁).es∧deafBehind c.d (N w₁).es=c.d)
   (k: ∀w₁,AS c w w₁→Apart c a→WgAt ty a w₁ (vs*KK) 0→W P ty Post main n {c with AP:=some (G.ph a .reg)} (N w₁).g (w₁.setCell (stA a) (.int .u64 (vs*KK+1))))
   (h': ∀w₁,AS c w w₁→∀v:Nat,v<vs→WgAt ty a w₁ (v*KK) 0→stepG P main g w₁= .go (N' w₁).g w₁ (N' w₁).es∧(N' w₁).g.status= .running∧GV a (N' w₁).es∧deafBehind c.d (N' w₁).es=c.d)
   (k': ∀w₁,AS c w w₁→∀v:Nat,v<vs→WgAt ty a w₁ (v*KK) 0→W P ty Post main n {c with AP:=some (G.ph a (.idle v))} (N' w₁).g w₁):W P ty Post main (n+1) c g w
 |Ud {main:Bool} {n:Nat} {c:Ctx} {g:Goroutine} {w:World} (N:World→Nx) {G:CZ} {a:Nat} (hs:g.status= .running) (hG:c.AP=some G) (Az:G.wg=some (a,.reg)) (hd:0<c.d) (ho:g.offers=none)
   (h0: ∀w₁,AS c w w₁→∀st,WgAt ty a w₁ st 0→stepG P main g w₁= .go {g with status:= .blocked} w₁ #[])
   (h: ∀w₁,AS c w w₁→WgAt ty a w₁ 0 1→stepG P main g w₁= .go (N w₁).g (w₁.setCell (smA a) (.int .u32 0)) (N w₁).es∧(N w₁).g.status= .running∧GV a (N w₁).es∧deafBehind c.d (N w₁).es=c.d)
   (k: ∀w₁,AS c w w₁→Apart c a→WgAt ty a w₁ 0 1→W P ty Post main n {c with AP:=some (G.ph a .w4)} (N w₁).g (w₁.setCell (smA a) (.int .u32 0))):W P ty Post main (n+1) c g w
 |XN {main:Bool} {n:Nat} {c:Ctx} {g:Goroutine} {w:World} (N:World→Nx) {G:CZ} {a:Nat} (hs:g.status= .running) (hG:c.AP=some G) (Az:G.wg=some (a,.w4)) (hd:0<c.d)
   (h: ∀w₁,AS c w w₁→WgAt ty a w₁ 0 0→stepG P main g w₁= .go (N w₁).g w₁ (N w₁).es∧(N w₁).g.status= .running∧GV a (N w₁).es∧deafBehind c.d (N w₁).es=c.d)
   (k: ∀w₁,AS c w w₁→WgAt ty a w₁ 0 0→W P ty Post main n {c with AP:=some (G.ph a (.fin))} (N w₁).g w₁):W P ty Post main (n+1) c g w
 |Ye {n:Nat} {c:Ctx} {g:Goroutine} {w:World} (N:World→Nx) {a:Nat} (hs:g.status= .running) (A0:c.dec=some (a,.cnt)) (hsend:c.send=none) (hG:c.AP=none) (hd:0<c.d)
   (h: ∀w₁,AS c w w₁→∀v wt:Nat,wt≤1→v<4→WgAt ty a w₁ ((v+1)*KK+wt) 0→stepG P false g w₁= .go (N w₁).g (w₁.setCell (stA a) (.int .u64 (v*KK+wt))) (N w₁).es∧(N w₁).g.status= .running∧K8 a c.d (N w₁).es∧deafBehind c.d (N w₁).es=c.d)
   (k: ∀w₁,AS c w w₁→∀v wt:Nat,wt≤1→v<4→WgAt ty a w₁ ((v+1)*KK+wt) 0→W P ty Post false n {c with dec:=if v=0∧wt=1 then some (a,.k1)else none} (N w₁).g (w₁.setCell (stA a) (.int .u64 (v*KK+wt)))):W P ty Post false (n+1) c g w
 |QH {n:Nat} {c:Ctx} {g:Goroutine} {w:World} (N:World→Nx) {a:Nat} (hs:g.status= .running) (A0:c.dec=some (a,.k1)) (hsend:c.send=none) (hG:c.AP=none) (hd:0<c.d)
   (h: ∀w₁,AS c w w₁→WgAt ty a w₁ 1 0→stepG P false g w₁= .go (N w₁).g w₁ (N w₁).es∧(N w₁).g.status= .running∧K8 a c.d (N w₁).es∧deafBehind c.d (N w₁).es=c.d)
   (k: ∀w₁,AS c w w₁→WgAt ty a w₁ 1 0→W P ty Post false n {c with dec:=some (a,.k2)} (N w₁).g w₁):W P ty Post false (n+1) c g w
 |Lf {n:Nat} {c:Ctx} {g:Goroutine} {w:World} (N:World→Nx) {a:Nat} (hs:g.status= .running) (A0:c.dec=some (a,.k2)) (hsend:c.send=none) (hG:c.AP=none) (hd:0<c.d)
   (h: ∀w₁,AS c w w₁→WgAt ty a w₁ 1 0→stepG P false g w₁= .go (N w₁).g (w₁.setCell (stA a) (.int .u64 0)) (N w₁).es∧(N w₁).g.status= .running∧K8 a c.d (N w₁).es∧deafBehind c.d (N w₁).es=c.d)
   (k: ∀w₁,AS c w w₁→WgAt ty a w₁ 1 0→W P ty Post false n {c with dec:=some (a,.k3)} (N w₁).g (w₁.setCell (stA a) (.int .u64 0))):W P ty Post false (n+1) c g w
 |Lg {n:Nat} {c:Ctx} {g:Goroutine} {w:World} (N:World→Nx) {a:Nat} (hs:g.status= .running) (A0:c.dec=some (a,.k3)) (hsend:c.send=none) (hG:c.AP=none) (hd:0<c.d) (hw:mayWake P g=true)
   (h: ∀w₁,AS c w w₁→WgAt ty a w₁ 0 0→stepG P false g w₁= .go (N w₁).g (w₁.setCell (smA a) (.int .u32 1)) (N w₁).es∧(N w₁).g.status= .running∧K8 a c.d (N w₁).es∧deafBehind c.d (N w₁).es=c.d)
   (k: ∀w₁,AS c w w₁→WgAt ty a w₁ 0 0→W P ty Post false n {c with dec:=none} (N w₁).g (w₁.setCell (smA a) (.int .u32 1))):W P ty Post false (n+1) c g w
 |leave {n:Nat} {c:Ctx} {g:Goroutine} {w:World} (hsend:c.send=none) (A0:c.dec=none) (hG:c.AP=none) (IW:c.AL=none) (hq:QuitsD P n c.d g):W P ty Post false n c g w
 |done {n:Nat} {c:Ctx} {g:Goroutine} {w:World} (N:World→Nx) (hs:g.status= .running) (hd:c.d=0) (hG:c.AP=none)
   (h: ∀w₁,AS c w w₁→stepG P true g w₁= .ended (.done (N w₁).v) (N w₁).w (N w₁).es∧BQ c w₁ (N w₁).w (N w₁).es∧w₁.heap.size≤(N w₁).w.heap.size∧Post (N w₁).v (N w₁).w):W P ty Post true (n+1) c g w
 |found {main:Bool} {n:Nat} {c:Ctx} {g:Goroutine} {w:World} {ch cap:Nat} {wg:Option Nat} (hb:main=true∨c.send≠none) (hG:c.AP=none) (Hh:c.M ch)
   (hw:w.heap[ch]? =some (.chan cap #[] false 0 0 false)) (Az: ∀a,wg=some a→c.M a∧a≠ch∧WgAt ty a w 0 0) (gV:wg.isSome=true↔0<cap)
   (h:W P ty Post main n {c with M:=fun b=>c.M b∧b≠ch∧wg≠some b,AP:=some {ch,cap,kids:= [],wg:=wg.map fun a=>(a,.idle 0),closed:=false}} g w):W P ty Post main n c g w
 |free {main:Bool} {n:Nat} {c:Ctx} {g:Goroutine} {w:World} {G:CZ} (hb:main=true∨c.send≠none) (hG:c.AP=some G) (BW:G.AY=none) (hk:G.kids= []) (Az:G.wg=none∨∃a,G.wg=some (a,.fin))
   (h:W P ty Post main n {c with AP:=none} g w):W P ty Post main n c g w
 |freeze {main:Bool} {n:Nat} {c:Ctx} {g:Goroutine} {w:World} {M':Nat→Prop} {R':Addr→Prop} (hb:main=true∨c.send≠none) (hM: ∀b,M' b→c.M b) (hR: ∀a,c.R a→R' a) (Ox: ∀a,R' a→c.R a∨(c.M a.block∧¬M' a.block))
   (h:W P ty Post main n {c with M:=M',R:=R'} g w):W P ty Post main n c g w
 |Vv {n:Nat} {c:Ctx} {g:Goroutine} {w:World} (N:World→Nx) {x:Jb} (hs:g.status= .running) (hx:c.AL=some x)
   (h: ∀w₁,AS c w w₁→∀m s,m.q≤5→Ng x.μ m→Bz x.C w₁ m s→stepG P false g w₁= .go (N w₁).g (N w₁).w (N w₁).es∧(N w₁).g.status= .running∧Gs x.C.wa (N w₁).es∧deafBehind c.d (N w₁).es=c.d∧Qx x m (N w₁).lp (N w₁).m w₁ (N w₁).w)
   (k: ∀w₁,AS c w w₁→∀m s,m.q≤5→Ng x.μ m→Bz x.C w₁ m s→AS c w₁ (N w₁).w→∀φ',Q4 x.μ m (N w₁).m φ'→W P ty Post false n {c with AL:=some {x with μ:={x.μ with lp:=(N w₁).lp,φ:=φ',sn:=some (N w₁).m}}} (N w₁).g (N w₁).w):W P ty Post false (n+1) c g w
 |aJ {n:Nat} {c:Ctx} {g:Goroutine} {w:World} (N:World→Nx) {x:Jb} (hs:g.status= .running) (hx:c.AL=some x) (hl:x.μ.lp= .Cs) (ho:g.offers=none)
   (h0: ∀w₁,AS c w w₁→∀m,Bz x.C w₁ m 0→stepG P false g w₁= .go {g with status:= .blocked} w₁ #[])
   (h: ∀w₁,AS c w w₁→∀m s,s≤2→Bz x.C w₁ m (s+1)→stepG P false g w₁= .go (N w₁).g (w₁.setCell x.C.sa (.int .u32 s)) (N w₁).es∧(N w₁).g.status= .running∧Gs x.C.sa (N w₁).es∧deafBehind c.d (N w₁).es=c.d)
   (k: ∀w₁,AS c w w₁→∀m s,s≤2→Bz x.C w₁ m (s+1)→AS c w₁ (w₁.setCell x.C.sa (.int .u32 s))→W P ty Post false n {c with AL:=some {x with μ:={x.μ with lp:= .up,sn:=none}}} (N w₁).g (w₁.setCell x.C.sa (.int .u32 s))):W P ty Post false (n+1) c g w
 |P6 {n:Nat} {c:Ctx} {g:Goroutine} {w:World} (N:World→Nx) {x:Jb} (hs:g.status= .running) (hx:c.AL=some x) (hl:x.μ.lp= .rel) (hw:mayWake P g=true)
   (h: ∀w₁,AS c w w₁→∀s:Nat,s≤2→(∃m,Bz x.C w₁ m s)→stepG P false g w₁= .go (N w₁).g (w₁.setCell x.C.sa (.int .u32 (s+1:Nat))) (N w₁).es∧(N w₁).g.status= .running∧Gs x.C.sa (N w₁).es∧deafBehind c.d (N w₁).es=c.d)
   (k: ∀w₁,AS c w w₁→∀s:Nat,s≤2→(∃m,Bz x.C w₁ m s)→AS c w₁ (w₁.setCell x.C.sa (.int .u32 (s+1:Nat)))→W P ty Post false n {c with AL:=some {x with μ:={x.μ with lp:= .fin,sn:=none}}} (N w₁).g (w₁.setCell x.C.sa (.int .u32 (s+1:Nat)))):W P ty Post false (n+1) c g w
 |YY {n:Nat} {c:Ctx} {g:Goroutine} {w:World} (N:World→Nx) {x:Jb} (hs:g.status= .running) (hx:c.AL=some x) (hd:c.d=0) (hl:x.μ.lp= .hold) (ho:x.μ.ow= .no)
   (h: ∀w₁,AS c w w₁→stepG P false g w₁= .go (N w₁).g w₁ (N w₁).es∧(N w₁).g.status= .running∧(N w₁).es.map MemAct.ofEvent= #[.mark (.acquire x.C.wa)])
   (k: ∀w₁,AS c w w₁→∀σ,x.C.J σ w₁→σ x.μ.tk=none→(∀b,x.C.P b→b<w₁.heap.size∧Apart c b)→W P ty Post false n {c with M:=fun b=>c.M b∨x.C.P b,AL:=some {x with μ:={x.μ with ow:= .own w₁}}} (N w₁).g w₁):W P ty Post false (n+1) c g w
 |YU {n:Nat} {c:Ctx} {g:Goroutine} {w:World} (N:World→Nx) {x:Jb} {wa:World} (hs:g.status= .running) (hx:c.AL=some x) (hd:c.d=0) (ho:x.μ.ow= .own wa) (hP: ∀b,x.C.P b→c.M b)
   (h: ∀w₁,AS c w w₁→stepG P false g w₁= .go (N w₁).g w₁ (N w₁).es∧(N w₁).g.status= .running∧(N w₁).es.map MemAct.ofEvent= #[.mark (.releaseMerge x.C.wa)]∧∀σ,x.C.J σ wa→σ x.μ.tk=none→x.C.J (upd σ x.μ.tk (some (N w₁).v)) w₁)
   (k: ∀w₁,AS c w w₁→W P ty Post false n {c with M:=fun b=>c.M b∧¬x.C.P b,AL:=some {x with μ:={x.μ with ow:= .put (N w₁).v}}} (N w₁).g w₁):W P ty Post false (n+1) c g w
 |P8 {n:Nat} {c:Ctx} {g:Goroutine} {w:World} (N:World→Nx) {x:Jb} {v:Value} {ch a:Nat} {sp:Spec} (hs:g.status= .running) (hx:c.AL=some x) (hd:c.d=0) (hl:x.μ.lp= .fin) (ho:x.μ.ow= .put v) (hsend:c.send=some (ch,sp)) (A0:c.dec=some (a,.cnt)) (hG:c.AP=none)
   (h: ∀w₁,AS c w w₁→stepG P false g w₁= .go (N w₁).g w₁ (N w₁).es∧(N w₁).g.status= .running∧(N w₁).es.map MemAct.ofEvent= #[.mark (.releaseMerge (stA a))]∧sp.ok v (N w₁).R w₁∧∀y,(N w₁).R y→y.block<w₁.heap.size∧y.block≠x.C.lb∧(c.R y∨c.M y.block))
   (k: ∀w₁,AS c w w₁→W P ty Post false n {c with M:=fun _=>False,R:=(N w₁).R,send:=none,AL:=none} (N w₁).g w₁):W P ty Post false (n+1) c g w
 |Jx {n:Nat} {c:Ctx} {g:Goroutine} {w:World} {C:Bo} {ch a:Nat} {R':Addr→Prop} (hG:c.AP=none) (Hr:c.M C.lb) (ha:c.M a) (hP: ∀b,C.P b→c.M b) (R7:a≠C.lb) (kL: ¬C.P a) (Hh:ch≠a) (hw:WgAt ty a w 0 0)
   (hR: ∀y,c.R y→R' y) (RY: ∀y,R' y→c.R y∨(y.block=C.lb∧y.spot=none∧y≠C.wa∧y≠C.sa)) (hk:Bz C w ⟨false,false,false,0⟩ 0) (hJ:C.J (fun _=>none) w)
   (h:W P ty Post true n {c with M:=fun b=>c.M b∧b≠C.lb∧b≠a∧¬C.P b,R:=R',AP:=some {ch,cap:=Am,kids:= [],wg:=some (a,.idle 0),closed:=false,AY:=some C}} g w):W P ty Post true n c g w
 |Iv {n:Nat} {c:Ctx} {g:Goroutine} {w:World} (N:World→Nx) {G:CZ} {C:Bo} {a:Nat} (hs:g.status= .running) (hd:c.d=0) (hG:c.AP=some G) (hC:G.AY=some C) (Az:G.wg=some (a,.fin))
   (h: ∀w₁,AS c w w₁→stepG P true g w₁= .go (N w₁).g w₁ (N w₁).es∧(N w₁).g.status= .running∧(N w₁).es.map MemAct.ofEvent= #[.mark (.acquire (stA a))])
   (k: ∀w₁,AS c w w₁→∀(vs:Nat→Value) (Rs:Nat→Addr→Prop),(∀(τ:Nat) (sp:Spec),G.kids[τ]? =some sp→sp.ok (vs τ) (Rs τ) w₁)→(∀τ y,τ<G.kids.length→Rs τ y→y.block<w₁.heap.size∧¬c.M y.block∧y.block≠C.lb∧¬C.P y.block)→
    C.J (fun τ=>if τ<G.kids.length then some (vs τ)else none) w₁→Bz C w₁ ⟨false,false,false,0⟩ 0→(∀b,b=C.lb∨C.P b→b<w₁.heap.size∧¬c.M b∧∀y,c.R y→C.P y.block→False)→
    W P ty Post true n {c with M:=fun b=>c.M b∨b=C.lb∨C.P b,R:=fun y=>(c.R y∧y.block≠C.lb)∨∃τ,τ<G.kids.length∧Rs τ y,AP:=none} (N w₁).g w₁):W P ty Post true (n+1) c g w
 |more {main:Bool} {n:Nat} {c:Ctx} {g:Goroutine} {w:World} (h:W P ty Post main n c g w):W P ty Post main (n+1) c g w
section
variable{P:Program}{ty:TypeId}{Post:Value→World→Prop}
theorem W.rely{main:Bool}{n:Nat}{c:Ctx}{g:Goroutine}{w:World}(h:W P ty Post main n c g w): ∀{w':World},AS c w w'→W P ty Post main n c g w':=by
 induction h with
 |MN N hs hb h k _=>exact fun r=> .MN N hs (hb.imp id fun x=>x.imp id fun y=>⟨y.1,fun w₁ r₁=>y.2 w₁ (r.trans r₁)⟩) (fun w₁ r₁=>h w₁ (r.trans r₁)) fun w₁ r₁=>k w₁ (r.trans r₁)
 |spawn N hs hn hd hG Dq A2 Az h k₁ k₂ _ _=>exact fun r=> .spawn N hs hn hd hG Dq A2 Az (fun w₁ r₁=>h w₁ (r.trans r₁)) (fun w₁ r₁=>k₁ w₁ (r.trans r₁)) fun w₁ r₁=>k₂ w₁ (r.trans r₁)
 |send N hs hd hsend hG IW h k _=>exact fun r=> .send N hs hd hsend hG IW (fun w₁ r₁=>h w₁ (r.trans r₁)) fun w₁ r₁=>k w₁ (r.trans r₁)
 |recv N hs hd hG hk BW A2 h k _=>exact fun r=> .recv N hs hd hG hk BW A2 (fun w₁ r₁=>h w₁ (r.trans r₁)) fun w₁ r₁=>k w₁ (r.trans r₁)
 |close N hs hd hG A2 Az Dq BW h k _=>exact fun r=> .close N hs hd hG A2 Az Dq BW (fun w₁ r₁=>h w₁ (r.trans r₁)) fun w₁ r₁=>k w₁ (r.trans r₁)
 |NC N hs hd hG hk BW Dq h k _=>exact fun r=> .NC N hs hd hG hk BW Dq (fun w₁ r₁=>h w₁ (r.trans r₁)) fun w₁ r₁=>k w₁ (r.trans r₁)
 |XP N hs hG Az hd gS h k _=>exact fun r=> .XP N hs hG Az hd gS (fun w₁ r₁=>h w₁ (r.trans r₁)) fun w₁ r₁=>k w₁ (r.trans r₁)
 |XJ N hs hG Az hφ h k _=>exact fun r=> .XJ N hs hG Az hφ (fun w₁ r₁=>h w₁ (r.trans r₁)) fun w₁ r₁=>k w₁ (r.trans r₁)
 |O6 N hs hG Az hd h k _=>exact fun r=> .O6 N hs hG Az hd (fun w₁ r₁=>h w₁ (r.trans r₁)) fun w₁ r₁=>k w₁ (r.trans r₁)
 |XO N N' hs hG Az hd Zk h k h' k' _ _=>exact fun r=> .XO N N' hs hG Az hd Zk (fun w₁ r₁=>h w₁ (r.trans r₁)) (fun w₁ r₁=>k w₁ (r.trans r₁)) (fun w₁ r₁=>h' w₁ (r.trans r₁)) fun w₁ r₁=>k' w₁ (r.trans r₁)
 |Ud N hs hG Az hd ho h0 h k _=>exact fun r=> .Ud N hs hG Az hd ho (fun w₁ r₁=>h0 w₁ (r.trans r₁)) (fun w₁ r₁=>h w₁ (r.trans r₁)) fun w₁ r₁=>k w₁ (r.trans r₁)
 |XN N hs hG Az hd h k _=>exact fun r=> .XN N hs hG Az hd (fun w₁ r₁=>h w₁ (r.trans r₁)) fun w₁ r₁=>k w₁ (r.trans r₁)
 |Ye N hs A0 hsend hG hd h k _=>exact fun r=> .Ye N hs A0 hsend hG hd (fun w₁ r₁=>h w₁ (r.trans r₁)) fun w₁ r₁=>k w₁ (r.trans r₁)
 |QH N hs A0 hsend hG hd h k _=>exact fun r=> .QH N hs A0 hsend hG hd (fun w₁ r₁=>h w₁ (r.trans r₁)) fun w₁ r₁=>k w₁ (r.trans r₁)
 |Lf N hs A0 hsend hG hd h k _=>exact fun r=> .Lf N hs A0 hsend hG hd (fun w₁ r₁=>h w₁ (r.trans r₁)) fun w₁ r₁=>k w₁ (r.trans r₁)
 |Lg N hs A0 hsend hG hd hw h k _=>exact fun r=> .Lg N hs A0 hsend hG hd hw (fun w₁ r₁=>h w₁ (r.trans r₁)) fun w₁ r₁=>k w₁ (r.trans r₁)
 |leave hsend A0 hG IW hq=>exact fun _=> .leave hsend A0 hG IW hq
 |done N hs hd hG h=>exact fun r=> .done N hs hd hG fun w₁ r₁=>h w₁ (r.trans r₁)
 |found hb hG Hh hw Az gV _ ih =>
  exact fun r=> .found hb hG Hh (by rw[r.mine _ Hh]; exact hw) (fun a ha=>⟨(Az a ha).1,(Az a ha).2.1,(r.mine _ (Az a ha).1).trans (Az a ha).2.2⟩) gV (ih (r.sub (fun b hb=>hb.1) fun a ha=>ha))
 |free hb hG BW hk Az _ ih=>exact fun r=> .free hb hG BW hk Az (ih (r.sub (fun _ h=>h) fun _ h=>h))
 |freeze hb hM hR Ox _ ih =>
  exact fun r=> .freeze hb hM hR Ox (ih ⟨r.tape,r.os,r.output,r.size,r.shape,fun b B7=>r.mine b (hM b B7),fun a ha=>(Ox a ha).elim (r.ro a) fun x=> .of (r.mine _ x.1)⟩)
 |Vv N hs hx h k _=>exact fun r=> .Vv N hs hx (fun w₁ r₁=>h w₁ (r.trans r₁)) fun w₁ r₁=>k w₁ (r.trans r₁)
 |aJ N hs hx hl ho h0 h k _=>exact fun r=> .aJ N hs hx hl ho (fun w₁ r₁=>h0 w₁ (r.trans r₁)) (fun w₁ r₁=>h w₁ (r.trans r₁)) fun w₁ r₁=>k w₁ (r.trans r₁)
 |P6 N hs hx hl hw h k _=>exact fun r=> .P6 N hs hx hl hw (fun w₁ r₁=>h w₁ (r.trans r₁)) fun w₁ r₁=>k w₁ (r.trans r₁)
 |YY N hs hx hd hl ho h k _=>exact fun r=> .YY N hs hx hd hl ho (fun w₁ r₁=>h w₁ (r.trans r₁)) fun w₁ r₁=>k w₁ (r.trans r₁)
 |YU N hs hx hd ho hP h k _=>exact fun r=> .YU N hs hx hd ho hP (fun w₁ r₁=>h w₁ (r.trans r₁)) fun w₁ r₁=>k w₁ (r.trans r₁)
 |P8 N hs hx hd hl ho hsend A0 hG h k _=>exact fun r=> .P8 N hs hx hd hl ho hsend A0 hG (fun w₁ r₁=>h w₁ (r.trans r₁)) fun w₁ r₁=>k w₁ (r.trans r₁)
 |Iv N hs hd hG hC Az h k _=>exact fun r=> .Iv N hs hd hG hC Az (fun w₁ r₁=>h w₁ (r.trans r₁)) fun w₁ r₁=>k w₁ (r.trans r₁)
 |Jx hG Hr ha hP R7 kL Hh hw hR RY hk hJ _ ih =>
  exact fun r=> .Jx hG Hr ha hP R7 kL Hh ((r.mine _ ha).trans hw) hR RY (hk.block (r.mine _ Hr)) (Bo.keep _ _ _ _ (fun b hb=>r.mine b (hP b hb)) (fun b x h=>(r.shape b (Gm.bZ h)).trans h) hJ)
   (ih ⟨r.tape,r.os,r.output,r.size,r.shape,fun b hb=>r.mine b hb.1,fun y hy=>by
    rcases RY y hy with e|⟨e,_⟩
    ·exact r.ro y e
    ·exact .of (by rw[e]; exact r.mine _ Hr)⟩)
 |more _ ih=>exact fun r=> .more (ih r)
end
end Go.Gw
namespace Go.Gw
open Go Go.Conc Go.ConcN
section
variable{n sz:Nat}{M:Nat→Nat→Prop}{R:Nat→Addr→Prop}{S T:Nat→Nat→Prop}{Q:Lk}{acc:Nat→Nat}{t u:Trace}{a:Addr}
theorem TI.ix(h:TI n sz M R S T Q acc t){p:Nat}{M':Nat→Nat→Prop}{R':Nat→Addr→Prop}{Q':Lk}(hM: ∀i b,M' i b→M i b)(hR: ∀i b,R' i b→R i b∨M i b.block)(hm: ∀i,Q'.mt i→i=p)
  (hK: ∀b,Q'.K b→Q'.B b.block) (hB: ∀b,Q'.B b→M p b) (hP: ∀b,Q'.P b→M p b):TI n sz M' R' S T Q' acc t:=by
 have h':=h.freeze (M':=M') (R':=R') (S':=S) (T':=T) hM hR fun _ _ _ x y=> .inl ⟨x,y⟩;have kn: ∀{b:Nat},M p b→∀k x,touchAt t k=some x→bk x.loc=some b→∀i,Q'.mt i→Knows t i k:=fun hb k x hx e i hi=>by rw[hm i hi]; exact h.mine p _ hb k x hx e
 exact⟨h'.mine,h'.ro,h'.sh,h'.nr,h'.gs,h'.lt,h'.Z3,fun b hb k x hx e=> .inr (kn (hB _ (hK b hb)) k x hx (by rw[e]; rfl)),fun b hb k x hx e=> .inl (kn (hP b hb) k x hx e),fun b hb k x hx e=> .inl (kn (hB b hb) k x hx e)⟩
theorem TI.lock(h:TI n sz M R S T Q acc t)(Ki:NoRelease Q.la t){g:Nat}(hg:g<n)(hm:Q.mt g){z:MemOp}(hz:z.g=g∧z.act= .mark (.acquire Q.la))(h0:Deaf t g=0)
  {M':Nat→Nat→Prop} (hM: ∀i b,M' i b→M i b∨(i=g∧Q.P b)):TI n sz M' R S T {Q with P:=fun _=>False} acc (t++ #[z]):=by
 have h':=h.quiet (u:= #[z]) hg (by intro op A5; simp at A5; subst A5; exact⟨hz.1,by rw[hz.2]; rfl⟩);have j7:(t++ #[z])[t.size]? =some z:=by simp
 have nh:NoRelease Q.la (t++ #[z]):=Ki.app fun op A5=>by simp at A5; subst A5; rw[hz.2]; simp
 have old: ∀{k:Nat} {x:Touch},touchAt (t++ #[z]) k=some x→k<t.size∧touchAt t k=some x:=by
  intro k x hx;obtain⟨op,ho,FY⟩:=touch_of hx;rcases getElem?_append_cases ho with⟨hk,Ck⟩|⟨_,EU⟩
  ·exact⟨hk,by rw[touchAt_of Ck]; exact FY⟩
  ·simp at EU; subst EU; rw[hz.2]at FY; cases FY
 refine⟨fun i b hb k x hx Dn=> ?_,h'.ro,h'.sh,h'.nr,h'.gs,h'.lt,h'.Z3,h'.kw,fun _ hb=>hb.elim,h'.OV⟩;rcases hM i b hb with hb|⟨rfl,hb⟩
 ·exact h'.mine i b hb k x hx Dn
 ·rcases h.tok b hb k x (old hx).2 Dn with e|⟨r,_,h1,h2,h3,_⟩
  ·exact(e i hm).app _
  ·have hr:=lt_of_act? h1;have fT:HappensBefore (t++ #[z]) r t.size:= .single (.inr ⟨.marked hr (.inr (by rw[act?_old hr]; exact h1)) (by rw[act?_of j7,hz.2]) (fun k _ _=>nh k),(heard_old hr).2 h2,
    ⟨i,by simp[Trace.g?,hz.1],by rw[deaf_old (AN _)]; exact h0⟩⟩)
   exact⟨t.size,z,j7,hz.1,.inr ((h3.app #[z]).hb fT)⟩
theorem TI.unlock(h:TI n sz M R S T Q acc t){g:Nat}(hg:g<n)(kD:Q.on g){y:MemOp}(hy:y.g=g∧y.act= .mark (.releaseMerge Q.la))(h0:Deaf t g=0)
  {M':Nat→Nat→Prop} (hM: ∀i b,M' i b→M i b) {P:Nat→Prop} (hP: ∀b,P b→M g b):TI n sz M' R S T {Q with P} acc (t++ #[y]):=by
 have h':=h.quiet (u:= #[y]) hg (by intro op A5; simp at A5; subst A5; exact⟨hy.1,by rw[hy.2]; rfl⟩);have hyp:(t++ #[y])[t.size]? =some y:=by simp
 have old: ∀{k:Nat} {x:Touch},touchAt (t++ #[y]) k=some x→k<t.size∧touchAt t k=some x:=by
  intro k x hx;obtain⟨op,ho,FY⟩:=touch_of hx;rcases getElem?_append_cases ho with⟨hk,Ck⟩|⟨_,EU⟩
  ·exact⟨hk,by rw[touchAt_of Ck]; exact FY⟩
  ·simp at EU; subst EU; rw[hy.2]at FY; cases FY
 refine⟨fun i b hb=>h'.mine i b (hM i b hb),h'.ro,h'.sh,h'.nr,h'.gs,h'.lt,h'.Z3,h'.kw,fun b hb k x hx Dn=> .inr ⟨t.size,g,by rw[act?_of hyp,hy.2],⟨g,by simp[Trace.g?,hy.1],by rw[deaf_old (AN _)]; exact h0⟩, ?_,by simp[Trace.g?,hy.1],kD.1,fun q hq=>by rw[show Q.hand g=none from kD.2]at hq; cases hq⟩,h'.OV⟩;exact .inr ((h.mine g b (hP b hb) k x (old hx).2 Dn).hb_new (AN _) hyp hy.1)
structure FR(acc:Nat→Nat)(t:Trace)(j:Nat)(a:Addr)(q:Nat)(Rm:Addr→Prop):Prop where
 act:t.act? q=some (.mark (.releaseMerge a))
 g:t.g? q=some j
 heard:t.heard q
 all: ∀k g,t.g? k=some g→acc g=j→t.counts k→Before t k q
 ro: ∀b,Rm b→∀k x,touchAt t k=some x→x.loc= .cell b→x.write=true→Before t k q
theorem FR.app{j q:Nat}{Rm:Addr→Prop}(h:FR acc t j a q Rm)(hc: ∀k g,t.size≤k→(t++u).g? k=some g→acc g=j→¬(t++u).counts k)
  (hr: ∀op∈u,∀x,op.act.touch?=some x→∀b,Rm b→x.loc= .cell b→x.write=false):FR acc (t++u) j a q Rm:=by
 have hq:q<t.size:=lt_of_act? h.act;refine⟨by rw[act?_old hq]; exact h.act,by rw[g?_old hq]; exact h.g,(heard_old hq).2 h.heard,fun k g hg ha hk=> ?_,fun b hb k x hx hl hw=> ?_⟩
 ·rcases Nat.lt_or_ge k t.size with Ac|gT
  ·rw[g?_old Ac]at hg;exact(h.all k g hg ha ((Gw.counts_old Ac).1 hk)).app u
  ·exact absurd hk (hc k g gT hg ha)
 ·obtain⟨op,ho,FY⟩:=touch_of hx;rcases getElem?_append_cases ho with⟨_,Ck⟩|⟨_,EU⟩
  ·exact(h.ro b hb k x (by rw[touchAt_of Ck]; exact FY) hl hw).app u
  ·rw[hr op EU x FY b hb hl]at hw; cases hw
theorem FR.new(h:TI n sz M R S T Q acc t){j:Nat}{x:MemOp}(hx:x.g=j∧x.act= .mark (.releaseMerge a))(h0:Deaf t j=0){Rm:Addr→Prop}(hR: ∀b,Rm b→R j b∨M j b.block):FR acc (t++ #[x]) j a t.size Rm:=by
 have dn:(t++ #[x])[t.size]? =some x:=by simp
 have hxg:(t++ #[x]).g? t.size=some j:=by simp[Trace.g?,hx.1]
 have kn: ∀{k:Nat},Knows t j k→Before (t++ #[x]) k t.size:=fun hk=> .inr (hk.hb_new (AN _) dn hx.1);have old: ∀{k:Nat} {z:Touch},touchAt (t++ #[x]) k=some z→k<t.size∧touchAt t k=some z:=by
  intro k z hz;obtain⟨op,ho,eE⟩:=touch_of hz;rcases getElem?_append_cases ho with⟨hk,Ck⟩|⟨_,EU⟩
  ·exact⟨hk,by rw[touchAt_of Ck]; exact eE⟩
  ·simp at EU; subst EU; rw[hx.2]at eE; cases eE
 refine⟨by rw[act?_of dn,hx.2],hxg,⟨j,hxg,by rw[deaf_old (AN _)]; exact h0⟩,fun k g hg ha hc=> ?_,fun b hb k z hz hl hw=> ?_⟩
 ·have Ig:=hc;obtain⟨z,hz,_⟩:=Ig;have hk:=(old hz).1;rw[g?_old hk]at hg;have:=h.Z3 k g hg ((Gw.counts_old hk).1 hc);rw[ha]at this;exact kn this
 ·exact kn ((hR b hb).elim (fun r=>h.ro j b r k z (old hz).2 hl hw) (fun m=>h.mine j _ m k z (old hz).2 (by rw[hl]; rfl)))
theorem FR.XX{acc':Nat→Nat}{j q:Nat}{Rm:Addr→Prop}(h:FR acc t j a q Rm)(ha: ∀g,acc' g=j→acc g=j):FR acc' t j a q Rm :=
 ⟨h.act,h.g,h.heard,fun k g hg e=>h.all k g hg (ha g e),h.ro⟩
theorem TI.hand(h:TI n sz M R S T Q acc t){j:Nat}(hj:j<n){x:MemOp}(hx:x.g=j∧x.act.touch?=none)(hh:Q.hand j=none){M':Nat→Nat→Prop}{R':Nat→Addr→Prop}(hM: ∀i b,M' i b→M i b)(hR: ∀i b,R' i b→R i b∨M i b.block) :
  TI n sz M' R' S T {Q with hand:=upd Q.hand j (some t.size)} acc (t++ #[x]):=by
 have h':=(h.quiet (u:= #[x]) hj (by intro op A5; simp at A5; subst A5; exact hx)).freeze (M':=M') (R':=R') (S':=S) (T':=T) hM hR fun _ _ _ x y=> .inl ⟨x,y⟩;have old: ∀{k:Nat} {z:Touch},touchAt (t++ #[x]) k=some z→k<t.size∧touchAt t k=some z:=by
  intro k z hz;obtain⟨op,ho,eE⟩:=touch_of hz;rcases getElem?_append_cases ho with⟨hk,Ck⟩|⟨_,EU⟩
  ·exact⟨hk,by rw[touchAt_of Ck]; exact eE⟩
  ·simp at EU; subst EU; rw[hx.2]at eE; cases eE
 have up: ∀{i r:Nat},r<t.size→(∀q,Q.hand i=some q→r<q)→∀q,upd Q.hand j (some t.size) i=some q→r<q:=by
  intro i r hr hq q e;by_cases e':i=j
  ·subst e'; rw[upd_same]at e; cases e; exact hr
  ·rw[upd_ne _ _ e']at e; exact hq q e
 refine⟨h'.mine,h'.ro,h'.sh,h'.nr,h'.gs,h'.lt,h'.Z3,h'.kw,fun b hb k z hz RR=> ?_,fun b hb k z hz RR=> ?_⟩
 ·rcases h.tok b hb k z (old hz).2 RR with e|⟨r,i,h1,h2,h3,h4,h5,h6⟩
  ·exact .inl fun i hi=>(e i hi).app _
  ·have hr:=lt_of_act? h1;exact .inr ⟨r,i,by rw[act?_old hr]; exact h1,(heard_old hr).2 h2,h3.app _,by rw[g?_old hr]; exact h4,h5,up hr h6⟩
 ·rcases h.OV b hb k z (old hz).2 RR with e|⟨i,h4,h5,h6⟩
  ·exact .inl fun i hi=>(e i hi).app _
  ·exact .inr ⟨i,by rw[g?_old (old hz).1]; exact h4,h5,up (old hz).1 h6⟩
theorem TI.NP(h:TI n sz M R S T Q acc t)(Ki:NoRelease a t){p:Nat}(hp:p<n){z:MemOp}(hz:z.g=p∧z.act= .mark (.acquire a))(h0:Deaf t p=0)
  {fl:Nat→Option (Nat×(Addr→Prop))} (hf: ∀j f,fl j=some f→FR acc t j a f.1 f.2) (hm:Q.mt p) (hk: ∀j,Q.mt j→j=p∨∃f,fl j=some f∧Q.hand j=some f.1)
  {acc':Nat→Nat} (ha: ∀g,acc' g=if(fl (acc g)).isSome then p else acc g) {R':Nat→Addr→Prop} (hR: ∀i b,R' i b→R i b∨(i=p∧∃j f,fl j=some f∧f.2 b))
  {M':Nat→Nat→Prop} (hM: ∀i b,M' i b→M i b∨(i=p∧(Q.P b∨Q.B b))) {Q':Lk} (hK': ∀b,¬Q'.K b) (hP': ∀b,¬Q'.P b) (O0: ∀b,¬Q'.B b) :
  TI n sz M' R' S T Q' acc' (t++ #[z]):=by
 have h':=h.quiet (u:= #[z]) hp (by intro op A5; simp at A5; subst A5; exact⟨hz.1,by rw[hz.2]; rfl⟩);have j7:(t++ #[z])[t.size]? =some z:=by simp
 have nh:NoRelease a (t++ #[z]):=Ki.app fun op A5=>by simp at A5; subst A5; rw[hz.2]; simp
 have kn: ∀{k j:Nat} {f:Nat×(Addr→Prop)},fl j=some f→Before t k f.1→Knows (t++ #[z]) p k:=by
  intro k j f hj hk;have F:=hf j f hj;have hq:f.1<t.size:=lt_of_act? F.act;have fT:HappensBefore (t++ #[z]) f.1 t.size:= .single (.inr ⟨.marked hq (.inr (by rw[act?_old hq]; exact F.act)) (by rw[act?_of j7,hz.2]) (fun k _ _=>nh k),(heard_old hq).2 F.heard,
   ⟨p,by simp[Trace.g?,hz.1],by rw[deaf_old (AN _)]; exact h0⟩⟩)
  exact⟨t.size,z,j7,hz.1,.inr ((hk.app _).hb fT)⟩
 have old: ∀{k:Nat} {x:Touch},touchAt (t++ #[z]) k=some x→k<t.size∧touchAt t k=some x:=by
  intro k x hx;obtain⟨op,ho,FY⟩:=touch_of hx;rcases getElem?_append_cases ho with⟨hk,Ck⟩|⟨_,EU⟩
  ·exact⟨hk,by rw[touchAt_of Ck]; exact FY⟩
  ·simp at EU; subst EU; rw[hz.2]at FY; cases FY
 refine⟨fun i b hb k x hx Dn=> ?_,fun i b hb k x hx hl hw=> ?_,h'.sh,h'.nr,h'.gs,h'.lt,fun k g hg hc=> ?_,fun b hb=>absurd hb (hK' b),fun b hb=>absurd hb (hP' b),fun b hb=>absurd hb (O0 b)⟩
 ·rcases hM i b hb with B7|⟨rfl,B7|B7⟩
  ·exact h'.mine i b B7 k x hx Dn
  ·rcases h.tok b B7 k x (old hx).2 Dn with e|⟨r,j,r1,r2,r3,g1,g2,g3⟩
   ·exact(e i hm).app _
   ·rcases hk j g2 with rfl|⟨f,f1,f2⟩
    ·obtain⟨op,ho,bC⟩:=CL.1 g1;have kk:Knows t _ k:=⟨r,op,ho,bC,r3⟩;exact kk.app _
    ·exact kn f1 (.inr (r3.hb (.single (.inl ⟨g3 _ f2,j,g1,(hf j f f1).g⟩))))
  ·rcases h.OV b B7 k x (old hx).2 Dn with e|⟨j,g1,g2,g3⟩
   ·exact(e i hm).app _
   ·rcases hk j g2 with rfl|⟨f,f1,f2⟩
    ·obtain⟨op,ho,bC⟩:=CL.1 g1;have:=knows_own ho;rw[bC]at this;exact this.app _
    ·exact kn f1 (.inr (.single (.inl ⟨g3 _ f2,j,g1,(hf j f f1).g⟩)))
 ·rcases hR i b hb with vM|⟨rfl,j,f,hj,vM⟩
  ·exact h'.ro i b vM k x hx hl hw
  ·exact kn hj ((hf j f hj).ro b vM k x (old hx).2 hl hw)
 ·rw[ha g];cases e:fl (acc g)with
  |none=>simp only[Option.isSome_none,Bq,BS]; exact h'.Z3 k g hg hc
  |some f =>
   simp only[Option.isSome_some,Ad];have Ig:=hc;obtain⟨x,hx,_⟩:=Ig;have Yp:=(old hx).1;rw[g?_old Yp]at hg;exact kn e ((hf _ f e).all k g hg rfl ((Gw.counts_old Yp).1 hc))
end
open Go.ConcR (KK wgBlock WgAt stA smA)
open Go.Gm (Bo Ct LP MW Ow Bz Am CI)
structure Jc where
 sp:Spec
 v:Value
 R:Addr→Prop
 s:Nat
 q:Nat
inductive PS where
 |run|snd|Nt|Di|HC
 deriving DecidableEq
structure Ja where
 C:Bo
 AL:Nat→Option Ct
 left:Nat
 m:MW
 s:Nat
 σ:Nat→Option Value
structure Gh where
 M:Nat→Nat→Prop
 R:Nat→Addr→Prop
 d:Nat→Nat
 snd:Nat→Option (Nat×Spec)
 dec:Nat→Option (Nat×IE)
 AP:Nat→Option CZ
 par:Nat→Nat
 acc:Nat→Nat
 ids:Nat→List Nat
 Aw:Nat→Option Jc
 nn:Nat→Nat
 ps:Nat→PS
 q:Lk
 mt:Nat→Option Jb
 cr:Option Ja
def Gh.cx(γ:Gh)(i:Nat):Ctx:=⟨γ.M i,γ.R i,γ.d i,γ.snd i,γ.dec i,γ.AP i,γ.mt i⟩
def GB(G:CZ)(b:Nat):Prop:=(G.AY=none∧b=G.ch)∨∃φ,G.wg=some (b,φ)
def Cj(AP:Nat→Option CZ)(p b:Nat):Prop:= ∃G,AP p=some G∧GB G b
def Dh(AP:Nat→Option CZ)(dec:Nat→Option (Nat×IE))(i b:Nat):Prop:=Cj AP i b∨∃φ,dec i=some (b,φ)
structure Links(n:Nat)(snd:Nat→Option (Nat×Spec))(dec:Nat→Option (Nat×IE))(AP:Nat→Option CZ)(par acc:Nat→Nat)(ids:Nat→List Nat)(Aw:Nat→Option Jc):Prop where
 pos:0<n
 zs:snd 0=none
 zd:dec 0=none
 za:acc 0=0
 gn: ∀p G,AP p=some G→p<n∧acc p=p∧(ids p).length=G.kids.length∧(ids p).Nodup∧(G.closed=true→∃a,G.wg=some (a,.fin))∧(G.wg.isSome=true↔0<G.cap)∧(0<G.cap→G.kids.length≤G.cap)∧(∀a φ,G.wg=some (a,φ)→a≠G.ch)
 JU: ∀(p k j:Nat),(ids p)[k]? =some j→∃G sp,AP p=some G∧G.kids[k]? =some sp∧p<j∧j<n∧acc j=j∧par j=p∧
  ((snd j=some (G.ch,sp)∧Aw j=none∧dec j=G.wg.map (fun x=>(x.1,IE.cnt)))∨(snd j=none∧AP j=none∧∃f,Aw j=some f∧f.sp=sp))
 own: ∀j,snd j≠none∨Aw j≠none→j∈ids (par j)
 HE: ∀j a φ,dec j=some (a,φ)→j<n∧acc j=j∧(φ≠ .cnt→snd j=none)∧∃G ψ,AP (par j)=some G∧G.wg=some (a,ψ)
 self: ∀j,j<n→acc j=j→j≠0→j∈ids (par j)
 gone: ∀j,acc j≠j→snd j=none∧dec j=none∧AP j=none∧Aw j=none
 W0: ∀j,acc (acc j)=acc j
 W1: ∀j,j<n→acc j<n
 HN: ∀j,n≤j→acc j=j∧dec j=none
def cw(a:Nat):Option (Nat×IE)→Nat
 |some (b,.cnt)=>if b=a then 1 else 0
 |_=>0
def C8(n:Nat)(dec:Nat→Option (Nat×IE))(a:Nat):Nat:=sumTo n fun j=>cw a (dec j)
def GR(dec:Nat→Option (Nat×IE))(a:Nat):Prop:= ∀j φ,dec j=some (a,φ)→φ= .cnt
def Kk(ty:TypeId)(V:Nat)(dec:Nat→Option (Nat×IE))(ps:PS)(a:Nat)(w:World):Lz→Prop
 | .idle mx=>V≤mx∧mx≤4∧GR dec a∧WgAt ty a w (V*KK) 0
 | .pend mx=>V+1≤mx∧mx≤4∧GR dec a∧WgAt ty a w ((V+1)*KK) 0
 | .w2 vs=>V≤vs∧vs≤4∧GR dec a∧WgAt ty a w (V*KK) 0
 | .reg=>V≤4∧((0<V∧GR dec a∧WgAt ty a w (V*KK+1) 0)∨
   (V=0∧∃L φ,dec L=some (a,φ)∧φ≠ .cnt∧(∀j ψ,dec j=some (a,ψ)→j=L)∧((φ≠ .k3∧WgAt ty a w 1 0)∨(φ= .k3∧WgAt ty a w 0 0)))∨
   (V=0∧GR dec a∧WgAt ty a w 0 1∧ps≠ .Di))
 | .w4=>V=0∧GR dec a∧WgAt ty a w 0 0
 | .fin=>V=0∧GR dec a
def Cw(Aw:Nat→Option Jc)(j:Nat):Bool:=(Aw j).isSome
structure UU(G:CZ)(ids:List Nat)(Aw:Nat→Option Jc)(w:World)(buf:Array Value)(s r:Nat):Prop where
 at_:w.heap[G.ch]? =some (.chan G.cap buf G.closed s r false)
 un:G.cap=0→buf.size=0
 sum:buf.size+r=s
 cnt:ids.countP (Cw Aw)=buf.size
 msg: ∀q v,buf[q]? =some v→∃j f,j∈ids∧Aw j=some f∧f.v=v∧f.s=r+q
def CZ.cv(G:CZ):Option (Bo×Bool×Nat×Nat):=G.AY.map fun C=>(C,G.closed,G.kids.length,G.cap)
def Fy(AP:Nat→Option CZ)(p:Nat):Option (Bo×Bool×Nat×Nat):=(AP p).bind CZ.cv
theorem Ev{G:CZ}(h:G.AY=none):G.cv=none:=by unfold CZ.cv; rw[h]; rfl
theorem T0{G:CZ}{C:Bo}(h:G.AY=some C):G.cv=some (C,G.closed,G.kids.length,G.cap):=by unfold CZ.cv; rw[h]; rfl
structure HG(n:Nat)(w:World)(AP:Nat→Option CZ)(ids:Nat→List Nat)(Aw:Nat→Option Jc)(mt:Nat→Option Jb)(q:Lk)(ps:Nat→PS)(k:Ja):Prop where
 ci:CI k.C n k.AL k.left k.m k.s k.σ w
 g0:Fy AP 0=some (k.C,false,Am-k.left,Am)
 no: ∀p,p≠0→Fy AP p=none
 JU: ∀(τ j:Nat),(ids 0)[τ]? =some j→∃μ,k.AL j=some μ∧μ.tk=τ
 mem: ∀j μ,k.AL j=some μ→j∈ids 0
 TO: ∀j,mt j=match Aw j with|none=>(k.AL j).map (Jb.mk k.C)|some _=>none
 bI: ∀j f μ,Aw j=some f→k.AL j=some μ→μ.lp= .fin∧μ.ow= .put f.v∧q.hand j=some f.q
 YR: ∀j,k.AL j=none∨Aw j=none→q.hand j=none
 qm: ∀j,q.mt j↔j=0∨k.AL j≠none
 qK: ∀a,q.K a↔a=k.C.wa∨a=k.C.sa
 qB: ∀b,q.B b↔b=k.C.lb
 qP: ∀b,q.P b↔k.C.P b∧∀j μ wa,k.AL j=some μ→μ.ow≠ .own wa
 qa:q.la=k.C.wa
 Di: ∀j,ps j= .HC→k.s=0
structure xA(AP:Nat→Option CZ)(mt:Nat→Option Jb)(q:Lk):Prop where
 no: ∀p,Fy AP p=none
 TO: ∀j,mt j=none
 qm: ∀j,¬q.mt j
 qK: ∀a,¬q.K a
 qB: ∀b,¬q.B b
 qP: ∀b,¬q.P b
def Hn(n:Nat)(w:World)(AP:Nat→Option CZ)(ids:Nat→List Nat)(Aw:Nat→Option Jc)(mt:Nat→Option Jb)(q:Lk)(ps:Nat→PS):Option Ja→Prop
 |none=>xA AP mt q
 |some k=>HG n w AP ids Aw mt q ps k
section
variable{n:Nat}{w w':World}{AP grp':Nat→Option CZ}{ids ids':Nat→List Nat}{Aw fly':Nat→Option Jc}{mt:Nat→Option Jb}{q:Lk}{ps ps':Nat→PS}{cr:Option Ja}
theorem Hn.Wr(h:Hn n w AP ids Aw mt q ps cr){p:Nat}{G:CZ}(hG:AP p=some G)(hc:G.AY≠none):p=0∧∃k,cr=some k∧G.AY=some k.C∧G.closed=false∧G.kids.length+k.left=Am∧G.cap=Am:=by
 have hv:Fy AP p=G.cv:=by unfold Fy; rw[hG]; rfl
 obtain⟨C,hC⟩:=Option.ne_none_iff_exists'.1 hc;rw[T0 hC]at hv;cases cr with
 |none=>rw[h.no p]at hv; cases hv
 |some k =>
  by_cases e:p=0
  ·subst e;rw[h.g0]at hv;simp only[AE,AR]at hv;have:=h.ci.cnt;exact⟨rfl,k,rfl,by rw[hC,hv.1],hv.2.1.symm,by omega,hv.2.2.2.symm⟩
  ·rw[h.no p e]at hv; cases hv
theorem Hn.keep(h:Hn n w AP ids Aw mt q ps cr)(Yi: ∀b x,w.shape? b=some x→w'.shape? b=some x)(hB: ∀b,q.B b→w'.heap[b]? =w.heap[b]?)(hP: ∀b,q.P b→w'.heap[b]? =w.heap[b]?)(hv: ∀p,Fy grp' p=Fy AP p)(hi:(∃G,AP 0=some G∧G.AY≠none)→ids' 0=ids 0)
  (hf: ∀j,q.mt j→fly' j=Aw j) (hp: ∀j,ps' j= .HC→ps j= .HC):Hn n w' grp' ids' fly' mt q ps' cr:=by
 cases cr with
 |none=>exact⟨fun p=>(hv p).trans (h.no p),h.TO,h.qm,h.qK,h.qB,h.qP⟩
 |some k =>
  have h:HG n w AP ids Aw mt q ps k:=h;have hc: ∃G,AP 0=some G∧G.AY≠none:=by
   have:=h.g0;unfold Fy at this;cases e:AP 0 with
   |none=>rw[e]at this; cases this
   |some G =>
    refine⟨G,rfl,fun e'=> ?_⟩;rw[e]at this;have this:G.cv=_:=this;rw[Ev e']at this; cases this
  have fm: ∀{j:Nat} {μ:Ct},k.AL j=some μ→fly' j=Aw j:=fun hj=>hf _ ((h.qm _).2 (.inr (by rw[hj]; simp)));refine⟨h.ci.other Yi (hB _ ((h.qB _).2 rfl)) fun bD b hb=>hP b ((h.qP b).2 ⟨hb,bD⟩),(hv 0).trans h.g0,fun p hp=>(hv p).trans (h.no p hp),fun τ j hj=>h.JU τ j (by rwa [hi hc]at hj),fun j μ hj=>by rw[hi hc]; exact h.mem j μ hj,fun j=> ?_,fun j f μ Oy hj=>h.bI j f μ (by rwa [fm hj]at Oy) hj,fun j hj=> ?_,h.qm,h.qK,h.qB,h.qP,h.qa,fun j e=>h.Di j (hp j e)⟩
  ·rw[h.TO j];cases e:k.AL j with
   |none=>cases Aw j<;>cases fly' j<;>rfl
   |some μ=>rw[fm e]
  ·cases e:k.AL j with
   |none=>exact h.YR j (.inl e)
   |some μ =>
    rcases hj with hj|hj
    ·rw[e]at hj; cases hj
    ·exact h.YR j (.inr (by rw[← fm e]; exact hj))
end
def Fe(acc:Nat→Nat)(t:Trace)(G:CZ)(j:Nat)(f:Jc):Prop :=
 match G.AY with
 |none=>FT acc t j G.ch f.s f.q f.R
 |some _=> ∃a φ,G.wg=some (a,φ)∧FR acc t j (stA a) f.q f.R
theorem Fe.ft{acc:Nat→Nat}{t:Trace}{G:CZ}{j:Nat}{f:Jc}(h:Fe acc t G j f)(hc:G.AY=none):FT acc t j G.ch f.s f.q f.R:=by
 unfold Fe at h; rw[hc]at h; exact h
theorem Fe.of{acc:Nat→Nat}{t:Trace}{G:CZ}{j:Nat}{f:Jc}(hc:G.AY=none)(h:FT acc t j G.ch f.s f.q f.R):Fe acc t G j f:=by
 unfold Fe; rw[hc]; exact h
theorem Fe.da{acc:Nat→Nat}{t:Trace}{G G':CZ}{j:Nat}{f:Jc}(h:Fe acc t G j f)(h1:G'.AY.isSome=G.AY.isSome)(h2:G'.ch=G.ch)(h3:G'.wg.map (·.1)=G.wg.map (·.1)):Fe acc t G' j f:=by
 unfold Fe at h ⊢;cases e:G.AY with
 |none =>
  rw[e]at h h1;cases e':G'.AY with
  |none=>simp only[h2]; exact h
  |some C=>rw[e']at h1; cases h1
 |some C =>
  rw[e]at h h1;cases e':G'.AY with
  |none=>rw[e']at h1; cases h1
  |some C' =>
   obtain⟨a,φ,ha,hF⟩:=h;rw[ha]at h3;cases e2:G'.wg with
   |none=>rw[e2]at h3; cases h3
   |some x =>
    rw[e2]at h3;simp only[Bc,AE]at h3;exact⟨a,x.2,by rw[← h3],hF⟩
theorem Fe.app{acc:Nat→Nat}{t u:Trace}{G:CZ}{j:Nat}{f:Jc}(h:Fe acc t G j f)(hc: ∀k g,t.size≤k→(t++u).g? k=some g→acc g=j→¬(t++u).counts k)
  (hr: ∀op∈u,∀x,op.act.touch?=some x→∀a,f.R a→x.loc= .cell a→x.write=false):Fe acc (t++u) G j f:=by
 unfold Fe at h ⊢;cases e:G.AY with
 |none=>rw[e]at h; exact FT.app h hc hr
 |some C=>rw[e]at h; obtain⟨a,φ,ha,hF⟩:=h; exact⟨a,φ,ha,hF.app hc hr⟩
theorem Fe.XX{acc acc':Nat→Nat}{t:Trace}{G:CZ}{j:Nat}{f:Jc}(h:Fe acc t G j f)(ha: ∀g,acc' g=j→acc g=j):Fe acc' t G j f:=by
 unfold Fe at h ⊢;cases e:G.AY with
 |none=>rw[e]at h; exact FT.XX h ha
 |some C=>rw[e]at h; obtain⟨a,φ,hw,hF⟩:=h; exact⟨a,φ,hw,hF.XX ha⟩
section
variable(P:Program)(ty:TypeId)(Post:Value→World→Prop)
inductive KD(main:Bool)(n:Nat)(c:Ctx)(g:Goroutine)(w:World):PS→Prop
 |run (h:W P ty Post main n c g w):KD main n c g w .run
 |snd {g₀:Goroutine} {ch:Nat} {sp:Spec} {v z:Value} {Rm:Addr→Prop} (hm:main=false) (hg:g=parked g₀ #[scase ch v z] .send) (hc:c.send=some (ch,sp)) (hG:c.AP=none) (IW:c.AL=none) (To:c.dec=none) (hd:c.d=0) (AO:sp.ok v Rm w)
   (hR: ∀a,Rm a→a.block<w.heap.size∧(c.R a∨c.M a.block))
   (k:W P ty Post false n {c with M:=fun _=>False,R:=fun a=>c.R a∨Rm a,send:=none} (Conc.served g₀ undef) w):KD main n c g w .snd
 |Nt {g₀:Goroutine} {G:CZ} {z:Value} {FG:Bool} (hg:g=parked g₀ #[rcase G.ch z] (.recv FG)) (hG:c.AP=some G) (hk:G.kids≠ []) (BW:G.AY=none) (A2:G.cap=0) (Dq:G.closed=false) (hd:c.d=0)
   (k: ∀(k:Nat) (sp:Spec),G.kids[k]? =some sp→∀(v:Value) (Rm:Addr→Prop) (w₂:World),AS c w w₂→sp.ok v Rm w₂→(∀a,Rm a→a.block<w₂.heap.size∧¬c.M a.block)→
    W P ty Post main n {c with R:=fun a=>c.R a∨Rm a,AP:=some (G.drop k)} (Conc.served g₀ (Conc.recvd FG v true)) w₂):KD main n c g w .Nt
 |Di {G:CZ} {a:Nat} (hG:c.AP=some G) (Az:G.wg=some (a,.reg)) (hs:g.status= .blocked) (ho:g.offers=none) (h:W P ty Post main n c {g with status:= .running} w):KD main n c g w .Di
 |HC {x:Jb} (hx:c.AL=some x) (hl:x.μ.lp= .Cs) (hs:g.status= .blocked) (ho:g.offers=none) (h:W P ty Post main n c {g with status:= .running} w):KD main n c g w .HC
structure GI(gs:Array Goroutine)(w:World)(t:Trace)(γ:Gh):Prop where
 li:Links gs.size γ.snd γ.dec γ.AP γ.par γ.acc γ.ids γ.Aw
 BX:bN w.heap.size γ.M γ.R (Cj γ.AP) (Dh γ.AP γ.dec) γ.q
 ti:TI gs.size w.heap.size γ.M γ.R (Cj γ.AP) (Dh γ.AP γ.dec) γ.q γ.acc t
 cr:Hn gs.size w γ.AP γ.ids γ.Aw γ.mt γ.q γ.ps γ.cr
 W9: ∀a,NoRelease a t
 mz: ∀j b,γ.M j b→j<gs.size
 df: ∀j,j<gs.size→Deaf t j=γ.d j
 ft: ∀j f,γ.Aw j=some f→∃G,γ.AP (γ.par j)=some G∧Fe γ.acc t G j f∧(∀a,f.R a→γ.R j a)∧f.sp.ok f.v f.R w
 ch: ∀p G,γ.AP p=some G→G.AY=none→∃buf s r,UU G (γ.ids p) γ.Aw w buf s r
 wg: ∀p G a φ,γ.AP p=some G→G.wg=some (a,φ)→Kk ty (C8 gs.size γ.dec a) γ.dec (γ.ps p) a w φ
 Ms: ∀i g,gs[i]? =some g→KD P ty Post (i==0) (γ.nn i) (γ.cx i) g w (γ.ps i)
 nr: ∀p,γ.ps p= .Nt→∀j∈γ.ids p,γ.ps j≠ .snd
def Inv(μ:Nat×Nat)(m:Machine)(t:Trace):Prop :=
 ∃gs w sl γ,m=crowd gs w sl∧GI P ty Post gs w t γ∧μ=(sumTo gs.size γ.nn,sumTo gs.size fun j=>if γ.ps j= .run then 1 else 0)
end
section
variable{P:Program}{ty:TypeId}{Post:Value→World→Prop}
theorem KD.rely{main:Bool}{n:Nat}{c:Ctx}{g:Goroutine}{w w₁:World}{s:PS}(h:KD P ty Post main n c g w s)(r:AS c w w₁):KD P ty Post main n c g w₁ s:=by
 cases h with
 |run h=>exact .run (h.rely r)
 |snd hm hg hc hG IW To hd AO hR k =>
  refine .snd hm hg hc hG IW To hd (Spec.keep _ _ _ _ _ (fun a ha=> ?_) AO) (fun a ha=>⟨AV (hR a ha).1 r.size,(hR a ha).2⟩) ?_
  ·refine⟨?_,r.shape _ (hR a ha).1⟩;rcases(hR a ha).2 with h|h
   ·exact r.roc a h
   ·simp only[World.cell?,r.mine _ h]
  ·exact k.rely ⟨r.tape,r.os,r.output,r.size,r.shape,fun b hb=>hb.elim,fun a ha=>ha.elim (r.ro a) fun ha=>by
    rcases(hR a ha).2 with h|h
    ·exact r.ro a h
    ·exact .of (r.mine _ h)⟩
 |Nt hg hG hk BW A2 Dq hd k=>exact .Nt hg hG hk BW A2 Dq hd fun i sp hi v Rm w₂ r₂ ho=>k i sp hi v Rm w₂ (r.trans r₂) ho
 |Di hG Az hs ho h=>exact .Di hG Az hs ho (h.rely r)
 |HC hx hl hs ho h=>exact .HC hx hl hs ho (h.rely r)
theorem W.quits{main:Bool}{n:Nat}{c:Ctx}{g:Goroutine}{w:World}(h:W P ty Post main n c g w):main=false→c.send=none→c.dec=none→c.AP=none→c.AL=none→∃m,QuitsD P m c.d g:=by
 induction h with
 |MN N hs hb h k _=>intro h1 h2 h3 h4 h5; rcases hb with hb|hb|hb<;>simp_all
 |send N hs hd hsend hG IW h k _=>intro h1 h2 h3 h4 h5; rw[h2]at hsend; cases hsend
 |Ye N hs A0 hsend hG hd h k _=>intro h1 h2 h3 h4 h5; rw[h3]at A0; cases A0
 |QH N hs A0 hsend hG hd h k _=>intro h1 h2 h3 h4 h5; rw[h3]at A0; cases A0
 |Lf N hs A0 hsend hG hd h k _=>intro h1 h2 h3 h4 h5; rw[h3]at A0; cases A0
 |Lg N hs A0 hsend hG hd hw h k _=>intro h1 h2 h3 h4 h5; rw[h3]at A0; cases A0
 |leave hsend A0 hG IW hq=>exact fun _ _ _ _ _=>⟨_,hq⟩
 |done N hs hd hG h=>intro h1; cases h1
 |found hb hG Hh hw Az gV _ ih=>intro h1 h2 h3 h4 h5; rcases hb with hb|hb<;>simp_all
 |freeze hb hM hR Ox _ ih=>intro h1 h2 h3 h4 h5; rcases hb with hb|hb<;>simp_all
 |more _ ih=>exact ih
 |Vv N hs hx h k _=>intro h1 h2 h3 h4 h5; rw[h5]at hx; cases hx
 |aJ N hs hx hl ho h0 h k _=>intro h1 h2 h3 h4 h5; rw[h5]at hx; cases hx
 |P6 N hs hx hl hw h k _=>intro h1 h2 h3 h4 h5; rw[h5]at hx; cases hx
 |YY N hs hx hd hl ho h k _=>intro h1 h2 h3 h4 h5; rw[h5]at hx; cases hx
 |YU N hs hx hd ho hP h k _=>intro h1 h2 h3 h4 h5; rw[h5]at hx; cases hx
 |P8 N hs hx hd hl ho hsend A0 hG h k _=>intro h1 h2 h3 h4 h5; rw[h5]at hx; cases hx
 |Jx hG Hr ha hP R7 kL Hh hw hR RY hk hJ _ ih=>intro h1; cases h1
 |Iv N hs hd hG hC Az h k _=>intro h1; cases h1
 |spawn N hs hn hd hG Dq A2 Az h k₁ k₂ _ _=>intro h1 h2 h3 h4 h5; rw[h4]at hG; cases hG
 |recv N hs hd hG hk BW A2 h k _=>intro h1 h2 h3 h4 h5; rw[h4]at hG; cases hG
 |close N hs hd hG A2 Az Dq BW h k _=>intro h1 h2 h3 h4 h5; rw[h4]at hG; cases hG
 |NC N hs hd hG hk BW Dq h k _=>intro h1 h2 h3 h4 h5; rw[h4]at hG; cases hG
 |XP N hs hG Az hd gS h k _=>intro h1 h2 h3 h4 h5; rw[h4]at hG; cases hG
 |XJ N hs hG Az hφ h k _=>intro h1 h2 h3 h4 h5; rw[h4]at hG; cases hG
 |O6 N hs hG Az hd h k _=>intro h1 h2 h3 h4 h5; rw[h4]at hG; cases hG
 |XO N N' hs hG Az hd Zk h k h' k' _ _=>intro h1 h2 h3 h4 h5; rw[h4]at hG; cases hG
 |Ud N hs hG Az hd ho h0 h k _=>intro h1 h2 h3 h4 h5; rw[h4]at hG; cases hG
 |XN N hs hG Az hd h k _=>intro h1 h2 h3 h4 h5; rw[h4]at hG; cases hG
 |free hb hG BW hk Az _ ih=>intro h1 h2 h3 h4 h5; rw[h4]at hG; cases hG
theorem W.status{main:Bool}{n:Nat}{c:Ctx}{g:Goroutine}{w:World}(h:W P ty Post main n c g w):g.status= .running∨(g.status= .finished∧main=false∧c.send=none∧c.dec=none∧c.AP=none):=by
 induction h with
 |leave hsend A0 hG IW hq=>exact hq.status.imp id fun h=>⟨h,rfl,hsend,A0,hG⟩
 |found hb hG Hh hw Az gV _ ih=>exact ih.imp id fun h=>by simp at h
 |freeze hb hM hR Ox _ ih=>exact ih
 |free hb hG BW hk Az _ ih =>
  rcases ih with h|⟨h1,h2,h3,h4,h5⟩
  ·exact .inl h
  ·rcases hb with hb|hb
   ·rw[hb]at h2; cases h2
   ·exact absurd h3 hb
 |Jx hG Hr ha hP R7 kL Hh hw hR RY hk hJ _ ih=>exact ih.imp id fun h=>by simp at h
 |more _ ih=>exact ih
 |_=>exact .inl (by assumption)
end
end Go.Gw
namespace Go.Gw
open Go Go.Conc Go.ConcN
theorem cV{l:List Nat}(h:l.Nodup){a b:Nat}(ha:a<l.length)(hb:b<l.length)(fB:a≠b):l[a]≠l[b]:=by
 have h:=List.pairwise_iff_getElem.1 h;rcases Nat.lt_or_gt_of_ne fB with e|e
 ·exact h a b ha hb e
 ·exact fun x=>h b a hb ha e x.symm
variable{n:Nat}{snd:Nat→Option (Nat×Spec)}{dec:Nat→Option (Nat×IE)}{AP:Nat→Option CZ}{par acc:Nat→Nat}{ids:Nat→List Nat}{Aw:Nat→Option Jc}
theorem Links.CO(h:Links n snd dec AP par acc ids Aw){p j:Nat}(hj:j∈ids p): ∃(k:Nat) (G:CZ) (sp:Spec),(ids p)[k]? =some j∧AP p=some G∧G.kids[k]? =some sp∧p<j∧j<n∧acc j=j∧par j=p∧
  ((snd j=some (G.ch,sp)∧Aw j=none∧dec j=G.wg.map (fun x=>(x.1,IE.cnt)))∨(snd j=none∧AP j=none∧∃f,Aw j=some f∧f.sp=sp)):=by
 obtain⟨k,hk⟩:=List.getElem?_of_mem hj;obtain⟨G,sp,h1,h2⟩:=h.JU p k j hk;exact⟨k,G,sp,hk,h1,h2⟩
theorem Links.NB(h:Links n snd dec AP par acc ids Aw){j ch:Nat}{sp:Spec}(hj:snd j=some (ch,sp)): ∃(k:Nat) (G:CZ),(ids (par j))[k]? =some j∧AP (par j)=some G∧G.ch=ch∧G.kids[k]? =some sp∧par j<j∧j<n∧acc j=j∧Aw j=none∧dec j=G.wg.map (fun x=>(x.1,IE.cnt)):=by
 obtain⟨k,G,Lx,h1,h2,h3,h4,h5,h6,_,h8⟩:=h.CO (h.own j (.inl (by rw[hj]; simp)));rcases h8 with⟨e1,e2,e3⟩|⟨e1,_⟩
 ·rw[hj]at e1;simp only[AE,AR]at e1;exact⟨k,G,h1,h2,e1.1.symm,by rw[e1.2]; exact h3,h4,h5,h6,e2,e3⟩
 ·rw[hj]at e1; cases e1
theorem Links.K4(h:Links n snd dec AP par acc ids Aw){j:Nat}{f:Jc}(hj:Aw j=some f): ∃(k:Nat) (G:CZ),(ids (par j))[k]? =some j∧AP (par j)=some G∧G.kids[k]? =some f.sp∧par j<j∧j<n∧acc j=j∧snd j=none∧AP j=none:=by
 obtain⟨k,G,Lx,h1,h2,h3,h4,h5,h6,_,h8⟩:=h.CO (h.own j (.inr (by rw[hj]; simp)));rcases h8 with⟨e1,e2,e3⟩|⟨e1,e2,f',e3,e4⟩
 ·rw[hj]at e2; cases e2
 ·rw[hj]at e3; cases e3;exact⟨k,G,h1,h2,by rw[e4]; exact h3,h4,h5,h6,e1,e2⟩
theorem Links.lO(h:Links n snd dec AP par acc ids Aw){j ch:Nat}{sp:Spec}(hj:snd j=some (ch,sp))(hg:AP j=none){f:Jc}(hf:f.sp=sp):Links n (upd snd j none) dec AP par acc ids (upd Aw j (some f)):=by
 refine⟨h.pos, ?_,h.zd,h.za,h.gn,fun p k j' hk=> ?_,fun j' Hg=> ?_,fun j' a φ hd=> ?_,h.self,fun j' ha=> ?_,h.W0,h.W1,h.HN⟩
 ·by_cases e:0=j
  ·subst e; rw[upd_same]
  ·rw[upd_ne _ _ e]; exact h.zs
 ·obtain⟨G,Lx,h1,h2,h3,h4,h5,h6,h7⟩:=h.JU p k j' hk;refine⟨G,Lx,h1,h2,h3,h4,h5,h6, ?_⟩;by_cases e:j'=j
  ·subst e;rcases h7 with⟨e1,_,_⟩|⟨e1,_⟩
   ·rw[hj]at e1;simp only[AE,AR]at e1;exact .inr ⟨upd_same _ _ _,hg,f,upd_same _ _ _,by rw[hf,e1.2]⟩
   ·rw[hj]at e1; cases e1
  ·rw[upd_ne _ _ e,upd_ne _ _ e]; exact h7
 ·by_cases e:j'=j
  ·subst e; exact h.own j' (.inl (by rw[hj]; simp))
  ·rw[upd_ne _ _ e,upd_ne _ _ e]at Hg; exact h.own j' Hg
 ·obtain⟨h1,h2,h3,h4⟩:=h.HE j' a φ hd;refine⟨h1,h2,fun hφ=> ?_,h4⟩;by_cases e:j'=j
  ·subst e; rw[upd_same]
  ·rw[upd_ne _ _ e]; exact h3 hφ
 ·have BK:j'≠j:=fun e=>ha (by obtain⟨_,_,_,_,_,_,_,_,ac,_⟩:=h.NB hj; rw[e]; exact ac);rw[upd_ne _ _ BK,upd_ne _ _ BK];exact h.gone j' ha
theorem Links.Nc(h:Links n snd dec AP par acc ids Aw){p k j:Nat}{f:Jc}{G:CZ}(hk:(ids p)[k]? =some j)(hf:Aw j=some f)(hd:dec j=none)(hG:AP p=some G) :
  Links n snd dec (upd AP p (some (G.drop k))) par (fun g=>if acc g=j then p else acc g) (upd ids p ((ids p).eraseIdx k)) (upd Aw j none):=by
 obtain⟨G',sp,g1,g2,g3,g4,g5,g6,g7⟩:=h.JU p k j hk;rw[hG]at g1; cases g1;obtain⟨_,_,_,_,_,_,_,_,sj,gj⟩:=h.K4 hf;obtain⟨q1,q2,q3,q4,q5,q6,q7,q8⟩:=h.gn p G hG;have nW:p≠j:=by omega
 have w7:(if acc p=j then p else acc p)=p:=by rw[q2,AA nW]
 have klt:k<(ids p).length:=(DU.1 hk).1;have bA: ∀{k' j':Nat},((ids p).eraseIdx k)[k']? =some j'→j'≠j∧∃jz:Nat,(ids p)[jz]? =some j'∧∀(l:List Spec),(l.eraseIdx k)[k']? =l[(jz:Nat)]? :=by
  intro k' j' CP;rw[List.getElem?_eraseIdx]at CP;have nd: ∀{jz:Nat},(ids p)[jz]? =some j'→jz≠k→j'≠j:=by
   intro jz h1 h2 e;subst e;obtain⟨l1,e1⟩:=DU.1 h1;obtain⟨l2,e2⟩:=DU.1 hk;exact cV q4 l1 l2 h2 (e1.trans e2.symm)
  by_cases Ac:k'<k
  ·rw[AD Ac]at CP;exact⟨nd CP (by omega),k',CP,fun l=>by rw[List.getElem?_eraseIdx,AD Ac]⟩
  ·rw[AA Ac]at CP;exact⟨nd CP (by omega),k'+1,CP,fun l=>by rw[List.getElem?_eraseIdx,AA Ac]⟩
 have stay: ∀{j':Nat},j'≠j→∀{p':Nat},j'∈ids p'→j'∈upd ids p ((ids p).eraseIdx k) p':=by
  intro j' BK p' hm;by_cases e:p'=p
  ·subst e;rw[upd_same];obtain⟨m,hm⟩:=List.getElem?_of_mem hm;have hmk:m≠k:=fun e=>by rw[e,hk]at hm; exact BK (As hm).symm
   rcases Nat.lt_or_gt_of_ne hmk with h1|h1
   ·exact Cg (i:=m) (by rw[List.getElem?_eraseIdx,AD h1]; exact hm)
   ·exact Cg (i:=m-1) (by rw[List.getElem?_eraseIdx,AA (by omega)]; rw[show m-1+1=m by omega]; exact hm)
  ·rw[upd_ne _ _ e]; exact hm
 refine⟨h.pos,h.zs,h.zd, ?_,fun p' G' Ar=> ?_,fun p' k' j' CP=> ?_,fun j' Hg=> ?_,fun j' a φ G3=> ?_,fun j' Hg Cx h0=> ?_,fun j' Cx=> ?_,fun j'=> ?_,fun j' Hg=> ?_,fun j' Hg=> ?_⟩
 ·show(if acc 0=j then p else acc 0)=0;rw[h.za,AA (by omega)]
 ·by_cases e:p'=p
  ·subst e;rw[upd_same]at Ar; cases Ar;rw[upd_same];refine⟨q1,w7, ?_,q4.eraseIdx k,q5,q6,fun hc=> ?_,q8⟩
   ·simp only[CZ.drop];rw[List.length_eraseIdx_of_lt klt,List.length_eraseIdx_of_lt (by omega),q3]
   ·simp only[CZ.drop];rw[List.length_eraseIdx_of_lt (by omega)];have:=q7 hc; omega
  ·rw[upd_ne _ _ e]at Ar ⊢;obtain⟨r1,r2,r3⟩:=h.gn p' G' Ar;refine⟨r1, ?_,r3⟩;rw[r2,AA fun e'=> ?_];rw[e',gj]at Ar; cases Ar
 ·by_cases e:p'=p
  ·subst e;rw[upd_same]at CP;obtain⟨BK,jz,hk'',hl⟩:=bA CP;obtain⟨Ii,Lx,r1,r2,r3,r4,r5,r6,r7⟩:=h.JU p' jz j' hk'';rw[hG]at r1; cases r1;refine⟨G.drop k,Lx,upd_same _ _ _,by simp only[CZ.drop]; rw[hl]; exact r2,r3,r4,by rw[r5,AA BK],r6, ?_⟩;rw[upd_ne _ _ BK];rcases r7 with r7|⟨r7,r8,r9⟩
   ·exact .inl r7
   ·exact .inr ⟨r7,by rw[upd_ne _ _ (by omega)]; exact r8,r9⟩
  ·rw[upd_ne _ _ e]at CP;obtain⟨Ii,Lx,r1,r2,r3,r4,r5,r6,r7⟩:=h.JU p' k' j' CP;have BK:j'≠j:=fun e'=>e (by rw[← r6,e',g6]);refine⟨Ii,Lx,by rw[upd_ne _ _ e]; exact r1,r2,r3,r4,by rw[r5,AA BK],r6, ?_⟩;rw[upd_ne _ _ BK];rcases r7 with r7|⟨r7,r8,r9⟩
   ·exact .inl r7
   ·refine .inr ⟨r7, ?_,r9⟩;have:j'≠p:=fun e'=>by rw[e',hG]at r8; cases r8
    rw[upd_ne _ _ this]; exact r8
 ·have BK:j'≠j:=fun e=>by
   subst e;rw[upd_same,sj]at Hg;simp at Hg
  rw[upd_ne _ _ BK]at Hg;exact stay BK (h.own j' Hg)
 ·have BK:j'≠j:=fun e=>by subst e; rw[hd]at G3; cases G3
  obtain⟨r1,r2,r3,Ii,ψ,r4,r5⟩:=h.HE j' a φ G3;refine⟨r1,by rw[r2,AA BK],r3, ?_⟩;by_cases e:par j'=p
  ·rw[e]at r4 ⊢;rw[hG]at r4; cases r4;exact⟨G.drop k,ψ,upd_same _ _ _,r5⟩
  ·exact⟨Ii,ψ,by rw[upd_ne _ _ e]; exact r4,r5⟩
 ·have Cx:(if acc j'=j then p else acc j')=j':=Cx;by_cases e:acc j'=j
  ·rw[AD e]at Cx;subst Cx;rw[q2]at e; exact absurd e nW
  ·rw[AA e]at Cx;have BK:j'≠j:=fun e'=>by rw[e',g5]at e; exact e rfl
   exact stay BK (h.self j' Hg Cx h0)
 ·have Cx:(if acc j'=j then p else acc j')≠j':=Cx;by_cases e:j'=j
  ·subst e;exact⟨sj,hd,by rw[upd_ne _ _ (fun e=>nW e.symm)]; exact gj,upd_same _ _ _⟩
  ·have BK:acc j'≠j':=fun e'=>by rw[e',AA e]at Cx; exact Cx rfl
   obtain⟨r1,r2,r3,r4⟩:=h.gone j' BK;have:j'≠p:=fun e'=>BK (by rw[e']; exact q2);exact⟨r1,r2,by rw[upd_ne _ _ this]; exact r3,by rw[upd_ne _ _ e]; exact r4⟩
 ·show(if acc (if acc j'=j then p else acc j')=j then p else acc (if acc j'=j then p else acc j'))=(if acc j'=j then p else acc j');by_cases e:acc j'=j
  ·rw[AD e]; exact w7
  ·rw[AA e,h.W0 j',AA e]
 ·show(if acc j'=j then p else acc j')<n;by_cases e:acc j'=j
  ·rw[AD e]; exact q1
  ·rw[AA e]; exact h.W1 j' Hg
 ·obtain⟨r1,r2⟩:=h.HN j' Hg;refine⟨?_,r2⟩;show(if acc j'=j then p else acc j')=j';rw[r1,AA (by omega)]
theorem Links.fresh(h:Links n snd dec AP par acc ids Aw):snd n=none∧dec n=none∧AP n=none∧Aw n=none∧acc n=n∧ids n= []∧∀p,n∉ids p:=by
 have nn: ∀p,n∉ids p:=fun p hm=>by
  obtain⟨_,_,_,_,_,_,_,h5,_⟩:=h.CO hm;omega
 have g:AP n=none:=by
  cases e:AP n with
  |none=>rfl
  |some G=>exact absurd (h.gn n G e).1 (Nat.lt_irrefl n)
 refine⟨?_,(h.HN n (AN n)).2,g, ?_,(h.HN n (AN n)).1, ?_,nn⟩
 ·cases e:snd n with
  |none=>rfl
  |some x=>exact absurd (h.own n (.inl (by rw[e]; simp))) (nn _)
 ·cases e:Aw n with
  |none=>rfl
  |some x=>exact absurd (h.own n (.inr (by rw[e]; simp))) (nn _)
 ·cases e:ids n with
  |nil=>rfl
  |cons a l =>
   obtain⟨_,G,_,_,hG,_⟩:=h.CO (p:=n) (j:=a) (by rw[e]; simp);rw[g]at hG; cases hG
theorem Links.spawn(h:Links n snd dec AP par acc ids Aw){p:Nat}{G:CZ}{sp:Spec}{Je:Option (Nat×Lz)}(hG:AP p=some G)(Dq:G.closed=false)(A2:G.cap=0∨G.kids.length<G.cap)
  (Az:Je.map (·.1)=G.wg.map (·.1)) :
  Links (n+1) (upd snd n (some (G.ch,sp))) (upd dec n (G.wg.map fun x=>(x.1,.cnt))) (upd AP p (some {G with kids:=G.kids++ [sp],wg:=Je})) (upd par n p) acc (upd ids p (ids p++ [n])) Aw:=by
 obtain⟨f1,f2,f3,f4,f5,f6,f7⟩:=h.fresh;obtain⟨q1,q2,q3,q4,q5,q6,q7,q8⟩:=h.gn p G hG;have ET:p≠n:=by omega
 have nz:Je.isSome=G.wg.isSome:=by
  have:=congrArg Option.isSome Az;simpa using this
 have stay: ∀{j':Nat},j'≠n→j'∈ids (par j')→j'∈upd ids p (ids p++ [n]) (upd par n p j'):=by
  intro j' BK hm;rw[upd_ne _ _ BK];by_cases e:par j'=p
  ·rw[e]at hm ⊢; rw[upd_same]; simp[hm]
  ·rw[upd_ne _ _ e]; exact hm
 refine⟨by omega, ?_, ?_,h.za,fun p' G' Ar=> ?_,fun p' k' j' CP=> ?_,fun j' Hg=> ?_,fun j' a φ G3=> ?_,fun j' Hg Cx h0=> ?_,fun j' Cx=> ?_,h.W0,fun j' Hg=> ?_,fun j' Hg=> ?_⟩
 ·have:=h.pos; rw[upd_ne _ _ (by omega)]; exact h.zs
 ·have:=h.pos; rw[upd_ne _ _ (by omega)]; exact h.zd
 ·by_cases e:p'=p
  ·subst e;rw[upd_same]at Ar; cases Ar;rw[upd_same];refine⟨by omega,q2,by simp[q3], ?_,fun hc=> ?_,by simp only[nz]; exact q6,fun hc=> ?_,fun a φ ha=> ?_⟩
   ·rw[List.nodup_append];exact⟨q4,by simp,fun a ha b hb=>by simp at hb; subst hb; exact fun e=>f7 p' (e ▸ha)⟩
   ·rw[Dq]at hc; cases hc
   ·simp only[List.length_append,List.length_singleton];simp only at hc;omega
   ·simp only at ha;rw[ha]at Az;simp only[Bc]at Az;cases e:G.wg with
    |none=>rw[e]at Az; cases Az
    |some x =>
     rw[e]at Az;simp only[Bc,AE]at Az;rw[Az]; exact q8 x.1 x.2 e
  ·rw[upd_ne _ _ e]at Ar ⊢;obtain⟨r1,r2⟩:=h.gn p' G' Ar;exact⟨by omega,r2⟩
 ·by_cases e:p'=p
  ·subst e;rw[upd_same]at CP;rw[upd_same];rcases Nat.lt_or_ge k' (ids p').length with Ac|gT
   ·rw[List.getElem?_append_left Ac]at CP;obtain⟨Ii,Lx,r1,r2,r3,r4,r5,r6,r7⟩:=h.JU p' k' j' CP;rw[hG]at r1; cases r1;have BK:j'≠n:=by omega
    refine⟨_,Lx,rfl, ?_,r3,by omega,r5,by rw[upd_ne _ _ BK]; exact r6, ?_⟩
    ·show(G.kids++ [sp])[k']? =some Lx;rw[List.getElem?_append_left (by omega)]; exact r2
    ·rw[upd_ne _ _ BK,upd_ne _ _ BK];rcases r7 with⟨s1,s2,s3⟩|⟨s1,s2,s3⟩
     ·refine .inl ⟨s1,s2, ?_⟩;show dec j'=Je.map _;rw[s3];cases e1:G.wg<;>cases e2:Je<;>rw[e1,e2]at Az<;>simp_all
     ·exact .inr ⟨s1,by rw[upd_ne _ _ (by omega)]; exact s2,s3⟩
   ·rw[List.getElem?_append_right gT]at CP;have ij:k'=(ids p').length:=by
     have:=(DU.1 CP).1;simp at this; omega
    subst ij;simp at CP; subst CP;refine⟨_,sp,rfl, ?_,q1,by omega,f5,upd_same _ _ _,.inl ⟨upd_same _ _ _,f4, ?_⟩⟩
    ·show(G.kids++ [sp])[(ids p').length]? =some sp;rw[q3]; simp
    ·rw[upd_same];show G.wg.map _=Je.map _;cases e1:G.wg<;>cases e2:Je<;>rw[e1,e2]at Az<;>simp_all
  ·rw[upd_ne _ _ e]at CP;obtain⟨Ii,Lx,r1,r2,r3,r4,r5,r6,r7⟩:=h.JU p' k' j' CP;have BK:j'≠n:=by omega
   refine⟨Ii,Lx,by rw[upd_ne _ _ e]; exact r1,r2,r3,by omega,r5,by rw[upd_ne _ _ BK]; exact r6, ?_⟩;rw[upd_ne _ _ BK,upd_ne _ _ BK];rcases r7 with s|⟨s1,s2,s3⟩
   ·exact .inl s
   ·have:j'≠p:=fun e'=>by rw[e',hG]at s2; cases s2
    exact .inr ⟨s1,by rw[upd_ne _ _ this]; exact s2,s3⟩
 ·by_cases e:j'=n
  ·subst e;rw[upd_same,upd_same]; simp
  ·rw[upd_ne _ _ e]at Hg;exact stay e (h.own j' Hg)
 ·by_cases e:j'=n
  ·subst e;rw[upd_same]at G3 ⊢;cases e1:G.wg with
   |none=>rw[e1]at G3; cases G3
   |some x =>
    rw[e1]at G3;simp only[Bc,AE,AR]at G3;obtain⟨rfl,rfl⟩:=G3;refine⟨by omega,f5,fun hc=>absurd rfl hc, ?_⟩;rw[upd_same,upd_same];rw[e1]at Az;cases e2:Je with
    |none=>rw[e2]at Az; cases Az
    |some y =>
     rw[e2]at Az;simp only[Bc,AE]at Az;exact⟨_,y.2,rfl,by rw[← Az]⟩
  ·rw[upd_ne _ _ e]at G3;rw[upd_ne _ _ e,upd_ne _ _ e];obtain⟨r1,r2,r3,Ii,ψ,r4,r5⟩:=h.HE j' a φ G3;refine⟨by omega,r2,r3, ?_⟩;by_cases e':par j'=p
   ·rw[e']at r4 ⊢;rw[hG]at r4; cases r4;rw[upd_same];rw[r5]at Az;cases e2:Je with
    |none=>rw[e2]at Az; cases Az
    |some y =>
     rw[e2]at Az;simp only[Bc,AE]at Az;exact⟨_,y.2,rfl,by rw[← Az]⟩
   ·exact⟨Ii,ψ,by rw[upd_ne _ _ e']; exact r4,r5⟩
 ·by_cases e:j'=n
  ·subst e;rw[upd_same,upd_same]; simp
  ·exact stay e (h.self j' (by omega) Cx h0)
 ·have BK:j'≠n:=fun e=>Cx (by rw[e]; exact f5);obtain⟨r1,r2,r3,r4⟩:=h.gone j' Cx;have:j'≠p:=fun e'=>Cx (by rw[e']; exact q2);exact⟨by rw[upd_ne _ _ BK]; exact r1,by rw[upd_ne _ _ BK]; exact r2,by rw[upd_ne _ _ this]; exact r3,r4⟩
 ·by_cases e:j'=n
  ·subst e; rw[f5]; omega
  ·have:=h.W1 j' (by omega); omega
 ·obtain⟨r1,r2⟩:=h.HN j' (by omega);exact⟨r1,by rw[upd_ne _ _ (by omega)]; exact r2⟩
theorem Links.ph(h:Links n snd dec AP par acc ids Aw){p:Nat}{G G':CZ}(hG:AP p=some G)(h1:G'.ch=G.ch)(h2:G'.cap=G.cap)(h3:G'.kids=G.kids)(h4:G'.wg.map (·.1)=G.wg.map (·.1))
  (h5:G'.closed=true→∃a,G'.wg=some (a,.fin)):Links n snd dec (upd AP p (some G')) par acc ids Aw:=by
 have nz:G'.wg.isSome=G.wg.isSome:=by
  have:=congrArg Option.isSome h4;simpa using this
 have old: ∀{a:Nat} {ψ:Lz},G.wg=some (a,ψ)→∃ψ',G'.wg=some (a,ψ'):=by
  intro a ψ e;rw[e]at h4;cases e2:G'.wg with
  |none=>rw[e2]at h4; cases h4
  |some y =>
   rw[e2]at h4;simp only[Bc,AE]at h4;exact⟨y.2,by rw[← h4]⟩
 have new: ∀{a:Nat} {ψ:Lz},G'.wg=some (a,ψ)→∃ψ',G.wg=some (a,ψ'):=by
  intro a ψ e;rw[e]at h4;cases e2:G.wg with
  |none=>rw[e2]at h4; cases h4
  |some y =>
   rw[e2]at h4;simp only[Bc,AE]at h4;exact⟨y.2,by rw[h4]⟩
 refine⟨h.pos,h.zs,h.zd,h.za,fun p' Ii Cz=> ?_,fun p' k' j' CP=> ?_,h.own,fun j' a φ G3=> ?_,h.self,fun j' Cx=> ?_,h.W0,h.W1,h.HN⟩
 ·by_cases e:p'=p
  ·subst e;rw[upd_same]at Cz; cases Cz;obtain⟨q1,q2,q3,q4,q5,q6,q7,q8⟩:=h.gn p' G hG;refine⟨q1,q2,by rw[h3]; exact q3,q4,h5,by rw[nz,h2]; exact q6,by rw[h2,h3]; exact q7,fun a φ ha=> ?_⟩;obtain⟨ψ',e'⟩:=new ha;rw[h1]; exact q8 a ψ' e'
  ·rw[upd_ne _ _ e]at Cz; exact h.gn p' Ii Cz
 ·obtain⟨Ii,Lx,r1,r2,r3,r4,r5,r6,r7⟩:=h.JU p' k' j' CP;have n8:AP j'=none→upd AP p (some G') j'=none:=fun r8=>by
   have:j'≠p:=fun e'=>by rw[e',hG]at r8; cases r8
   rw[upd_ne _ _ this]; exact r8
  by_cases e:p'=p
  ·subst e;rw[hG]at r1; cases r1;refine⟨G',Lx,upd_same _ _ _,by rw[h3]; exact r2,r3,r4,r5,r6, ?_⟩;rcases r7 with⟨s1,s2,s3⟩|⟨s1,s2,s3⟩
   ·refine .inl ⟨by rw[h1]; exact s1,s2, ?_⟩;rw[s3];cases e1:G.wg<;>cases e2:G'.wg<;>rw[e1,e2]at h4<;>simp_all
   ·exact .inr ⟨s1,n8 s2,s3⟩
  ·exact⟨Ii,Lx,by rw[upd_ne _ _ e]; exact r1,r2,r3,r4,r5,r6,r7.imp id fun⟨s1,s2,s3⟩=>⟨s1,n8 s2,s3⟩⟩
 ·obtain⟨r1,r2,r3,Ii,ψ,r4,r5⟩:=h.HE j' a φ G3;refine⟨r1,r2,r3, ?_⟩;by_cases e:par j'=p
  ·rw[e]at r4 ⊢;rw[hG]at r4; cases r4;obtain⟨ψ',e'⟩:=old r5;exact⟨G',ψ',upd_same _ _ _,e'⟩
  ·exact⟨Ii,ψ,by rw[upd_ne _ _ e]; exact r4,r5⟩
 ·obtain⟨r1,r2,r3,r4⟩:=h.gone j' Cx;have:j'≠p:=fun e'=>by rw[e',hG]at r3; cases r3
  exact⟨r1,r2,by rw[upd_ne _ _ this]; exact r3,r4⟩
theorem Links.done(h:Links n snd dec AP par acc ids Aw){i a:Nat}{φ:IE}{x:Option (Nat×IE)}(hd:dec i=some (a,φ))(hs:snd i=none)(hx: ∀b ψ,x=some (b,ψ)→b=a):Links n snd (upd dec i x) AP par acc ids Aw:=by
 obtain⟨q1,q2,q3,q4⟩:=h.HE i a φ hd;refine⟨h.pos,h.zs, ?_,h.za,h.gn,fun p' k' j' CP=> ?_,h.own,fun j' a' φ' G3=> ?_,h.self,fun j' Cx=> ?_,h.W0,h.W1,fun j' Hg=> ?_⟩
 ·have:0≠i:=fun e=>by rw[← e,h.zd]at hd; cases hd
  rw[upd_ne _ _ this]; exact h.zd
 ·obtain⟨Ii,Lx,r1,r2,r3,r4,r5,r6,r7⟩:=h.JU p' k' j' CP;refine⟨Ii,Lx,r1,r2,r3,r4,r5,r6,r7.imp (fun⟨s1,s2,s3⟩=>⟨s1,s2, ?_⟩) id⟩;have:j'≠i:=fun e=>by rw[e,hs]at s1; cases s1
  rw[upd_ne _ _ this]; exact s3
 ·by_cases e:j'=i
  ·subst e;rw[upd_same]at G3;obtain rfl:=hx a' φ' G3;exact⟨q1,q2,fun _=>hs,q4⟩
  ·rw[upd_ne _ _ e]at G3; exact h.HE j' a' φ' G3
 ·obtain⟨r1,r2,r3,r4⟩:=h.gone j' Cx;have:j'≠i:=fun e'=>by rw[e',hd]at r2; cases r2
  exact⟨r1,by rw[upd_ne _ _ this]; exact r2,r3,r4⟩
 ·obtain⟨r1,r2⟩:=h.HN j' Hg;exact⟨r1,by rw[upd_ne _ _ (by omega)]; exact r2⟩
theorem Links.found(h:Links n snd dec AP par acc ids Aw){p:Nat}{G:CZ}(hp:p<n)(ha:acc p=p)(hG:AP p=none)(hf:Aw p=none)(hk:G.kids= [])(Dq:G.closed=false)(hw:G.wg.isSome=true↔0<G.cap)(BK: ∀a φ,G.wg=some (a,φ)→a≠G.ch) :
  Links n snd dec (upd AP p (some G)) par acc ids Aw:=by
 have hi:ids p= []:=by
  cases e:ids p with
  |nil=>rfl
  |cons a l =>
   obtain⟨_,G,_,_,Ar,_⟩:=h.CO (p:=p) (j:=a) (by rw[e]; simp);rw[hG]at Ar; cases Ar
 refine⟨h.pos,h.zs,h.zd,h.za,fun p' Ii Cz=> ?_,fun p' k' j' CP=> ?_,h.own,fun j' a φ G3=> ?_,h.self,fun j' Cx=> ?_,h.W0,h.W1,h.HN⟩
 ·by_cases e:p'=p
  ·subst e;rw[upd_same]at Cz; cases Cz;exact⟨hp,ha,by rw[hi,hk]; rfl,by rw[hi]; simp,(fun hc=>by rw[Dq]at hc; cases hc),hw,fun _=>by rw[hk]; simp,BK⟩
  ·rw[upd_ne _ _ e]at Cz; exact h.gn p' Ii Cz
 ·obtain⟨Ii,Lx,r1,r2,r3,r4,r5,r6,r7⟩:=h.JU p' k' j' CP;have e:p'≠p:=fun e=>by rw[e,hG]at r1; cases r1
  refine⟨Ii,Lx,by rw[upd_ne _ _ e]; exact r1,r2,r3,r4,r5,r6,r7.imp id fun⟨s1,s2,s3⟩=>⟨s1, ?_,s3⟩⟩;have:j'≠p:=fun e'=>by
   obtain⟨f,D8,_⟩:=s3;rw[e',hf]at D8; cases D8
  rw[upd_ne _ _ this]; exact s2
 ·obtain⟨r1,r2,r3,Ii,ψ,r4,r5⟩:=h.HE j' a φ G3;have e:par j'≠p:=fun e=>by rw[e,hG]at r4; cases r4
  exact⟨r1,r2,r3,Ii,ψ,by rw[upd_ne _ _ e]; exact r4,r5⟩
 ·obtain⟨r1,r2,r3,r4⟩:=h.gone j' Cx;have:j'≠p:=fun e'=>Cx (by rw[e']; exact ha);exact⟨r1,r2,by rw[upd_ne _ _ this]; exact r3,r4⟩
theorem Links.free(h:Links n snd dec AP par acc ids Aw){p:Nat}{G:CZ}(hG:AP p=some G)(hk:G.kids= [])(hd: ∀j a φ,dec j=some (a,φ)→par j≠p):Links n snd dec (upd AP p none) par acc ids Aw:=by
 have hi:ids p= []:=by
  have:=(h.gn p G hG).2.2.1;rw[hk]at this;exact Ge.1 this
 refine⟨h.pos,h.zs,h.zd,h.za,fun p' Ii Cz=> ?_,fun p' k' j' CP=> ?_,h.own,fun j' a φ G3=> ?_,h.self,fun j' Cx=> ?_,h.W0,h.W1,h.HN⟩
 ·by_cases e:p'=p
  ·subst e; rw[upd_same]at Cz; cases Cz
  ·rw[upd_ne _ _ e]at Cz; exact h.gn p' Ii Cz
 ·have e:p'≠p:=fun e=>by rw[e,hi]at CP; simp at CP
  obtain⟨Ii,Lx,r1,r2,r3,r4,r5,r6,r7⟩:=h.JU p' k' j' CP;refine⟨Ii,Lx,by rw[upd_ne _ _ e]; exact r1,r2,r3,r4,r5,r6,r7.imp id fun⟨s1,s2,s3⟩=>⟨s1, ?_,s3⟩⟩;by_cases e':j'=p
  ·subst e'; rw[upd_same]
  ·rw[upd_ne _ _ e']; exact s2
 ·obtain⟨r1,r2,r3,Ii,ψ,r4,r5⟩:=h.HE j' a φ G3;exact⟨r1,r2,r3,Ii,ψ,by rw[upd_ne _ _ (hd j' a φ G3)]; exact r4,r5⟩
 ·obtain⟨r1,r2,r3,r4⟩:=h.gone j' Cx;by_cases e':j'=p
  ·subst e'; exact⟨r1,r2,upd_same _ _ _,r4⟩
  ·exact⟨r1,r2,by rw[upd_ne _ _ e']; exact r3,r4⟩
end Go.Gw
namespace Go.Gw
open Go Go.Conc Go.ConcN
open Go.ConcR (KK wgBlock WgAt stA smA loc_of_ofEvent)
structure Fr(w w':World)(X:Nat→Prop):Prop where
 tape:w'.tape=w.tape
 os:Z0 w.os w'.os
 output:w'.output=w.output
 size:w.heap.size≤w'.heap.size
 shape: ∀b,b<w.heap.size→w'.shape? b=w.shape? b
 keep: ∀b,b<w.heap.size→¬X b→w'.heap[b]? =w.heap[b]?
theorem Fr.ba{w w':World}{X:Nat→Prop}(f:Fr w w' X): ∀b x,w.shape? b=some x→w'.shape? b=some x:=fun b _x h=>(f.shape b (Gm.bZ h)).trans h
theorem Fr.rely{w w':World}{X:Nat→Prop}{c:Ctx}(f:Fr w w' X)(hM: ∀b,c.M b→b<w.heap.size∧¬X b)(hR: ∀a,c.R a→a.block<w.heap.size∧¬X a.block):AS c w w' :=
 ⟨f.tape,f.os,f.output,f.size,f.shape,fun b hb=>f.keep b (hM b hb).1 (hM b hb).2,fun a ha=> .of (f.keep _ (hR a ha).1 (hR a ha).2)⟩
theorem Fr.refl(w:World)(X:Nat→Prop):Fr w w X:=⟨rfl,.refl _,rfl,AN _,fun _ _=>rfl,fun _ _ _=>rfl⟩
theorem Fr.at{w w':World}{X:Nat→Prop}(f:Fr w w' X)(d:Nat):Fr w (w'.at d) X:=⟨f.tape,f.os,f.output,f.size,f.shape,f.keep⟩
def lA(d:Nat)(es:Array Event):Prop :=
 ∀j e,es[j]? =some e→(MemAct.ofEvent e).touch?=none∨(∃x,(MemAct.ofEvent e).touch?=some x∧x.kind= .atomic∧0<deafBehind d (es.extract 0 j))
theorem lA.none{d:Nat}{es:Array Event}(h: ∀e∈es,(MemAct.ofEvent e).touch?=none):lA d es:=fun _ e he=> .inl (h e (Array.mem_of_getElem? he))
theorem K8.unc{b d:Nat}{es:Array Event}(h:K8 b d es):lA d es:=fun j e he=>(h.2 j e he).imp id fun⟨x,h1,_,h2,h3⟩=>⟨x,h1,h2,h3⟩
theorem lA.at{t:Trace}{i:Nat}{fn:FuncId}{pos:String}{es:Array Event}(h:lA (Deaf t i) es){k:Nat}(hk:t.size≤k): ¬(t++MemOp.ofEvents i fn pos es).counts k:=by
 rintro⟨x,hx,_,XC⟩;obtain⟨op,ho,FY⟩:=touch_of hx;have hj:(MemOp.ofEvents i fn pos es)[k-t.size]? =some op:=by
  rw[Array.getElem?_append]at ho;simpa[Nat.not_lt.2 hk]using ho
 rw[ofEvents_eq,Array.getElem?_map]at hj;obtain⟨e,he,rfl⟩:=CL.1 hj;have eQ:k-t.size≤es.size:=by
  rcases Nat.lt_or_ge (k-t.size) es.size with h'|h'
  ·omega
  ·rw[Array.getElem?_eq_none h']at he; cases he
 rcases h _ e he with h0|⟨y,hy,hya,hd⟩
 ·simp only at FY; rw[h0]at FY; cases FY
 ·simp only at FY;rw[hy]at FY; cases FY;rcases XC with CP|⟨g,hg,G2⟩
  ·exact CP hya
  ·have vl:g=i:=by simp[Trace.g?,ho]at hg; exact hg.symm
   subst vl;have:=deaf_inside t g fn pos es (k-t.size) eQ;rw[show t.size+(k-t.size)=k by omega,G2]at this;omega
theorem Dd{i:Nat}{fn:FuncId}{pos:String}{es:Array Event}{op:MemOp}(h:op∈MemOp.ofEvents i fn pos es):op.g=i∧∃e∈es,op.act=MemAct.ofEvent e:=by
 rw[ofEvents_eq]at h;obtain⟨e,he,rfl⟩:=Array.mem_map.1 h;exact⟨rfl,e,he,rfl⟩
theorem GJ{i:Nat}{fn:FuncId}{pos:String}{es:Array Event}(h:SJ es): ∀op∈MemOp.ofEvents i fn pos es,∀a,op.act≠ .mark (.release a):=fun op ho a=>by
 obtain⟨_,e,he,h2⟩:=Dd ho;rw[h2]; exact h e he a
theorem FW{t u:Trace}(h: ∀a,NoRelease a t)(hu: ∀op∈u,∀a,op.act≠ .mark (.release a)): ∀a,NoRelease a (t++u):=fun a=>(h a).app fun op ho=>hu op ho a
theorem Kk.mono{ty:TypeId}{V:Nat}{dec:Nat→Option (Nat×IE)}{ps ps':PS}{a:Nat}{w w':World}{φ:Lz}(h:Kk ty V dec ps a w φ)(hw:w'.heap[a]? =w.heap[a]?)(hp:ps'= .Di→ps= .Di):Kk ty V dec ps' a w' φ:=by
 have tr: ∀{st sm:Int},WgAt ty a w st sm→WgAt ty a w' st sm:=fun x=>hw.trans x;cases φ with
 |idle mx=>exact⟨h.1,h.2.1,h.2.2.1,tr h.2.2.2⟩
 |pend mx=>exact⟨h.1,h.2.1,h.2.2.1,tr h.2.2.2⟩
 |w2 vs=>exact⟨h.1,h.2.1,h.2.2.1,tr h.2.2.2⟩
 |reg =>
  refine⟨h.1, ?_⟩;rcases h.2 with⟨h1,h2,h3⟩|⟨h1,L,φ,h2,h3,h4,h5⟩|⟨h1,h2,h3,h4⟩
  ·exact .inl ⟨h1,h2,tr h3⟩
  ·exact .inr (.inl ⟨h1,L,φ,h2,h3,h4,h5.imp (fun x=>⟨x.1,tr x.2⟩) fun x=>⟨x.1,tr x.2⟩⟩)
  ·exact .inr (.inr ⟨h1,h2,tr h3,fun e=>h4 (hp e)⟩)
 |w4=>exact⟨h.1,h.2.1,tr h.2.2⟩
 |fin=>exact h
theorem UU.mono{G:CZ}{ids:List Nat}{Aw:Nat→Option Jc}{w w':World}{buf:Array Value}{s r:Nat}(h:UU G ids Aw w buf s r)(hw:w'.heap[G.ch]? =w.heap[G.ch]?):UU G ids Aw w' buf s r :=
 ⟨hw.trans h.at_,h.un,h.sum,h.cnt,h.msg⟩
theorem En{n:Nat}{dec:Nat→Option (Nat×IE)}{a j:Nat}(hj:j<n)(hd:dec j=some (a,.cnt)):0<C8 n dec a:=by
 have:=le_sumTo (f:=fun j=>cw a (dec j)) hj;simp only[hd,cw,Ad]at this;exact this
def L6(γ:Gh)(i:Nat)(Z2:Bool)(p:Nat):PS:=if p=i then .run else if Z2=true∧(γ.ps p= .Di∨γ.ps p= .HC)then .run else γ.ps p
theorem Gx{γ:Gh}{i p:Nat}{b:Bool}{x:PS}(h:L6 γ i b p=x)(hx:x≠ .run):γ.ps p=x∧p≠i∧(b=true→x≠ .Di∧x≠ .HC):=by
 simp only[L6]at h;split at h
 ·exact absurd h.symm hx
 ·split at h
  ·exact absurd h.symm hx
  ·rename_i e1 e2;refine⟨h,e1,fun hb=>⟨fun e=>e2 ⟨hb,.inl (h.trans e)⟩,fun e=>e2 ⟨hb,.inr (h.trans e)⟩⟩⟩
def Q3(G G':CZ):Prop:=G'.AY.isSome=G.AY.isSome∧G'.ch=G.ch∧G'.wg.map (·.1)=G.wg.map (·.1)
theorem Q3.refl(G:CZ):Q3 G G:=⟨rfl,rfl,rfl⟩
theorem Hn.IN{n:Nat}{w:World}{snd:Nat→Option (Nat×Spec)}{dec:Nat→Option (Nat×IE)}{AP:Nat→Option CZ}{par acc:Nat→Nat}{ids:Nat→List Nat}{Aw:Nat→Option Jc}{mt:Nat→Option Jb}{q:Lk}{ps:Nat→PS}{cr:Option Ja}
  (h:Hn n w AP ids Aw mt q ps cr) (li:Links n snd dec AP par acc ids Aw) {j ch:Nat} {sp:Spec} (hs:snd j=some (ch,sp)) (hm:mt j=none) {G:CZ} (hG:AP (par j)=some G):G.AY=none:=by
 cases hc:G.AY with
 |none=>rfl
 |some C =>
  obtain⟨e,k,rfl,_⟩:=h.Wr hG (by rw[hc]; simp);have h:HG n w AP ids Aw mt q ps k:=h;obtain⟨κ,G',h1,h2,_,_,_,_,_,hf,_⟩:=li.NB hs;rw[e]at h1;obtain⟨μ,hμ,_⟩:=h.JU κ j h1;have:=h.TO j;rw[hf,hμ,hm]at this;cases this
section
variable{P:Program}{ty:TypeId}{Post:Value→World→Prop}{gs:Array Goroutine}{w:World}{t:Trace}{γ:Gh}
theorem Is{n:Nat}{snd:Nat→Option (Nat×Spec)}{dec:Nat→Option (Nat×IE)}{AP:Nat→Option CZ}{par acc:Nat→Nat}{ids:Nat→List Nat}{Aw:Nat→Option Jc}{ps:Nat→PS}
  (li:Links n snd dec AP par acc ids Aw) (Az: ∀p G a φ,AP p=some G→G.wg=some (a,φ)→Kk ty (C8 n dec a) dec (ps p) a w φ) {j ch:Nat} {sp:Spec} (hj:snd j=some (ch,sp)) {G:CZ} (hG:AP (par j)=some G):G.closed=false:=by
 obtain⟨k,G',h1,h2,h3,h4,h5,h6,h7,h8,h9⟩:=li.NB hj;rw[hG]at h2; cases h2;cases hc:G.closed with
 |false=>rfl
 |true =>
  obtain⟨a,ha⟩:=(li.gn _ _ hG).2.2.2.2.1 hc;have hv:=Az _ _ _ _ hG ha;rw[ha]at h9;have:=En h6 (by simpa using h9);have:=hv.1;omega
theorem GI.rely(h:GI P ty Post gs w t γ){i j:Nat}{w':World}{X:Nat→Prop}(fr:Fr w w' X)(hX: ∀b,X b→γ.M i b∨∃p,Cj γ.AP p b)(hj:j≠i):AS (γ.cx j) w w':=by
 refine fr.rely (fun b hb=>⟨h.BX.ml j b hb,fun x=> ?_⟩) (fun a ha=>⟨h.BX.rl j a ha,fun x=> ?_⟩)
 ·rcases hX b x with m|⟨p,hp⟩
  ·exact hj (h.BX.mm j i b hb m)
  ·exact h.BX.ms j p b hb hp
 ·rcases hX _ x with m|⟨p,hp⟩
  ·exact h.BX.rm j i a ha m
  ·exact h.BX.rs j p a ha hp
theorem GI.V8(h:GI P ty Post gs w t γ){i:Nat}{w':World}{X:Nat→Prop}(fr:Fr w w' X)(hX: ∀b,X b→γ.M i b∨∃p,Cj γ.AP p b)(j:Nat)(a:Addr)(ha:γ.R j a):H8 a w w' :=
 .of (fr.keep _ (h.BX.rl j a ha) fun x=>(hX _ x).elim (h.BX.rm j i a ha) fun⟨p,hp⟩=>h.BX.rs j p a ha hp)
theorem GI.Zg(h:GI P ty Post gs w t γ){i:Nat}{w':World}{X:Nat→Prop}(fr:Fr w w' X)(hX: ∀b,X b→γ.M i b∨∃p,Cj γ.AP p b)(b:Nat)(hb:γ.q.B b):w'.heap[b]? =w.heap[b]? :=
 fr.keep _ (h.BX.bl b hb) fun x=>(hX _ x).elim (h.BX.bm i b hb) fun⟨p,hp⟩=>h.BX.bs p b hb hp
theorem GI.Zf(h:GI P ty Post gs w t γ){i:Nat}{w':World}{X:Nat→Prop}(fr:Fr w w' X)(hX: ∀b,X b→γ.M i b∨∃p,Cj γ.AP p b)(b:Nat)(hb:γ.q.P b):w'.heap[b]? =w.heap[b]? :=
 fr.keep _ (h.BX.pl b hb) fun x=>(hX _ x).elim (h.BX.pm i b hb) fun⟨p,hp⟩=>h.BX.ps p b hb hp
theorem GI.wm(h:GI P ty Post gs w t γ){i:Nat}{w':World}{X:Nat→Prop}(fr:Fr w w' X)(hX: ∀b,X b→γ.M i b∨∃p,Cj γ.AP p b){grp':Nat→Option CZ}(hv: ∀p,Fy grp' p=Fy γ.AP p)(b:Bool):Hn gs.size w' grp' γ.ids γ.Aw γ.mt γ.q (L6 γ i b) γ.cr :=
 h.cr.keep fr.ba (h.Zg fr hX) (h.Zf fr hX) hv (fun _=>rfl) (fun _ _=>rfl) fun _ e=>(Gx e (by simp)).1
theorem Qm{AP:Nat→Option CZ}{i:Nat}{G G':CZ}(hG:AP i=some G)(h:G'.cv=G.cv)(p:Nat):Fy (upd AP i (some G')) p=Fy AP p:=by
 unfold Fy;by_cases e:p=i
 ·subst e; rw[upd_same,hG]; exact h
 ·rw[upd_ne _ _ e]
theorem GI.V9(h:GI P ty Post gs w t γ){i:Nat}{w':World}{X:Nat→Prop}(fr:Fr w w' X)(hX: ∀b,X b→γ.M i b∨∃p,Cj γ.AP p b)(j b:Nat)(hj:j≠i)(hb:γ.M j b):w'.heap[b]? =w.heap[b]? :=
 fr.keep _ (h.BX.ml j b hb) fun x=>(hX _ x).elim (fun m=>hj (h.BX.mm j i b hb m)) fun⟨p,hp⟩=>h.BX.ms j p b hb hp
theorem bN.SY{sz sz':Nat}{M:Nat→Nat→Prop}{R:Nat→Addr→Prop}{S T S' T':Nat→Nat→Prop}{Q:Lk}(L:bN sz M R S T Q){i:Nat}{Mi:Nat→Prop}{Ri:Addr→Prop}(Bp:sz≤sz')
  (kN: ∀b,Mi b→b<sz'∧(M i b∨sz≤b)) (iw: ∀a,Ri a→R i a∨(a.block<sz'∧(M i a.block∨sz≤a.block)∧¬Mi a.block))
  (hS: ∀p b,S' p b→S p b) (hT: ∀j b,T' j b→T j b∧∃p,S' p b):bN sz' (upd M i Mi) (upd R i Ri) S' T' Q:=by
 have iM: ∀{j b:Nat},upd M i Mi j b→M j b∨(j=i∧sz≤b):=by
  intro j b hb;by_cases e:j=i
  ·subst e; rw[upd_same]at hb; exact(kN b hb).2.imp id fun x=>⟨rfl,x⟩
  ·rw[upd_ne _ _ e]at hb; exact .inl hb
 refine⟨fun j k b hj hk=> ?_,fun j b hj=> ?_,fun j p b hj hp=> ?_,fun j a ha=> ?_,fun j k a ha hk=> ?_,fun j p a ha hp=> ?_,fun p q b hp hq=>L.ss p q b (hS p b hp) (hS q b hq),fun p b hp=>AV (L.sl p b (hS p b hp)) Bp,fun j b hb=>(hT j b hb).2,L.kb,fun j a hK ha=> ?_,fun j b hB hj=> ?_,fun j a hB ha=> ?_,fun p b hB hp=>L.bs p b hB (hS p b hp),fun b hB=>AV (L.bl b hB) Bp,fun j b hP hj=> ?_,fun j a hP ha=> ?_,fun p b hP hp=>L.ps p b hP (hS p b hp),fun b hP=>AV (L.pl b hP) Bp,L.pb⟩
 ·rcases iM hj with h1|⟨h1,K0⟩<;>rcases iM hk with h2|⟨h2,WX⟩
  ·exact L.mm j k b h1 h2
  ·have:=L.ml _ _ h1; omega
  ·have:=L.ml _ _ h2; omega
  ·rw[h1,h2]
 ·by_cases e:j=i
  ·subst e; rw[upd_same]at hj; exact(kN b hj).1
  ·rw[upd_ne _ _ e]at hj; exact AV (L.ml j b hj) Bp
 ·rcases iM hj with h1|⟨h1,K0⟩
  ·exact L.ms j p b h1 (hS p b hp)
  ·have:=L.sl p b (hS p b hp); omega
 ·by_cases e:j=i
  ·subst e;rw[upd_same]at ha;rcases iw a ha with h1|h1
   ·exact AV (L.rl j a h1) Bp
   ·exact h1.1
  ·rw[upd_ne _ _ e]at ha; exact AV (L.rl j a ha) Bp
 ·have old: ∀{j':Nat},R j' a→False:=fun h1=>by
   rcases iM hk with h2|⟨h2,WX⟩
   ·exact L.rm _ k a h1 h2
   ·have:=L.rl _ a h1; omega
  by_cases e:j=i
  ·subst e;rw[upd_same]at ha;rcases iw a ha with h1|⟨h1,h2,h3⟩
   ·exact old h1
   ·by_cases e':k=j
    ·subst e'; rw[upd_same]at hk; exact h3 hk
    ·rw[upd_ne _ _ e']at hk;rcases h2 with h2|h2
     ·exact e' (L.mm _ _ _ hk h2)
     ·have:=L.ml _ _ hk; omega
  ·rw[upd_ne _ _ e]at ha; exact old ha
 ·by_cases e:j=i
  ·subst e;rw[upd_same]at ha;rcases iw a ha with h1|⟨h1,h2|h2,h3⟩
   ·exact L.rs j p a h1 (hS _ _ hp)
   ·exact L.ms j p _ h2 (hS _ _ hp)
   ·have:=L.sl p _ (hS _ _ hp); omega
  ·rw[upd_ne _ _ e]at ha; exact L.rs j p a ha (hS _ _ hp)
 ·by_cases e:j=i
  ·subst e;rw[upd_same]at ha;rcases iw a ha with h1|⟨h1,h2|h2,h3⟩
   ·exact L.kr j a hK h1
   ·exact L.bm j _ (L.kb a hK) h2
   ·have:=L.bl _ (L.kb a hK); omega
  ·rw[upd_ne _ _ e]at ha; exact L.kr j a hK ha
 ·rcases iM hj with h1|⟨h1,K0⟩
  ·exact L.bm j b hB h1
  ·have:=L.bl b hB; omega
 ·by_cases e:j=i
  ·subst e;rw[upd_same]at ha;rcases iw a ha with h1|⟨h1,h2|h2,h3⟩
   ·exact L.br j a hB h1
   ·exact absurd h2 (L.bm j _ hB)
   ·have:=L.bl _ hB; omega
  ·rw[upd_ne _ _ e]at ha; exact L.br j a hB ha
 ·rcases iM hj with h1|⟨h1,K0⟩
  ·exact L.pm j b hP h1
  ·have:=L.pl b hP; omega
 ·by_cases e:j=i
  ·subst e;rw[upd_same]at ha;rcases iw a ha with h1|⟨h1,h2|h2,h3⟩
   ·exact L.pr j a hP h1
   ·exact L.pm j _ hP h2
   ·have:=L.pl _ hP; omega
  ·rw[upd_ne _ _ e]at ha; exact L.pr j a hP ha
theorem KD.woken{main:Bool}{n:Nat}{c:Ctx}{o g g':Goroutine}{w':World}{s:PS}(h:KD P ty Post main n c o w' s)(hr:g'.status= .running∨g'.status= .finished)
  (hs: ∀ch sp,c.AL=none→c.send=some (ch,sp)→∃cap buf s r,w'.heap[ch]? =some (.chan cap buf false s r false)) (hG: ∀G,c.AP=some G→G.AY=none→∃buf s r,w'.heap[G.ch]? =some (.chan G.cap buf G.closed s r false)) :
  KD P ty Post main n c (woken P g g' w' o) w' (if mayWake P g=true∧(s= .Di∨s= .HC)then .run else s):=by
 cases h with
 |run h =>
  rw[AA (by simp)];have:Go.Conc.woken P g g' w' o=o:=by
   unfold Go.Conc.woken;split
   ·exact again_running _ (h.status.imp id fun x=>x.1)
   ·rfl
  rw[this]; exact .run h
 |snd hm hg hc Ar IW To hd AO hR k =>
  rw[AA (by simp)];obtain⟨cap,buf,s,r,hh⟩:=hs _ _ IW hc;rw[hg,woken_send_open _ _ hh];exact .snd hm rfl hc Ar IW To hd AO hR k
 |Nt hg Ar hk BW A2 Dq hd k =>
  rw[AA (by simp)];obtain⟨buf,s,r,hh⟩:=hG _ Ar BW;rw[Dq]at hh;rw[hg,woken_recv_open _ _ hh];exact .Nt rfl Ar hk BW A2 Dq hd k
 |HC hx hl Aq ho h =>
  by_cases hm:mayWake P g=true
  ·rw[AD ⟨hm,.inr rfl⟩];have:Go.Conc.woken P g g' w' o={o with status:= .running}:=by
    unfold Go.Conc.woken;rw[AD (by rcases hr with e|e<;>simp[hm,e])];simp[Goroutine.again,Aq,ho]
   rw[this]; exact .run h
  ·rw[AA (fun x=>hm x.1)];have:Go.Conc.woken P g g' w' o=o:=by
    unfold Go.Conc.woken;rw[AA (by simp[hm])]
   rw[this]; exact .HC hx hl Aq ho h
 |Di Ar Az Aq ho h =>
  by_cases hm:mayWake P g=true
  ·rw[AD ⟨hm,.inl rfl⟩];have:Go.Conc.woken P g g' w' o={o with status:= .running}:=by
    unfold Go.Conc.woken;rw[AD (by rcases hr with e|e<;>simp[hm,e])];simp[Goroutine.again,Aq,ho]
   rw[this]; exact .run h
  ·rw[AA (fun x=>hm x.1)];have:Go.Conc.woken P g g' w' o=o:=by
    unfold Go.Conc.woken;rw[AA (by simp[hm])]
   rw[this]; exact .Di Ar Az Aq ho h
theorem fZ{γ:Gh}{i j:Nat}(hj:j≠i){Mi:Nat→Prop}{Ri:Addr→Prop}{di:Nat}{dec':Nat→Option (Nat×IE)}{grp':Nat→Option CZ}{nn':Nat→Nat}{ps':Nat→PS}{mt':Nat→Option Jb}{cr':Option Ja}(hd:dec' j=γ.dec j)(hg:grp' j=γ.AP j)(hm:mt' j=γ.mt j) :
  Gh.cx {γ with M:=upd γ.M i Mi,R:=upd γ.R i Ri,d:=upd γ.d i di,dec:=dec',AP:=grp',nn:=nn',ps:=ps',mt:=mt',cr:=cr'} j=γ.cx j:=by
 simp[Gh.cx,upd_ne _ _ hj,hd,hg,hm]
theorem GI.go(h:GI P ty Post gs w t γ){i:Nat}{g g':Goroutine}{w':World}{es:Array Event}{sl:Option (Nat×Nat)}(hi:gs[i]? =some g)(Aq:stepG P (i==0) g w= .go g' w' es)(Ki:SJ es)(hr:g'.status= .running∨g'.status= .finished)
  {X:Nat→Prop} (fr:Fr w w' X) (hkR: ∀j a,γ.R j a→H8 a w w') (hkM: ∀j b,j≠i→γ.M j b→w'.heap[b]? =w.heap[b]?) {Mi:Nat→Prop} {Ri:Addr→Prop} {dec':Nat→Option (Nat×IE)} {grp':Nat→Option CZ} {mt':Nat→Option Jb} {cr':Option Ja} {n':Nat} (hn:n'<γ.nn i)
  (kN: ∀b,Mi b→b<w'.heap.size∧(γ.M i b∨w.heap.size≤b)) (hRi: ∀a,γ.R i a→Ri a) (iw: ∀a,Ri a→γ.R i a∨(a.block<w'.heap.size∧(γ.M i a.block∨w.heap.size≤a.block)∧¬Mi a.block))
  (hu: ∀e∈es,∀x,(MemAct.ofEvent e).touch?=some x→jS (fun b=>γ.M i b∨(w.heap.size≤b∧b<w'.heap.size)) (γ.R i) (Cj γ.AP) (Dh γ.AP γ.dec) γ.q i x)
  (Tp:γ.acc i=i∨∀e∈es,(MemAct.ofEvent e).touch?=none) (XD: ∀f,γ.Aw i=some f→lA (γ.d i) es)
  (ib:Links gs.size γ.snd dec' grp' γ.par γ.acc γ.ids γ.Aw) (hS: ∀p b,Cj grp' p b↔Cj γ.AP p b) (hT: ∀j b,Dh grp' dec' j b→Dh γ.AP γ.dec j b) (hgc: ∀p G,γ.AP p=some G→∃G',grp' p=some G'∧Q3 G G')
  (WR: ∀j,j≠i→dec' j=γ.dec j) (hgo: ∀j,j≠i→grp' j=γ.AP j) (XB: ∀j,j≠i→mt' j=γ.mt j) (BW:Hn gs.size w' grp' γ.ids γ.Aw mt' γ.q (L6 γ i (mayWake P g)) cr')
  (Hh: ∀p G,grp' p=some G→G.AY=none→∃buf s r,UU G (γ.ids p) γ.Aw w' buf s r)
  (Az: ∀p G a φ,grp' p=some G→G.wg=some (a,φ)→Kk ty (C8 gs.size dec' a) dec' (L6 γ i (mayWake P g) p) a w' φ)
  (hW:W P ty Post (i==0) n' ⟨Mi,Ri,deafBehind (γ.d i) es,γ.snd i,dec' i,grp' i,mt' i⟩ g' w') :
  ∃m' ops μ',runT P (crowd gs w sl) i=(.next m',ops)∧Lt2 μ' (sumTo gs.size γ.nn,sumTo gs.size fun j=>if γ.ps j= .run then 1 else 0)∧Inv P ty Post μ' m' (t++ops):=by
 have Ac:i<gs.size:=(A6.1 hi).1;refine⟨_,_,_,runT_crowd_go hi Aq, ?_,(gs.map (woken P g g' w')).setIfInBounds i g',w',sl,{γ with M:=upd γ.M i Mi,R:=upd γ.R i Ri,d:=upd γ.d i (deafBehind (γ.d i) es),dec:=dec',AP:=grp',nn:=upd γ.nn i n',ps:=L6 γ i (mayWake P g),mt:=mt',cr:=cr'},rfl, ?_,rfl⟩
 ·refine .left _ _ ?_;have:=sumTo_upd γ.nn n' (fun x=>x) Ac;simp only[Array.size_setIfInBounds,Array.size_map];have this:sumTo gs.size (upd γ.nn i n')+γ.nn i=sumTo gs.size γ.nn+n':=this;omega
 have Bp:((gs.map (woken P g g' w')).setIfInBounds i g').size=gs.size:=by simp
 have Mc: ∀op∈MemOp.ofEvents i g.frame.fn g.frame.place es,op.g=i∧∀x,op.act.touch?=some x→jS (fun b=>γ.M i b∨(w.heap.size≤b∧b<w'.heap.size)) (γ.R i) (Cj γ.AP) (Dh γ.AP γ.dec) γ.q i x:=fun op ho=>by
  obtain⟨h1,e,he,h2⟩:=Dd ho;exact⟨h1,fun x hx=>hu e he x (h2 ▸hx)⟩
 have kK:γ.acc i=i∨∀op∈MemOp.ofEvents i g.frame.fn g.frame.place es,op.act.touch?=none:=Tp.imp id fun hh op ho=>by
  obtain⟨h1,e,he,h2⟩:=Dd ho;rw[h2]; exact hh e he
 have vL: ∀{j:Nat},j≠i→AS (γ.cx j) w w':=fun {j} hj=>⟨fr.tape,fr.os,fr.output,fr.size,fr.shape,fun b hb=>hkM j b hj hb,fun a ha=>hkR j a ha⟩;refine⟨?_, ?_, ?_,by rw[Bp]; exact BW,FW h.W9 (GJ Ki), ?_, ?_, ?_,Hh, ?_, ?_, ?_⟩
 ·rw[Bp]; exact ib
 ·exact h.BX.SY fr.size kN iw (fun p b=>(hS p b).1) fun j b hb=>⟨hT j b hb,by
   obtain⟨p,hp⟩:=h.BX.ts j b (hT j b hb);exact⟨p,(hS p b).2 hp⟩⟩
 ·rw[Bp];refine(h.ti.step h.BX Ac fr.size kK Mc).freeze (fun j b hb=> ?_) (fun j a ha=> ?_) (fun j b p hb hp=> .inl ⟨hT j b hb,(hS p b).1 hp⟩)
  ·have hb:upd γ.M i Mi j b:=hb;by_cases e:j=i
   ·subst e;rw[upd_same]at hb;exact(kN b hb).2.imp id fun x=>⟨rfl,x,(kN b hb).1⟩
   ·rw[upd_ne _ _ e]at hb; exact .inl hb
  ·have ha:upd γ.R i Ri j a:=ha;by_cases e:j=i
   ·subst e;rw[upd_same]at ha;rcases iw a ha with h1|⟨h1,h2,_⟩
    ·exact .inl h1
    ·exact .inr (h2.imp id fun x=>⟨rfl,x,h1⟩)
   ·rw[upd_ne _ _ e]at ha; exact .inl ha
 ·intro j b hb;rw[Bp];by_cases e:j=i
  ·subst e; exact Ac
  ·exact h.mz j b (by simpa only[upd_ne _ _ e]using hb)
 ·intro j hj;rw[Bp]at hj;by_cases e:j=i
  ·subst e;rw[Deaf_own,h.df j hj]; exact(upd_same _ _ _).symm
  ·rw[Deaf_other t (fun x=>e x.symm) _ (fun op ho=>(Dd ho).1),h.df j hj]; exact(upd_ne _ _ e).symm
 ·intro j f hf;obtain⟨G,h1,h2,h3,h4⟩:=h.ft j f hf;obtain⟨G',K0,WX⟩:=hgc _ _ h1;have hRj: ∀a,f.R a→upd γ.R i Ri j a:=fun a ha=>by
   by_cases e:j=i
   ·subst e; rw[upd_same]; exact hRi a (h3 a ha)
   ·rw[upd_ne _ _ e]; exact h3 a ha
  refine⟨G',K0, ?_,hRj, ?_⟩
  ·refine(h2.da WX.1 WX.2.1 WX.2.2).app (fun k kP hk hg ha hc=> ?_) (fun op ho x hx a ha hl=> ?_)
   ·obtain⟨op,ho,bC⟩:=CL.1 hg;rcases getElem?_append_cases ho with⟨CP,_⟩|⟨_,EU⟩
    ·omega
    ·have e:kP=i:=by rw[← bC]; exact(Dd EU).1
     subst e;by_cases ej:kP=j
     ·subst ej;have:=XD f hf;rw[← h.df kP Ac]at this;exact this.at hk hc
     ·rcases kK with e'|e'
      ·exact ej (e'.symm.trans ha)
      ·obtain⟨x,hx,_⟩:=hc;obtain⟨hY,Ck,FY⟩:=touch_of hx;rw[ho]at Ck; cases Ck;rw[e' op EU]at FY; cases FY
   ·have WU:=h3 a ha;rcases(Mc op ho).2 x hx with⟨b',B7,hM|hn'⟩|⟨a',Cx,_,hw⟩|⟨b',B7,hT',_⟩|⟨a',Cx,hK,_⟩
    ·rw[hl]at B7; simp only[bk,AE]at B7; subst B7; exact absurd hM (h.BX.rm _ _ _ WU)
    ·rw[hl]at B7; simp only[bk,AE]at B7; subst B7; have:=h.BX.rl _ _ WU; omega
    ·exact hw
    ·rw[hl]at B7; simp only[bk,AE]at B7; subst B7; obtain⟨p,hp⟩:=h.BX.ts _ _ hT'; exact absurd hp (h.BX.rs _ _ _ WU)
    ·rw[hl]at Cx; cases Cx; exact absurd WU (h.BX.kr _ _ hK)
  ·refine f.sp.keep _ _ _ _ (fun a ha=> ?_) h4;have WU:=h3 a ha;exact⟨(hkR j a WU).cell,fr.shape _ (h.BX.rl _ _ WU)⟩
 ·intro p G a φ hG ha;rw[Bp]; exact Az p G a φ hG ha
 ·intro j gj hj;by_cases e:j=i
  ·subst e;rw[Bs (by simpa using Ac)]at hj;cases hj;have hp:L6 γ j (mayWake P g) j= .run:=by simp[L6]
   show KD P ty Post (j==0) (upd γ.nn j n' j) _ _ _ (L6 γ j (mayWake P g) j);rw[hp,upd_same];refine .run ?_;simp only[Gh.cx,upd_same];exact hW
  ·rw[Bb (fun x=>e x.symm),Array.getElem?_map]at hj;obtain⟨o,ho,rfl⟩:=CL.1 hj;have hs:=(h.Ms j o ho).rely (vL e);have hp:L6 γ i (mayWake P g) j=if mayWake P g=true∧(γ.ps j= .Di∨γ.ps j= .HC)then .run else γ.ps j:=by simp[L6,e]
   show KD P ty Post (j==0) (upd γ.nn i n' j) _ _ _ (L6 γ i (mayWake P g) j);rw[hp,upd_ne _ _ e,fZ e (WR j e) (hgo j e) (XB j e)];refine hs.woken hr (fun ch sp hm hc=> ?_) (fun G hG I2=> ?_)
   ·obtain⟨k,G,_,h2,h3,_⟩:=ib.NB hc;obtain⟨buf,s,r,hb⟩:=Hh _ _ h2 (BW.IN ib hc ((XB j e).trans hm) h2);have ho:=Is ib Az hc h2;exact⟨G.cap,buf,s,r,by rw[← h3,hb.at_,ho]⟩
   ·have Ar:γ.AP j=some G:=hG;obtain⟨buf,s,r,hb⟩:=Hh j G (by rw[hgo j e]; exact Ar) I2;exact⟨buf,s,r,hb.at_⟩
 ·intro p hp j hj hs;exact h.nr p (Gx hp (by simp)).1 j hj (Gx hs (by simp)).1
end
end Go.Gw
namespace Go.Gw
open Go Go.Conc Go.ConcN
open Go.ConcR (KK wgBlock WgAt stA smA)
theorem E9(w:World)(a:Addr)(v:Value)(b:Nat):(w.setCell a v).shape? b=w.shape? b:=by
 unfold World.shape? World.setCell;simp only[E5];by_cases e:a.block=b
 ·subst e;rw[AD rfl];cases h:w.heap[a.block]? with
  |none=>rfl
  |some o=>cases o<;>simp<;>split<;>simp
 ·rw[AA e]
theorem Fr.setCell(w:World)(a:Addr)(v:Value):Fr w (w.setCell a v) (fun b=>b=a.block) :=
 ⟨rfl,.refl _,.refl _,by simp[World.setCell],fun b _=>E9 w a v b,fun b _ hb=>by simp only[World.setCell,E5]; rw[AA fun e=>hb e.symm]⟩
theorem Fr.setChan{w:World}{c cap s r:Nat}{buf:Array Value}{cl tm:Bool}(h:w.heap[c]? =some (.chan cap buf cl s r tm))(jM:Nat)(Rg:Array Value)(ot:Bool)(s' r':Nat)(gl:Bool):Fr w (w.setChan c jM Rg ot s' r' gl) (fun b=>b=c):=by
 have Ac:c<w.heap.size:=(A6.1 h).1;refine⟨rfl,.refl _,.refl _,by simp[World.setChan],fun b _=> ?_,fun b _ hb=>by simp only[World.setChan]; rw[Bb fun e=>hb e.symm]⟩;unfold World.shape? World.setChan;by_cases e:c=b
 ·subst e;simp only[Bs Ac,h]
 ·simp only[Bb e]
theorem HS{w:World}{c cap s r:Nat}{buf:Array Value}{cl tm:Bool}(h:w.heap[c]? =some (.chan cap buf cl s r tm))(jM:Nat)(Rg:Array Value)(ot:Bool)(s' r':Nat)(gl:Bool):(w.setChan c jM Rg ot s' r' gl).heap[c]? =some (.chan jM Rg ot s' r' gl):=by
 have Ac:c<w.heap.size:=(A6.1 h).1;simp only[World.setChan,Bs Ac]
theorem GQ{n:Nat}{dec:Nat→Option (Nat×IE)}{i:Nat}(hi:i<n)(x:Option (Nat×IE))(a:Nat):C8 n (upd dec i x) a+cw a (dec i)=C8 n dec a+cw a x :=
 sumTo_upd dec x (cw a) hi
theorem Kk.dec{ty:TypeId}{V:Nat}{dec dec':Nat→Option (Nat×IE)}{ps:PS}{a:Nat}{w:World}{φ:Lz}(h:Kk ty V dec ps a w φ)(hd: ∀j ψ,dec' j=some (a,ψ)↔dec j=some (a,ψ)):Kk ty V dec' ps a w φ:=by
 have nl:GR dec a→GR dec' a:=fun x j ψ e=>x j ψ ((hd j ψ).1 e);cases φ with
 |idle mx=>exact⟨h.1,h.2.1,nl h.2.2.1,h.2.2.2⟩
 |pend mx=>exact⟨h.1,h.2.1,nl h.2.2.1,h.2.2.2⟩
 |w2 vs=>exact⟨h.1,h.2.1,nl h.2.2.1,h.2.2.2⟩
 |reg =>
  refine⟨h.1, ?_⟩;rcases h.2 with⟨h1,h2,h3⟩|⟨h1,L,φ,h2,h3,h4,h5⟩|⟨h1,h2,h3,h4⟩
  ·exact .inl ⟨h1,nl h2,h3⟩
  ·exact .inr (.inl ⟨h1,L,φ,(hd _ _).2 h2,h3,fun j ψ e=>h4 j ψ ((hd _ _).1 e),h5⟩)
  ·exact .inr (.inr ⟨h1,nl h2,h3,h4⟩)
 |w4=>exact⟨h.1,nl h.2.1,h.2.2⟩
 |fin=>exact⟨h.1,nl h.2⟩
theorem Ik{γ:Gh}{i p:Nat}{b:Bool}(h:L6 γ i b p= .Di):γ.ps p= .Di∧p≠i∧b=false:=by
 obtain⟨h1,h2,h3⟩:=Gx h (by simp);exact⟨h1,h2,by cases b with|false=>rfl|true=>exact absurd rfl (h3 rfl).1⟩
section
variable{P:Program}{ty:TypeId}{Post:Value→World→Prop}{gs:Array Goroutine}{w:World}{t:Trace}{γ:Gh}{i:Nat}{g g':Goroutine}{w':World}{es:Array Event}{sl:Option (Nat×Nat)}
def Qz(P:Program)(ty:TypeId)(Post:Value→World→Prop)(gs:Array Goroutine)(w:World)(t:Trace)(γ:Gh)(sl:Option (Nat×Nat))(i:Nat):Prop :=
 ∃m' ops μ',runT P (crowd gs w sl) i=(.next m',ops)∧Lt2 μ' (sumTo gs.size γ.nn,sumTo gs.size fun j=>if γ.ps j= .run then 1 else 0)∧Inv P ty Post μ' m' (t++ops)
theorem GI.KF(h:GI P ty Post gs w t γ){X:Nat→Prop}(fr:Fr w w' X)(Z2:Bool){p a:Nat}{G:CZ}{φ:Lz}(hG:γ.AP p=some G)(ha:G.wg=some (a,φ))(hX: ¬X a):Kk ty (C8 gs.size γ.dec a) γ.dec (L6 γ i Z2 p) a w' φ :=
 (h.wg p G a φ hG ha).mono (fr.keep a (h.BX.sl p a ⟨G,hG,.inr ⟨φ,ha⟩⟩) hX) fun e=>(Ik e).1
theorem GI.HF(h:GI P ty Post gs w t γ){X:Nat→Prop}(fr:Fr w w' X){p:Nat}{G:CZ}(hG:γ.AP p=some G)(BW:G.AY=none)(hX: ¬X G.ch): ∃buf s r,UU G (γ.ids p) γ.Aw w' buf s r:=by
 obtain⟨buf,s,r,hc⟩:=h.ch p G hG BW;exact⟨buf,s,r,hc.mono (fr.keep _ (h.BX.sl p _ ⟨G,hG,.inl ⟨BW,rfl⟩⟩) hX)⟩
theorem GI.MN(h:GI P ty Post gs w t γ)(hi:gs[i]? =some g)(Aq:stepG P (i==0) g w= .go g' w' es)(hr:g'.status= .running){Mi:Nat→Prop}{Ri:Addr→Prop}{n':Nat}(hn:n'<γ.nn i)
  (hg:Ca (γ.cx i) Mi Ri w w') (hf:BQ (γ.cx i) w w' es) (hb:i=0∨γ.snd i≠none∨(γ.dec i≠none∧∀e∈es,(MemAct.ofEvent e).touch?=none))
  (hW:W P ty Post (i==0) n' {γ.cx i with M:=Mi,R:=Ri,d:=deafBehind (γ.d i) es} g' w'):Qz P ty Post gs w t γ sl i:=by
 have fr:Fr w w' (γ.M i):=⟨hg.tape,hg.os,hg.output,hg.size,hg.shape,hg.keep⟩;have Ac:i<gs.size:=(A6.1 hi).1;have acc:γ.acc i=i:=by
  by_cases e:γ.acc i=i
  ·exact e
  ·obtain⟨h1,h2,h3,h4⟩:=h.li.gone i e;rcases hb with rfl|hb|hb
   ·exact h.li.za
   ·exact absurd h1 hb
   ·exact absurd h2 hb.1
 refine h.go hi Aq hf.1 (.inl hr) fr (h.V8 (i:=i) fr (fun b hb=> .inl hb)) (h.V9 (i:=i) fr (fun b hb=> .inl hb)) hn hg.mine hg.more hg.ro (fun e he x hx=>(hf.2 e he x hx).imp id fun y=> .inl y) (.inl acc) (fun f D8=> ?_) h.li (fun _ _=>Iff.rfl) (fun _ _=>id) (fun p G hG=>⟨G,hG,.refl G⟩) (fun _ _=>rfl) (fun _ _=>rfl) (fun _ _=>rfl) (h.wm (i:=i) fr (fun b hb=> .inl hb) (fun _=>rfl) _)
  (fun p G hG hc=>h.HF fr hG hc fun x=>h.BX.ms i p _ x ⟨G,hG,.inl ⟨hc,rfl⟩⟩) (fun p G a φ hG ha=>h.KF fr _ hG ha fun x=>h.BX.ms i p _ x ⟨G,hG,.inr ⟨φ,ha⟩⟩) hW
 obtain⟨_,_,_,_,_,hp,_,_,hs,_⟩:=h.li.K4 D8;rcases hb with rfl|hb|hb
 ·omega
 ·exact absurd hs hb
 ·exact lA.none hb.2
theorem Ul{AP:Nat→Option CZ}{p:Nat}{G G':CZ}(hG:AP p=some G)(h1:G'.ch=G.ch)(h4:G'.wg.map (·.1)=G.wg.map (·.1))(gV:G'.AY=G.AY)(q b:Nat):Cj (upd AP p (some G')) q b↔Cj AP q b:=by
 have gb: ∀b,GB G' b↔GB G b:=by
  intro b;unfold GB;rw[h1,gV];refine or_congr Iff.rfl ?_;cases e1:G.wg with
  |none =>
   cases e2:G'.wg with
   |none=>simp
   |some y=>rw[e1,e2]at h4; cases h4
  |some x =>
   cases e2:G'.wg with
   |none=>rw[e1,e2]at h4; cases h4
   |some y =>
    rw[e1,e2]at h4;simp only[Bc,AE]at h4;obtain⟨x1,x2⟩:=x;obtain⟨y1,y2⟩:=y;simp only at h4;subst h4;simp
 unfold Cj;by_cases e:q=p
 ·subst e;rw[upd_same];constructor
  ·rintro⟨Ii,Cz,hb⟩;cases Cz;exact⟨G,hG,(gb b).1 hb⟩
  ·rintro⟨Ii,Cz,hb⟩;rw[hG]at Cz; cases Cz;exact⟨G',rfl,(gb b).2 hb⟩
 ·rw[upd_ne _ _ e]
theorem GI.jg(h:GI P ty Post gs w t γ)(hi:gs[i]? =some g)(Aq:stepG P (i==0) g w= .go g' w' es)(hr:g'.status= .running){a:Nat}{G:CZ}{φ φ':Lz}(hG:γ.AP i=some G)(ha:G.wg=some (a,φ))(hφ:φ≠ .fin)
  (fr:Fr w w' (fun b=>b=a)) (WS:GV a es) (hd:deafBehind (γ.d i) es=γ.d i) {n':Nat} (hn:n'<γ.nn i) (Az:Kk ty (C8 gs.size γ.dec a) γ.dec .run a w' φ')
  (hW:W P ty Post (i==0) n' {γ.cx i with AP:=some (G.ph a φ')} g' w'):Qz P ty Post gs w t γ sl i:=by
 obtain⟨q1,q2,q3,q4,q5,q6,q7,q8⟩:=h.li.gn i G hG;have hS:=Ul (G':=G.ph a φ') hG rfl (by rw[ha]; rfl) rfl;have own:Cj γ.AP i a:=⟨G,hG,.inr ⟨φ,ha⟩⟩;have cl:G.closed=false:=by
  cases e:G.closed with
  |false=>rfl
  |true =>
   obtain⟨a',e'⟩:=q5 e;rw[ha]at e';simp only[AE,AR]at e';exact absurd e'.2 hφ
 have nf:γ.Aw i=none:=by
  cases e:γ.Aw i with
  |none=>rfl
  |some f =>
   obtain⟨_,_,_,_,_,_,_,_,_,hg⟩:=h.li.K4 e;rw[hG]at hg; cases hg
 refine h.go hi Aq WS.1 (.inl hr) fr (h.V8 (i:=i) fr (fun b hb=> .inr ⟨i,by rw[hb]; exact own⟩)) (h.V9 (i:=i) fr (fun b hb=> .inr ⟨i,by rw[hb]; exact own⟩)) (Mi:=γ.M i) (Ri:=γ.R i) hn (fun b hb=>⟨AV (h.BX.ml i b hb) fr.size,.inl hb⟩) (fun _=>id) (fun _=> .inl) (fun e he x hx=> .inr (.inr (.inl ⟨a,(WS.2 e he x hx).1,.inl own,(WS.2 e he x hx).2,fun _=>own⟩))) (.inl q2) (fun f hf=>by rw[nf]at hf; cases hf)
  (h.li.ph (G':=G.ph a φ') hG rfl rfl rfl (by rw[ha]; rfl) (fun hc=>by rw[show(G.ph a φ').closed=G.closed from rfl,cl]at hc; cases hc)) hS
  (fun j b hb=>hb.imp (hS j b).1 id) (fun p G' Ar=> ?_) (fun _ _=>rfl) (fun j hj=>upd_ne _ _ hj) (fun _ _=>rfl) (h.wm (i:=i) fr (fun b hb=> .inr ⟨i,by rw[hb]; exact own⟩) (Qm (G':=G.ph a φ') hG rfl) _) (fun p G' Ar I2=> ?_) (fun p G' a' XI Ar Cx=> ?_) (by simp only[hd,upd_same]; exact hW)
 ·by_cases e:p=i
  ·subst e; rw[hG]at Ar; cases Ar; exact⟨_,upd_same _ _ _,rfl,rfl,by rw[ha]; rfl⟩
  ·exact⟨G',by rw[upd_ne _ _ e]; exact Ar,.refl _⟩
 ·by_cases e:p=i
  ·subst e;rw[upd_same]at Ar; cases Ar;obtain⟨buf,s,r,hc⟩:=h.HF fr hG I2 (fun x=>q8 a φ ha x.symm);exact⟨buf,s,r,hc.at_,hc.un,hc.sum,hc.cnt,hc.msg⟩
  ·rw[upd_ne _ _ e]at Ar;exact h.HF fr Ar I2 fun x=>e (h.BX.ss p i a ⟨G',Ar,.inl ⟨I2,x.symm⟩⟩ own)
 ·by_cases e:p=i
  ·subst e;rw[upd_same]at Ar; cases Ar;simp only[CZ.ph,AE,AR]at Cx;obtain⟨rfl,rfl⟩:=Cx;rw[show L6 γ p (mayWake P g) p= .run by simp[L6]];exact Az
  ·rw[upd_ne _ _ e]at Ar;exact h.KF fr _ Ar Cx fun x=>e (h.BX.ss p i a ⟨G',Ar,.inr ⟨XI,by rw[← x]; exact Cx⟩⟩ own)
theorem GI.sF(h:GI P ty Post gs w t γ)(hi:gs[i]? =some g)(Aq:stepG P (i==0) g w= .go g' w' es)(hr:g'.status= .running){a:Nat}{φ:IE}{x:Option (Nat×IE)}(A0:γ.dec i=some (a,φ))(WG:γ.snd i=none)(hx: ∀b ψ,x=some (b,ψ)→b=a)
  (fr:Fr w w' (fun b=>b=a)) (WS:K8 a (γ.d i) es) (hd:deafBehind (γ.d i) es=γ.d i) {n':Nat} (hn:n'<γ.nn i)
  (Az: ∀G ψ,γ.AP (γ.par i)=some G→G.wg=some (a,ψ)→Kk ty (C8 gs.size (upd γ.dec i x) a) (upd γ.dec i x) (L6 γ i (mayWake P g) (γ.par i)) a w' ψ)
  (hW:W P ty Post (i==0) n' {γ.cx i with dec:=x} g' w'):Qz P ty Post gs w t γ sl i:=by
 obtain⟨q1,q2,q3,G,ψ,q4,q5⟩:=h.li.HE i a φ A0;have own:Cj γ.AP (γ.par i) a:=⟨G,q4,.inr ⟨ψ,q5⟩⟩;have tch:Dh γ.AP γ.dec i a:= .inr ⟨φ,A0⟩;refine h.go hi Aq WS.1 (.inl hr) fr (h.V8 (i:=i) fr (fun b hb=> .inr ⟨γ.par i,by rw[hb]; exact own⟩)) (h.V9 (i:=i) fr (fun b hb=> .inr ⟨γ.par i,by rw[hb]; exact own⟩)) (Mi:=γ.M i) (Ri:=γ.R i) hn (fun b hb=>⟨AV (h.BX.ml i b hb) fr.size,.inl hb⟩) (fun _=>id) (fun _=> .inl) (fun e he y hy=> ?_) (.inl q2) (fun f hf=>WS.unc)
  (h.li.done A0 WG hx) (fun _ _=>Iff.rfl) (fun j b hb=> ?_) (fun p G' Ar=>⟨G',Ar,.refl _⟩) (fun j hj=>upd_ne _ _ hj) (fun _ _=>rfl) (fun _ _=>rfl) (h.wm (i:=i) fr (fun b hb=> .inr ⟨γ.par i,by rw[hb]; exact own⟩) (fun _=>rfl) _) (fun p G' Ar I2=> ?_) (fun p G' a' XI Ar Cx=> ?_) (by simp only[hd,upd_same]; exact hW)
 ·obtain⟨k,hk⟩:=Array.mem_iff_getElem?.1 he;rcases WS.2 k e hk with e0|⟨z,hz,h1,h2,_⟩
  ·rw[hy]at e0; cases e0
  ·rw[hy]at hz; cases hz;exact .inr (.inr (.inl ⟨a,h1,tch,by rw[h2]; simp,fun e'=>by rw[h2]at e'; cases e'⟩))
 ·rcases hb with hb|⟨ψ',hb⟩
  ·exact .inl hb
  ·by_cases e:j=i
   ·subst e;rw[upd_same]at hb;rw[hx _ _ hb]; exact tch
   ·rw[upd_ne _ _ e]at hb; exact .inr ⟨ψ',hb⟩
 ·exact h.HF fr Ar I2 fun y=>by
   have:=h.BX.ss p _ a ⟨G',Ar,.inl ⟨I2,y.symm⟩⟩ own;rw[this]at Ar;rw[q4]at Ar; cases Ar;exact(h.li.gn _ _ q4).2.2.2.2.2.2.2 a ψ q5 y.symm
 ·by_cases e:p=γ.par i
  ·subst e;rw[q4]at Ar; cases Ar;rw[q5]at Cx;simp only[AE,AR]at Cx;obtain⟨rfl,rfl⟩:=Cx;exact Az G _ q4 q5
  ·have BK:a'≠a:=fun y=>e (h.BX.ss p _ a ⟨G',Ar,.inr ⟨XI,by rw[← y]; exact Cx⟩⟩ own);have hk:=h.KF (i:=i) fr (mayWake P g) Ar Cx BK;have hc:=GQ (dec:=γ.dec) q1 x a';have vT:a≠a':=fun e=>BK e.symm;have e1:cw a' (γ.dec i)=0:=by rw[A0]; cases φ<;>simp[cw,vT]
   have e2:cw a' x=0:=by
    cases Hp:x with
    |none=>rfl
    |some y =>
     obtain⟨b,ψ'⟩:=y;have:=hx b ψ' Hp;subst this;cases ψ'<;>simp[cw,vT]
   have e3:C8 gs.size (upd γ.dec i x) a'=C8 gs.size γ.dec a':=by omega
   rw[e3];refine hk.dec fun j ψ'=> ?_;by_cases e':j=i
   ·subst e';rw[upd_same,A0];constructor
    ·intro y; exact absurd (hx _ _ y) BK
    ·intro y;simp only[AE,AR]at y;exact absurd y.1.symm BK
   ·rw[upd_ne _ _ e']
end
section
variable{P:Program}{ty:TypeId}{Post:Value→World→Prop}{gs:Array Goroutine}{w:World}{t:Trace}{γ:Gh}{i:Nat}{g g':Goroutine}{w':World}{es:Array Event}{sl:Option (Nat×Nat)}
theorem GI.ghost(h:GI P ty Post gs w t γ)(hi:gs[i]? =some g)(EJ:γ.ps i= .run){Mi:Nat→Prop}{grp':Nat→Option CZ}{n':Nat}(kN: ∀b,Mi b→γ.M i b)
  (ib:Links gs.size γ.snd γ.dec grp' γ.par γ.acc γ.ids γ.Aw) (eL:bN w.heap.size (upd γ.M i Mi) γ.R (Cj grp') (Dh grp' γ.dec) γ.q)
  (xX: ∀j b p,Dh grp' γ.dec j b→Cj grp' p b→(Dh γ.AP γ.dec j b∧Cj γ.AP p b)∨γ.M j b) (hgo: ∀j,j≠i→grp' j=γ.AP j)
  (hgc: ∀j f G,γ.Aw j=some f→γ.AP (γ.par j)=some G→∃G',grp' (γ.par j)=some G'∧Q3 G G') (hcv: ∀p,Fy grp' p=Fy γ.AP p) (Hh: ∀p G,grp' p=some G→G.AY=none→∃buf s r,UU G (γ.ids p) γ.Aw w buf s r)
  (Az: ∀p G a φ,grp' p=some G→G.wg=some (a,φ)→Kk ty (C8 gs.size γ.dec a) γ.dec (γ.ps p) a w φ)
  (hW:W P ty Post (i==0) n' ⟨Mi,γ.R i,γ.d i,γ.snd i,γ.dec i,grp' i,γ.mt i⟩ g w):GI P ty Post gs w t {γ with M:=upd γ.M i Mi,AP:=grp',nn:=upd γ.nn i n'}:=by
 have up: ∀{j b:Nat},upd γ.M i Mi j b→γ.M j b:=by
  intro j b hb;by_cases e:j=i
  ·subst e; rw[upd_same]at hb; exact kN b hb
  ·rw[upd_ne _ _ e]at hb; exact hb
 refine⟨ib,eL,h.ti.freeze (fun j b hb=>up hb) (fun _ _=> .inl) xX,h.cr.keep (fun _ _ h=>h) (fun _ _=>rfl) (fun _ _=>rfl) hcv (fun _=>rfl) (fun _ _=>rfl) (fun _=>id),h.W9,fun j b hb=>h.mz j b (up hb),h.df,fun j f hf=> ?_,Hh,Az,fun j gj hj=> ?_,h.nr⟩
 ·obtain⟨G,h1,h2,h3,h4⟩:=h.ft j f hf;obtain⟨G',K0,WX⟩:=hgc j f G hf h1;exact⟨G',K0,h2.da WX.1 WX.2.1 WX.2.2,h3,h4⟩
 ·by_cases e:j=i
  ·subst e;rw[hi]at hj; cases hj;show KD P ty Post (j==0) (upd γ.nn j n' j) _ _ _ (γ.ps j);rw[EJ,upd_same];refine .run ?_;simp only[Gh.cx,upd_same];exact hW
  ·have hs:=h.Ms j gj hj;show KD P ty Post (j==0) (upd γ.nn i n' j) _ _ _ (γ.ps j);rw[upd_ne _ _ e];have:Gh.cx {γ with M:=upd γ.M i Mi,AP:=grp',nn:=upd γ.nn i n'} j=γ.cx j:=by simp[Gh.cx,upd_ne _ _ e,hgo j e]
   rw[this]; exact hs
theorem EF{α:Type}(f:Nat→α)(i:Nat):upd f i (f i)=f:=by
 funext j;by_cases e:j=i
 ·subst e; exact upd_same _ _ _
 ·exact upd_ne _ _ e
theorem GI.more(h:GI P ty Post gs w t γ)(hi:gs[i]? =some g)(EJ:γ.ps i= .run){n':Nat}(hW:W P ty Post (i==0) n' (γ.cx i) g w):GI P ty Post gs w t {γ with nn:=upd γ.nn i n'}:=by
 have:=h.ghost hi EJ (Mi:=γ.M i) (grp':=γ.AP) (fun _=>id) h.li (by rw[EF]; exact h.BX) (fun _ _ _ a b=> .inl ⟨a,b⟩) (fun _ _=>rfl) (fun _ _ G _ hG=>⟨G,hG,.refl G⟩) (fun _=>rfl) h.ch h.wg hW;rw[EF]at this;exact this
theorem GI.freeze(h:GI P ty Post gs w t γ)(hi:gs[i]? =some g)(EJ:γ.ps i= .run){n':Nat}{M':Nat→Prop}{R':Addr→Prop}(hM: ∀b,M' b→γ.M i b)(hR: ∀a,γ.R i a→R' a)(Ox: ∀a,R' a→γ.R i a∨(γ.M i a.block∧¬M' a.block))
  (hW:W P ty Post (i==0) n' {γ.cx i with M:=M',R:=R'} g w):GI P ty Post gs w t {γ with M:=upd γ.M i M',R:=upd γ.R i R',nn:=upd γ.nn i n'}:=by
 have up: ∀{j b:Nat},upd γ.M i M' j b→γ.M j b:=by
  intro j b hb;by_cases e:j=i
  ·subst e; rw[upd_same]at hb; exact hM b hb
  ·rw[upd_ne _ _ e]at hb; exact hb
 have ur: ∀{j:Nat} {a:Addr},upd γ.R i R' j a→γ.R j a∨(γ.M j a.block∧¬upd γ.M i M' j a.block):=by
  intro j a ha;by_cases e:j=i
  ·subst e; rw[upd_same]at ha ⊢; exact Ox a ha
  ·rw[upd_ne _ _ e]at ha; exact .inl ha
 have old: ∀{j:Nat} {a:Addr},γ.R j a→upd γ.R i R' j a:=by
  intro j a ha;by_cases e:j=i
  ·subst e; rw[upd_same]; exact hR a ha
  ·rw[upd_ne _ _ e]; exact ha
 have l:=h.BX;refine⟨h.li,⟨fun a b x p q=>l.mm a b x (up p) (up q),fun a b p=>l.ml a b (up p),fun a p b q=>l.ms a p b (up q),fun j a p=> ?_,fun j k a p q=> ?_,fun j q a p=> ?_,l.ss,l.sl,l.ts,l.kb,fun j a hK p=>(ur p).elim (l.kr j a hK) fun x=>l.bm j _ (l.kb a hK) x.1,fun j b hB p=>l.bm j b hB (up p),fun j a hB p=>(ur p).elim (l.br j a hB) fun x=>absurd x.1 (l.bm j _ hB),l.bs,l.bl,fun j b hP p=>l.pm j b hP (up p),fun j a hP p=>(ur p).elim (l.pr j a hP) fun x=>l.pm j _ hP x.1,l.ps,l.pl,l.pb⟩,h.ti.freeze (fun j b hb=>up hb) (fun j a ha=>(ur ha).imp id fun x=>x.1) (fun j b p a c=> .inl ⟨a,c⟩),h.cr,h.W9,fun j b hb=>h.mz j b (up hb),h.df,fun j f hf=> ?_,h.ch,h.wg,fun j gj hj=> ?_,h.nr⟩
 ·exact(ur p).elim (l.rl j a) fun x=>l.ml j _ x.1
 ·rcases ur p with x|x
  ·exact l.rm j k a x (up q)
  ·have:=l.mm j k _ x.1 (up q);subst this;exact x.2 q
 ·exact(ur p).elim (l.rs j q a) fun x=>l.ms j q _ x.1
 ·obtain⟨G,h1,h2,h3,h4⟩:=h.ft j f hf;exact⟨G,h1,h2,fun a ha=>old (h3 a ha),h4⟩
 ·by_cases e:j=i
  ·subst e;rw[hi]at hj; cases hj;show KD P ty Post (j==0) (upd γ.nn j n' j) _ _ _ (γ.ps j);rw[EJ,upd_same];refine .run ?_;simp only[Gh.cx,upd_same];exact hW
  ·have hs:=h.Ms j gj hj;show KD P ty Post (j==0) (upd γ.nn i n' j) _ _ _ (γ.ps j);rw[upd_ne _ _ e];have:Gh.cx {γ with M:=upd γ.M i M',R:=upd γ.R i R',nn:=upd γ.nn i n'} j=γ.cx j:=by simp[Gh.cx,upd_ne _ _ e]
   rw[this]; exact hs
theorem GI.found(h:GI P ty Post gs w t γ)(hi:gs[i]? =some g)(EJ:γ.ps i= .run){n' ch cap:Nat}{wg:Option Nat}(hb:i=0∨γ.snd i≠none)(hG:γ.AP i=none)(Hh:γ.M i ch)
  (hw:w.heap[ch]? =some (.chan cap #[] false 0 0 false)) (Az: ∀a,wg=some a→γ.M i a∧a≠ch∧WgAt ty a w 0 0) (gV:wg.isSome=true↔0<cap)
  (hW:W P ty Post (i==0) n' {γ.cx i with M:=fun b=>γ.M i b∧b≠ch∧wg≠some b,AP:=some {ch,cap,kids:= [],wg:=wg.map fun a=>(a,.idle 0),closed:=false}} g w) :
  GI P ty Post gs w t {γ with M:=upd γ.M i (fun b=>γ.M i b∧b≠ch∧wg≠some b),AP:=upd γ.AP i (some {ch,cap,kids:= [],wg:=wg.map fun a=>(a,.idle 0),closed:=false}),nn:=upd γ.nn i n'}:=by
 have Ac:i<gs.size:=(A6.1 hi).1;generalize WV:({ch,cap,kids:= [],wg:=wg.map fun a=>(a,Lz.idle 0),closed:=false}:CZ)=G0 at hW ⊢;have acc:γ.acc i=i:=by
  by_cases e:γ.acc i=i
  ·exact e
  ·obtain⟨h1,h2,h3,h4⟩:=h.li.gone i e;rcases hb with rfl|hb
   ·exact h.li.za
   ·exact absurd h1 hb
 have nf:γ.Aw i=none:=by
  cases e:γ.Aw i with
  |none=>rfl
  |some f =>
   obtain⟨_,_,_,_,_,hp,_,_,hs,hg⟩:=h.li.K4 e;rcases hb with rfl|hb
   ·omega
   ·exact absurd hs hb
 have fJ: ∀{b:Nat},GB G0 b→γ.M i b∧(b=ch∨wg=some b):=by
  rintro b (⟨_,e⟩|⟨φ,e⟩)
  ·subst WV; simp only at e; subst e; exact⟨Hh,.inl rfl⟩
  ·subst WV;simp only[CL,AR]at e;obtain⟨a,ha,rfl,_⟩:=e;exact⟨(Az a ha).1,.inr ha⟩
 have S': ∀{p b:Nat},Cj (upd γ.AP i (some G0)) p b→Cj γ.AP p b∨(p=i∧GB G0 b):=by
  rintro p b ⟨G,Ar,hb⟩;by_cases e:p=i
  ·subst e; rw[upd_same]at Ar; cases Ar; exact .inr ⟨rfl,hb⟩
  ·rw[upd_ne _ _ e]at Ar; exact .inl ⟨G,Ar,hb⟩
 have old: ∀{p b:Nat},Cj γ.AP p b→Cj (upd γ.AP i (some G0)) p b:=by
  rintro p b ⟨G,Ar,hb⟩;have e:p≠i:=fun e=>by rw[e,hG]at Ar; cases Ar
  exact⟨G,by rw[upd_ne _ _ e]; exact Ar,hb⟩
 have up: ∀{j b:Nat},upd γ.M i (fun b=>γ.M i b∧b≠ch∧wg≠some b) j b→γ.M j b∧(j=i→b≠ch∧wg≠some b):=by
  intro j b hb;by_cases e:j=i
  ·subst e; rw[upd_same]at hb; exact⟨hb.1,fun _=>hb.2⟩
  ·rw[upd_ne _ _ e]at hb; exact⟨hb,fun x=>absurd x e⟩
 refine h.ghost hi EJ (fun b hb=>hb.1) ?_ ?_ (fun j b p hb hp=> ?_) (fun j hj=>upd_ne _ _ hj) (fun j f G hf Ar=>⟨G, ?_,.refl G⟩) (fun p=> ?_) (fun p G Ar I2=> ?_) (fun p G a φ Ar ha=> ?_) (by rw[upd_same]; exact hW)
 ·refine h.li.found Ac acc hG nf (by subst WV; rfl) (by subst WV; rfl) ?_ ?_
  ·subst WV; simpa using gV
  ·intro a φ ha;subst WV;simp only[CL,AR]at ha;obtain⟨a',Cx,rfl,_⟩:=ha;exact(Az a' Cx).2.1
 ·have L:=h.BX;refine⟨fun j k b hj hk=>L.mm j k b (up hj).1 (up hk).1,fun j b hj=>L.ml j b (up hj).1,fun j p b hj hp=> ?_,L.rl,fun j k a ha hk=>L.rm j k a ha (up hk).1,fun j p a ha hp=> ?_,fun p q b hp hq=> ?_,fun p b hp=> ?_,fun j b hb=> ?_,L.kb,L.kr,fun j b hB hj=>L.bm j b hB (up hj).1,L.br,fun p b hB hp=>(S' hp).elim (L.bs p b hB) fun x=>L.bm _ b hB (fJ x.2).1,L.bl,fun j b hP hj=>L.pm j b hP (up hj).1,L.pr,fun p b hP hp=>(S' hp).elim (L.ps p b hP) fun x=>L.pm _ b hP (fJ x.2).1,L.pl,L.pb⟩
  ·rcases S' hp with Kx|⟨e,Kx⟩
   ·exact L.ms j p b (up hj).1 Kx
   ·obtain⟨h1,h2⟩:=fJ Kx;have:=L.mm _ _ _ (up hj).1 h1;obtain⟨h3,h4⟩:=(up hj).2 this;exact h2.elim h3 h4
  ·rcases S' hp with Kx|⟨e,Kx⟩
   ·exact L.rs j p a ha Kx
   ·exact L.rm j _ a ha (fJ Kx).1
  ·rcases S' hp with Kx|⟨e,Kx⟩<;>rcases S' hq with Ti|⟨e',Ti⟩
   ·exact L.ss p q b Kx Ti
   ·exact absurd Kx (L.ms _ _ _ (fJ Ti).1)
   ·exact absurd Ti (L.ms _ _ _ (fJ Kx).1)
   ·rw[e,e']
  ·rcases S' hp with Kx|⟨e,Kx⟩
   ·exact L.sl p b Kx
   ·exact L.ml _ _ (fJ Kx).1
  ·rcases hb with hb|⟨φ,hb⟩
   ·exact⟨j,hb⟩
   ·obtain⟨p,hp⟩:=L.ts j b (.inr ⟨φ,hb⟩);exact⟨p,old hp⟩
 ·rcases S' hp with Kx|⟨e,Kx⟩
  ·rcases hb with hb|⟨φ,hb⟩
   ·rcases S' hb with iv|⟨e',iv⟩
    ·exact .inl ⟨.inl iv,Kx⟩
    ·exact absurd Kx (h.BX.ms _ _ _ (fJ iv).1)
   ·exact .inl ⟨.inr ⟨φ,hb⟩,Kx⟩
  ·rcases hb with hb|⟨φ,hb⟩
   ·rcases S' hb with iv|⟨e',iv⟩
    ·exact absurd iv (h.BX.ms _ _ _ (fJ Kx).1)
    ·exact .inr (e' ▸(fJ Kx).1)
   ·obtain⟨q,hq⟩:=h.BX.ts j b (.inr ⟨φ,hb⟩);exact absurd hq (h.BX.ms _ _ _ (fJ Kx).1)
 ·have e:γ.par j≠i:=fun e=>by rw[e,hG]at Ar; cases Ar
  rw[upd_ne _ _ e]; exact Ar
 ·unfold Fy;by_cases e:p=i
  ·subst e; rw[upd_same,hG]; subst WV; rfl
  ·rw[upd_ne _ _ e]
 ·by_cases e:p=i
  ·subst e;rw[upd_same]at Ar; cases Ar;have hi0:γ.ids p= []:=by
    cases e:γ.ids p with
    |nil=>rfl
    |cons a l =>
     obtain⟨_,G',_,_,Cz,_⟩:=h.li.CO (p:=p) (j:=a) (by rw[e]; simp);rw[hG]at Cz; cases Cz
   refine⟨#[],0,0, ?_,fun _=>rfl,rfl,by rw[hi0]; rfl,fun q v hq=>by simp at hq⟩;subst WV; exact hw
  ·rw[upd_ne _ _ e]at Ar; exact h.ch p G Ar I2
 ·by_cases e:p=i
  ·subst e;rw[upd_same]at Ar; cases Ar;subst WV;simp only[CL,AR]at ha;obtain⟨a',Cx,rfl,rfl⟩:=ha;have nd: ∀j φ,γ.dec j≠some (a',φ):=fun j φ e=>by
    obtain⟨q,hq⟩:=h.BX.ts j a' (.inr ⟨φ,e⟩);exact h.BX.ms p q a' (Az a' Cx).1 hq
   have hv:C8 gs.size γ.dec a'=0:=by
    have: ∀m,sumTo m (fun j=>cw a' (γ.dec j))=0:=by
     intro m;induction m with
     |zero=>rfl
     |succ m ih =>
      simp only[sumTo,ih];cases e:γ.dec m with
      |none=>rfl
      |some y =>
       obtain⟨b,ψ⟩:=y;have:b≠a':=fun e'=>nd m ψ (by rw[e,e']);cases ψ<;>simp[cw,this]
    exact this _
   refine⟨by omega,by omega,fun j φ e=>absurd e (nd j φ), ?_⟩;rw[hv];simpa using(Az a' Cx).2.2
  ·rw[upd_ne _ _ e]at Ar; exact h.wg p G a φ Ar ha
theorem GI.free(h:GI P ty Post gs w t γ)(hi:gs[i]? =some g)(EJ:γ.ps i= .run){n':Nat}{G:CZ}(hG:γ.AP i=some G)(BW:G.AY=none)(hk:G.kids= [])(Az:G.wg=none∨∃a,G.wg=some (a,.fin))
  (hW:W P ty Post (i==0) n' {γ.cx i with AP:=none} g w):GI P ty Post gs w t {γ with AP:=upd γ.AP i none,nn:=upd γ.nn i n'}:=by
 have nd: ∀j a φ,γ.dec j=some (a,φ)→γ.par j≠i:=by
  intro j a φ e e';obtain⟨q1,q2,q3,G',ψ,q4,q5⟩:=h.li.HE j a φ e;rw[e',hG]at q4; cases q4;rcases Az with h0|⟨a',h0⟩
  ·rw[h0]at q5; cases q5
  ·rw[h0]at q5;simp only[AE,AR]at q5;obtain⟨rfl,rfl⟩:=q5;have hv:=h.wg i G _ _ hG h0;have:=hv.2 j φ e;subst this;have:=En q1 e;have:=hv.1;omega
 have S': ∀{p b:Nat},Cj (upd γ.AP i none) p b→Cj γ.AP p b∧p≠i:=by
  rintro p b ⟨G',Ar,hb⟩;by_cases e:p=i
  ·subst e; rw[upd_same]at Ar; cases Ar
  ·rw[upd_ne _ _ e]at Ar; exact⟨⟨G',Ar,hb⟩,e⟩
 have dS: ∀{j b:Nat} {φ:IE},γ.dec j=some (b,φ)→Cj (upd γ.AP i none) (γ.par j) b:=by
  intro j b φ e;obtain⟨q1,q2,q3,G',ψ,q4,q5⟩:=h.li.HE j b φ e;exact⟨G',by rw[upd_ne _ _ (nd j b φ e)]; exact q4,.inr ⟨ψ,q5⟩⟩
 have L:=h.BX;have:=h.ghost hi EJ (Mi:=γ.M i) (grp':=upd γ.AP i none) (n':=n') (fun _=>id) (h.li.free hG hk nd)
  (by
   rw[EF];exact⟨L.mm,L.ml,fun j p b hj hp=>L.ms j p b hj (S' hp).1,L.rl,L.rm,fun j p a ha hp=>L.rs j p a ha (S' hp).1,fun p q b hp hq=>L.ss p q b (S' hp).1 (S' hq).1,fun p b hp=>L.sl p b (S' hp).1,
    fun j b hb=>hb.elim (fun x=>⟨j,x⟩) fun⟨φ,x⟩=>⟨_,dS x⟩,L.kb,L.kr,L.bm,L.br,fun p b hB hp=>L.bs p b hB (S' hp).1,L.bl,L.pm,L.pr,fun p b hP hp=>L.ps p b hP (S' hp).1,L.pl,L.pb⟩)
  (fun j b p hb hp=> .inl ⟨hb.imp (fun x=>(S' x).1) id,(S' hp).1⟩) (fun j hj=>upd_ne _ _ hj) (fun j f G' hf Ar=>⟨G',by
   have e:γ.par j≠i:=fun e=>by
    obtain⟨k,Ii,h1,h2,h3,_⟩:=h.li.K4 hf;rw[e,hG]at h2; cases h2;rw[hk]at h3; simp at h3
   rw[upd_ne _ _ e]; exact Ar,.refl _⟩)
  (fun p=>by
   unfold Fy;by_cases e:p=i
   ·subst e; rw[upd_same,hG]; exact(Ev BW).symm
   ·rw[upd_ne _ _ e])
  (fun p G' Ar I2=>by
   by_cases e:p=i
   ·subst e; rw[upd_same]at Ar; cases Ar
   ·rw[upd_ne _ _ e]at Ar; exact h.ch p G' Ar I2)
  (fun p G' a φ Ar ha=>by
   by_cases e:p=i
   ·subst e; rw[upd_same]at Ar; cases Ar
   ·rw[upd_ne _ _ e]at Ar; exact h.wg p G' a φ Ar ha)
  (by rw[upd_same]; exact hW)
 rw[EF]at this;exact this
theorem GI.rZ(h:GI P ty Post gs w t γ)(ha:γ.acc i=i)(hf:γ.Aw i=none){sz':Nat}{u:Trace}(hu: ∀op∈u,∀x,op.act.touch?=some x→op.g=i∧jS (fun b=>γ.M i b∨(w.heap.size≤b∧b<sz')) (γ.R i) (Cj γ.AP) (Dh γ.AP γ.dec) γ.q i x)
  {j:Nat} {G:CZ} {f:Jc} (hj:γ.Aw j=some f) (F:Fe γ.acc t G j f) (hR: ∀a,f.R a→γ.R j a):Fe γ.acc (t++u) G j f:=by
 refine F.app (fun k kP hk hg hac hc=> ?_) (fun op ho x hx a hra hl=> ?_)
 ·obtain⟨op,ho,bC⟩:=CL.1 hg;rcases getElem?_append_cases ho with⟨CP,_⟩|⟨_,EU⟩
  ·omega
  ·obtain⟨x,hx,_⟩:=hc;obtain⟨hY,Ck,FY⟩:=touch_of hx;rw[ho]at Ck; cases Ck;have:=(hu op EU x FY).1;rw[bC]at this;subst this;rw[ha]at hac;subst hac;rw[hf]at hj; cases hj
 ·have WU:=hR a hra;rcases(hu op ho x hx).2 with⟨b',B7,hM|hn'⟩|⟨a',Cx,_,hw⟩|⟨b',B7,hT',_⟩|⟨a',Cx,hK,_⟩
  ·rw[hl]at B7; simp only[bk,AE]at B7; subst B7; exact absurd hM (h.BX.rm _ _ _ WU)
  ·rw[hl]at B7; simp only[bk,AE]at B7; subst B7; have:=h.BX.rl _ _ WU; omega
  ·exact hw
  ·rw[hl]at B7; simp only[bk,AE]at B7; subst B7; obtain⟨p,hp⟩:=h.BX.ts _ _ hT'; exact absurd hp (h.BX.rs _ _ _ WU)
  ·rw[hl]at Cx; cases Cx; exact absurd WU (h.BX.kr _ _ hK)
theorem GI.Ou(h:GI P ty Post gs w t γ){X:Nat→Prop}(fr:Fr w w' X)(hX: ∀b,X b→γ.M i b∨∃p,Cj γ.AP p b){j:Nat}{sp:Spec}{v:Value}{Rm:Addr→Prop}(hR: ∀a,Rm a→γ.R j a)(AO:sp.ok v Rm w):sp.ok v Rm w':=by
 refine sp.keep _ _ _ _ (fun a ha=> ?_) AO;have WU:=hR a ha;have hnX: ¬X a.block:=fun x=>by
  rcases hX _ x with m|⟨p,hp⟩
  ·exact h.BX.rm _ _ _ WU m
  ·exact h.BX.rs _ _ _ WU hp
 have hk:=fr.keep _ (h.BX.rl _ _ WU) hnX;exact⟨by simp only[World.cell?,hk],fr.shape _ (h.BX.rl _ _ WU)⟩
theorem GI.P2(h:GI P ty Post gs w t γ){j ch:Nat}{o:Goroutine}(hj:gs[j]? =some o)(ho:offersAt o ch false≠ []) :
  offersAt o ch false= [0]∧γ.ps j= .Nt∧∃G g₀ z FG,γ.AP j=some G∧G.AY=none∧G.ch=ch∧G.cap=0∧o=parked g₀ #[rcase ch z] (.recv FG):=by
 have hs:=h.Ms j o hj;generalize hp:γ.ps j=s at hs;cases hs with
 |run hw =>
  refine absurd (offersAt_of_not_blocked ?_ _ _) ho;rcases hw.status with e|e
  ·rw[e]; simp
  ·rw[e.1]; simp
 |snd hm hg hc hG IW To hd AO hR k=>rw[hg,offersAt_parked_send']at ho; exact absurd rfl ho
 |HC hx hl Aq Ck hw=>simp[offersAt,Aq,Ck]at ho
 |Nt hg hG hk BW A2 Dq hd k =>
  rename_i g₀ G z FG;rw[hg,offersAt_parked_recv]at ho ⊢;by_cases e:G.ch=ch
  ·subst e;rw[AD rfl];exact⟨rfl,rfl,G,g₀,z,FG,hG,BW,rfl,A2,rfl⟩
  ·rw[AA e]at ho; exact absurd rfl ho
 |Di hG Az Aq Ck hw=>simp[offersAt,Aq,Ck]at ho
theorem GI.Pz(h:GI P ty Post gs w t γ){j ch:Nat}{o:Goroutine}(hj:gs[j]? =some o)(ho:offersAt o ch true≠ []) :
  offersAt o ch true= [0]∧γ.ps j= .snd∧∃sp g₀ v z,γ.snd j=some (ch,sp)∧γ.mt j=none∧o=parked g₀ #[scase ch v z] .send:=by
 have hs:=h.Ms j o hj;generalize hp:γ.ps j=s at hs;cases hs with
 |run hw =>
  refine absurd (offersAt_of_not_blocked ?_ _ _) ho;rcases hw.status with e|e
  ·rw[e]; simp
  ·rw[e.1]; simp
 |Nt hg hG hk BW A2 Dq hd k=>rw[hg,offersAt_parked_recv']at ho; exact absurd rfl ho
 |HC hx hl Aq Ck hw=>simp[offersAt,Aq,Ck]at ho
 |snd hm hg hc hG IW To hd AO hR k =>
  rename_i g₀ c' sp v z Rm;rw[hg,offersAt_parked_send]at ho ⊢;by_cases e:c'=ch
  ·subst e;rw[AD rfl];exact⟨rfl,rfl,sp,g₀,v,z,hc,IW,rfl⟩
  ·rw[AA e]at ho; exact absurd rfl ho
 |Di hG Az Aq Ck hw=>simp[offersAt,Aq,Ck]at ho
end
theorem GP{Aw:Nat→Option Jc}{i:Nat}{x:Option Jc}: ∀{l:List Nat},i∉l→l.countP (Cw (upd Aw i x))=l.countP (Cw Aw)
 | [],_=>rfl
 |a::l,h=>by
  have h1:a≠i:=fun e=>h (by rw[e]; simp);have h2:i∉l:=fun e=>h (by simp[e]);have e:Cw (upd Aw i x) a=Cw Aw a:=by simp only[Cw,upd_ne _ _ h1]
  rw[List.countP_cons,List.countP_cons,GP h2,e]
theorem Qn{Aw:Nat→Option Jc}{i:Nat}{f:Jc}(hf:Aw i=none): ∀{l:List Nat},l.Nodup→i∈l→l.countP (Cw (upd Aw i (some f)))=l.countP (Cw Aw)+1
 | [],_,h=>by simp at h
 |a::l,hn,h=>by
  rw[List.nodup_cons]at hn;rw[List.countP_cons,List.countP_cons];by_cases e:a=i
  ·subst e;rw[GP hn.1];simp[Cw,upd_same,hf]
  ·have:i∈l:=by simpa[Ne.symm e]using h
   have e':Cw (upd Aw i (some f)) a=Cw Aw a:=by simp only[Cw,upd_ne _ _ e]
   rw[Qn hf hn.2 this,e'];omega
theorem Mk{p:Nat→Bool}: ∀{l:List Nat} {k j:Nat},l[k]? =some j→p j=true→(l.eraseIdx k).countP p+1=l.countP p
 | [],_,_,h,_=>by simp at h
 |a::l,0,j,h,hp=>by
  simp only[CM,AE]at h;subst h;simp[hp]
 |a::l,k+1,j,h,hp=>by
  have:=Mk (l:=l) (k:=k) (j:=j) (by simpa using h) hp;simp only[List.eraseIdx_cons_succ,List.countP_cons];omega
open Go.Gm (Bo Ct LP MW Ow Bz Am CI)
section
variable{n:Nat}{w:World}{AP:Nat→Option CZ}{ids:Nat→List Nat}{Aw:Nat→Option Jc}{mt:Nat→Option Jb}{q:Lk}{ps ps':Nat→PS}{cr:Option Ja}
theorem Hn.OV(h:Hn n w AP ids Aw mt q ps cr){i b:Nat}(hB:q.B b)(ho:q.on i):(i=0∧∃G,AP 0=some G∧G.AY≠none)∨∃x,mt i=some x∧b=x.C.lb:=by
 cases cr with
 |none=>exact absurd hB (h.qB b)
 |some k =>
  have h:HG n w AP ids Aw mt q ps k:=h;rcases(h.qm i).1 ho.1 with e|e
  ·have hv:=h.g0;unfold Fy at hv;cases e':AP 0 with
   |none=>rw[e']at hv; cases hv
   |some G =>
    rw[e']at hv;exact .inl ⟨e,G,rfl,fun e''=>by have hv:G.cv=_:=hv; rw[Ev e'']at hv; cases hv⟩
  ·obtain⟨μ,hμ⟩:=Option.ne_none_iff_exists'.1 e;refine .inr ⟨⟨k.C,μ⟩, ?_,(h.qB b).1 hB⟩;rw[h.TO i];cases e':Aw i with
   |none=>simp only[hμ]; rfl
   |some f =>
    have:=(h.bI i f μ e' hμ).2.2;rw[ho.2]at this; cases this
def fc(cr:Option Ja)(n:Nat)(b:Bool):Option Ja:=cr.map fun k=>if b=true then {k with AL:=upd k.AL n (some (Gm.fresh (Am-k.left))),left:=k.left-1}else k
theorem Hn.mtn(h:Hn n w AP ids Aw mt q ps cr):mt n=none:=by
 cases cr with
 |none=>exact h.TO n
 |some k =>
  have h:HG n w AP ids Aw mt q ps k:=h;rw[h.TO n];cases Aw n with
  |some f=>rfl
  |none =>
   cases e:k.AL n with
   |none=>rfl
   |some μ=>exact absurd (h.ci.lt n μ e) (Nat.lt_irrefl n)
theorem Hn.wG(h:Hn n w AP ids Aw mt q ps cr){C:Bo}{G:CZ}{i:Nat}(hG:AP i=some G)(hc:G.AY=some C):q.hand n=none:=by
 obtain⟨rfl,k,rfl,_⟩:=h.Wr hG (by rw[hc]; simp);have h:HG n w AP ids Aw mt q ps k:=h;refine h.YR n (.inl ?_);cases e:k.AL n with
 |none=>rfl
 |some μ=>exact absurd (h.ci.lt n μ e) (Nat.lt_irrefl n)
theorem Hn.gm(h:Hn n w AP ids Aw mt q ps cr){i:Nat}{G G1:CZ}{sp:Spec}(hG:AP i=some G)(e1:G1.AY=G.AY)(e2:G1.closed=G.closed)(e3:G1.kids=G.kids++ [sp])(e4:G1.cap=G.cap)(A2:G.cap=0∨G.kids.length<G.cap)
  (hl:(ids i).length=G.kids.length) (hf:Aw n=none) (hp: ∀j,ps' j= .HC→ps j= .HC) (h0:0<n) :
  Hn (n+1) w (upd AP i (some G1)) (upd ids i (ids i++ [n])) Aw (upd mt n (G.AY.map fun C=>⟨C,Gm.fresh G.kids.length⟩)) {q with mt:=fun j=>q.mt j∨(j=n∧G.AY≠none)} ps' (fc cr n G.AY.isSome):=by
 have bE:=h.mtn;cases hc:G.AY with
 |none =>
  have em:upd mt n none=mt:=by
   funext j;by_cases e:j=n
   ·subst e; rw[upd_same,bE]
   ·rw[upd_ne _ _ e]
  have eq:({q with mt:=fun j=>q.mt j∨(j=n∧(none:Option Bo)≠none)}:Lk)=q:=by
   obtain⟨a,b,c,d,e,f⟩:=q;simp
  show Hn (n+1) w (upd AP i (some G1)) (upd ids i (ids i++ [n])) Aw (upd mt n none) _ ps' (cr.map fun k=>k);rw[em,eq,show(cr.map fun k=>k)=cr by cases cr<;>rfl];have hk:=h.keep (grp':=upd AP i (some G1)) (ids':=upd ids i (ids i++ [n])) (fly':=Aw) (ps':=ps') (w':=w) (fun _ _ h=>h) (fun _ _=>rfl) (fun _ _=>rfl) (Qm hG (by rw[Ev hc,Ev (e1.trans hc)])) (fun⟨G0,g0,g1⟩=>by
   have:(0:Nat)≠i:=fun e=>by rw[e,hG]at g0; cases g0; exact g1 hc
   rw[upd_ne _ _ this]) (fun _ _=>rfl) hp
  cases cr with
  |none=>exact hk
  |some k =>
   have hk:HG n w _ _ _ _ _ _ k:=hk;exact⟨hk.ci.grow,hk.g0,hk.no,hk.JU,hk.mem,hk.TO,hk.bI,hk.YR,hk.qm,hk.qK,hk.qB,hk.qP,hk.qa,hk.Di⟩
 |some C =>
  obtain⟨rfl,k,rfl,hC,Dq,hk,bG⟩:=h.Wr hG (by rw[hc]; simp);have h:HG n w AP ids Aw mt q ps k:=h;rw[hc]at hC;cases hC;obtain⟨l,Tn⟩: ∃l,k.left=l+1:=⟨k.left-1,by rw[bG]at A2; unfold Am at A2 hk; omega⟩;have htk:Am-k.left=G.kids.length:=by omega
  have bD:k.AL n=none:=by
   cases e:k.AL n with
   |none=>rfl
   |some μ=>exact absurd (h.ci.lt n μ e) (Nat.lt_irrefl n)
  have old: ∀{j:Nat} {μ:Ct},upd k.AL n (some (Gm.fresh (Am-k.left))) j=some μ→(j=n∧μ=Gm.fresh (Am-k.left))∨(j≠n∧k.AL j=some μ):=by
   intro j μ hj;by_cases e:j=n
   ·subst e; rw[upd_same]at hj; cases hj; exact .inl ⟨rfl,rfl⟩
   ·rw[upd_ne _ _ e]at hj; exact .inr ⟨e,hj⟩
  have ne: ∀{j:Nat} {μ:Ct},k.AL j=some μ→upd k.AL n (some (Gm.fresh (Am-k.left))) j=some μ:=fun hj=>by
   rw[upd_ne _ _ fun e=>by rw[e,bD]at hj; cases hj]; exact hj
  have Zp:=h.ci;rw[Tn]at Zp;show HG (n+1) w (upd AP 0 (some G1)) (upd ids 0 (ids 0++ [n])) Aw (upd mt n (some ⟨k.C,Gm.fresh G.kids.length⟩)) {q with mt:=fun j=>q.mt j∨(j=n∧some k.C≠none)} ps' {k with AL:=upd k.AL n (some (Gm.fresh (Am-k.left))),left:=k.left-1};refine⟨?_, ?_,fun p hp=> ?_,fun τ j hj=> ?_,fun j μ hj=> ?_,fun j=> ?_,fun j f μ Oy hj=> ?_,fun j hj=> ?_,fun j=> ?_,h.qK,h.qB,fun b=> ?_,h.qa,fun j e=>h.Di j (hp j e)⟩
  ·have:=Zp.join;show CI k.C (n+1) (upd k.AL n (some (Gm.fresh (Am-k.left)))) (k.left-1) k.m k.s k.σ w;rw[show k.left-1=l by omega,Tn];exact this
  ·have hv:=h.g0;show Fy (upd AP 0 (some G1)) 0=_;unfold Fy at hv ⊢;rw[upd_same];show G1.cv=_;rw[T0 (e1.trans hc),e2,e3,e4,Dq,bG];simp only[List.length_append,List.length_singleton]
   congr 4
   show _=Am-(k.left-1);omega
  ·unfold Fy;rw[upd_ne _ _ hp]; exact h.no p hp
  ·rw[upd_same]at hj;rcases Nat.lt_or_ge τ (ids 0).length with e|e
   ·rw[List.getElem?_append_left e]at hj;obtain⟨μ,h1,h2⟩:=h.JU τ j hj;exact⟨μ,ne h1,h2⟩
   ·rw[List.getElem?_append_right e]at hj;have:τ=(ids 0).length:=by
     have:=(DU.1 hj).1;simp at this; omega
    subst this;simp at hj; subst hj;exact⟨_,upd_same _ _ _,by show Am-k.left=_; omega⟩
  ·rw[upd_same];rcases old hj with⟨rfl,_⟩|⟨_,e⟩
   ·simp
   ·simp[h.mem j μ e]
  ·by_cases e:j=n
   ·subst e;rw[upd_same,hf];show some _=Option.map _ (upd k.AL j _ j);rw[upd_same,htk]; rfl
   ·rw[upd_ne _ _ e,h.TO j];show _=match Aw j with|none=>(upd k.AL n _ j).map _|some _=>none
    rw[upd_ne _ _ e]
    try (cases Aw j<;>rfl)
  ·rcases old hj with⟨rfl,_⟩|⟨_,e⟩
   ·rw[hf]at Oy; cases Oy
   ·exact h.bI j f μ Oy e
  ·by_cases e:j=n
   ·subst e; exact h.YR j (.inl bD)
   ·refine h.YR j (hj.imp (fun x=> ?_) id);have x:upd k.AL n (some (Gm.fresh (Am-k.left))) j=none:=x
    rwa [upd_ne _ _ e]at x
  ·show q.mt j∨(j=n∧_)↔j=0∨upd k.AL n (some (Gm.fresh (Am-k.left))) j≠none;by_cases e:j=n
   ·subst e; rw[upd_same]; simp
   ·rw[upd_ne _ _ e,h.qm j]; simp[e]
  ·rw[show({q with mt:=fun j=>q.mt j∨(j=n∧some k.C≠none)}:Lk).P b=q.P b from rfl,h.qP b];refine and_congr Iff.rfl ⟨fun hh j μ wa hj=> ?_,fun hh j μ wa hj=>hh j μ wa (ne hj)⟩;rcases old hj with⟨_,rfl⟩|⟨_,e⟩
   ·simp[Gm.fresh]
   ·exact hh j μ wa e
end
theorem bN.share{sz:Nat}{M:Nat→Nat→Prop}{R R':Nat→Addr→Prop}{S T:Nat→Nat→Prop}{Q Q':Lk}(L:bN sz M R S T Q)(hR: ∀i a,R' i a→∃j,R j a)(hK: ∀a,Q'.K a↔Q.K a)(wM: ∀b,Q'.B b↔Q.B b)(hP: ∀b,Q'.P b↔Q.P b)(hB: ∀i a,R' i a→Q'.B a.block→Q'.on i∧a.spot=none):bN sz M R' S T Q' :=
 ⟨L.mm,L.ml,L.ms,fun i a ha=>(hR i a ha).elim fun j h=>L.rl j a h,fun i k a ha=>(hR i a ha).elim fun j h=>L.rm j k a h,fun i p a ha=>(hR i a ha).elim fun j h=>L.rs j p a h,L.ss,L.sl,L.ts,fun a x=>(wM _).2 (L.kb a ((hK a).1 x)),fun i a x ha=>(hR i a ha).elim fun j h=>L.kr j a ((hK a).1 x) h,fun i b x=>L.bm i b ((wM b).1 x),fun i a h ha=>hB i a ha h,fun p b x=>L.bs p b ((wM b).1 x),fun b x=>L.bl b ((wM b).1 x),fun i b x=>L.pm i b ((hP b).1 x),
  fun i a x ha=>(hR i a ha).elim fun j h=>L.pr j a ((hP _).1 x) h,fun p b x=>L.ps p b ((hP b).1 x),fun b x=>L.pl b ((hP b).1 x),fun b x y=>L.pb b ((hP b).1 x) ((wM b).1 y)⟩
theorem PC(f:Nat→Nat)(n i x y:Nat)(hi:i<n):sumTo (n+1) (upd (upd f i x) n y)+f i=sumTo n f+x+y:=by
 have h1:sumTo n (upd (upd f i x) n y)=sumTo n (upd f i x):=sumTo_congr fun a ha=>upd_ne _ _ (by omega);have h2:sumTo n (upd f i x)+f i=sumTo n f+x:=sumTo_upd f x (fun x=>x) hi;simp only[sumTo,h1,upd_same];omega
section
variable{P:Program}{ty:TypeId}{Post:Value→World→Prop}{gs:Array Goroutine}{w:World}{t:Trace}{γ:Gh}{i:Nat}{g g':Goroutine}{w':World}{es:Array Event}{sl:Option (Nat×Nat)}
theorem GI.spawn(h:GI P ty Post gs w t γ){child:Goroutine}(hi:gs[i]? =some g)(Aq:stepG P (i==0) g w= .spawn g' child w es){G:CZ}{Je:Option (Nat×Lz)}{sp:Spec}{Mi:Nat→Prop}{Ri:Addr→Prop}{n₁ n₂:Nat}
  (hn:n₁+n₂<γ.nn i) (hd:γ.d i=0) (hG:γ.AP i=some G) (Dq:G.closed=false) (A2:G.cap=0∨G.kids.length<G.cap)
  (Az:G.wg=none∧Je=none∨∃a mx,G.wg=some (a,.pend mx)∧Je=some (a,.idle mx)) (hg:Ca (γ.cx i) Mi Ri w w) (hf:BQ (γ.cx i) w w es) (N5:deafBehind 0 es=0)
  (k₁:W P ty Post (i==0) n₁ {γ.cx i with M:=Mi,R:=Ri,AP:=some {G with kids:=G.kids++ [sp],wg:=Je}} g' w)
  (k₂:W P ty Post false n₂ {M:=fun _=>False,R:=(γ.cx i).TZ Ri,d:=0,send:=some (G.ch,sp),dec:=G.wg.map fun x=>(x.1,.cnt),AP:=none,AL:=G.AY.map fun C=>⟨C,Gm.fresh G.kids.length⟩} child w):Qz P ty Post gs w t γ sl i:=by
 have Ac:i<gs.size:=(A6.1 hi).1;obtain⟨q1,q2,q3,q4,q5,q6,q7,q8⟩:=h.li.gn i G hG;obtain⟨f1,f2,f3,f4,f5,f6,f7⟩:=h.li.fresh;have bA:gs.size≠i:=by omega
 have nI:Je.map (·.1)=G.wg.map (·.1):=by
  rcases Az with⟨e1,e2⟩|⟨a,mx,e1,e2⟩<;>rw[e1,e2]<;>rfl
 generalize fE:({G with kids:=G.kids++ [sp],wg:=Je}:CZ)=G1 at k₁;have c1:G1.ch=G.ch:=by subst fE; rfl
 have c4:G1.wg.map (·.1)=G.wg.map (·.1):=by subst fE; exact nI
 have c5:G1.AY=G.AY:=by subst fE; rfl
 have hS:=Ul (G':=G1) hG c1 c4 c5;have nf:γ.Aw i=none:=by
  cases e:γ.Aw i with
  |none=>rfl
  |some f =>
   obtain⟨_,_,_,_,_,_,_,_,_,hg⟩:=h.li.K4 e;rw[hG]at hg; cases hg
 let γ':Gh:={M:=upd (upd γ.M i Mi) gs.size (fun _=>False),R:=upd (upd γ.R i Ri) gs.size ((γ.cx i).TZ Ri),d:=upd γ.d gs.size 0,snd:=upd γ.snd gs.size (some (G.ch,sp)),dec:=upd γ.dec gs.size (G.wg.map fun x=>(x.1,.cnt)),AP:=upd γ.AP i (some G1),par:=upd γ.par gs.size i,acc:=γ.acc,ids:=upd γ.ids i (γ.ids i++ [gs.size]),Aw:=γ.Aw,nn:=upd (upd γ.nn i n₁) gs.size n₂,ps:=upd (upd γ.ps i .run) gs.size .run,q:={γ.q with mt:=fun j=>γ.q.mt j∨(j=gs.size∧G.AY≠none)},mt:=upd γ.mt gs.size (G.AY.map fun C=>⟨C,Gm.fresh G.kids.length⟩),cr:=fc γ.cr gs.size G.AY.isSome}
 refine⟨_,_,_,runT_crowd_spawn hi Aq, ?_,(gs.setIfInBounds i g').push child,w,sl,γ',rfl, ?_,rfl⟩
 ·refine .left _ _ ?_;have:=PC γ.nn gs.size i n₁ n₂ Ac;simp only[Array.size_push,Array.size_setIfInBounds];show sumTo (gs.size+1) (upd (upd γ.nn i n₁) gs.size n₂)<_;omega
 have Bp:((gs.setIfInBounds i g').push child).size=gs.size+1:=by simp
 have ib:Links (gs.size+1) γ'.snd γ'.dec γ'.AP γ'.par γ'.acc γ'.ids γ'.Aw:=by
  have:=h.li.spawn (sp:=sp) hG Dq A2 nI;rw[fE]at this;exact this
 have eL:bN w.heap.size (upd γ.M i Mi) (upd γ.R i Ri) (Cj γ.AP) (Dh γ.AP γ.dec) γ.q:=h.BX.SY (AN _) hg.mine hg.ro (fun _ _=>id) (fun j b hb=>⟨hb,h.BX.ts j b hb⟩);have KA:((MemOp.ofEvents i g.frame.fn g.frame.place es).push {g:=i,fn:=g.frame.fn,pos:=g.frame.place,act:= .go gs.size} |>.push {g:=gs.size,fn:=child.frame.fn,pos:=g.frame.place,act:= .start})=MemOp.ofEvents i g.frame.fn g.frame.place es++ #[{g:=i,fn:=g.frame.fn,pos:=g.frame.place,act:= .go gs.size},{g:=gs.size,fn:=child.frame.fn,pos:=g.frame.place,act:= .start}]:=by
  rw[Array.push_eq_append,Array.push_eq_append,Array.append_assoc]; rfl
 have Mc: ∀op∈MemOp.ofEvents i g.frame.fn g.frame.place es,op.g=i∧∀x,op.act.touch?=some x→jS (fun b=>γ.M i b∨(w.heap.size≤b∧b<w.heap.size)) (γ.R i) (Cj γ.AP) (Dh γ.AP γ.dec) γ.q i x:=fun op ho=>by
  obtain⟨h1,e,he,h2⟩:=Dd ho;exact⟨h1,fun x hx=>(hf.2 e he x (h2 ▸hx)).imp id fun y=> .inl y⟩
 have dfi:Deaf (t++MemOp.ofEvents i g.frame.fn g.frame.place es) i=0:=by rw[Deaf_own,h.df i Ac,hd]; exact N5
 have cxo: ∀{j:Nat},j≠i→j≠gs.size→γ'.cx j=γ.cx j:=fun e1 e2=>by simp[γ',Gh.cx,upd_ne _ _ e1,upd_ne _ _ e2]
 have vz:Hn (gs.size+1) w γ'.AP γ'.ids γ'.Aw γ'.mt γ'.q γ'.ps γ'.cr:=h.cr.gm (sp:=sp) hG c5 (by subst fE; rfl) (by subst fE; rfl) (by subst fE; rfl) A2 q3 f4 (fun j e=>by
  have e:upd (upd γ.ps i .run) gs.size .run j= .HC:=e;by_cases e1:j=gs.size
  ·subst e1; rw[upd_same]at e; cases e
  ·by_cases e2:j=i
   ·subst e2; rw[upd_ne _ _ e1,upd_same]at e; cases e
   ·rwa [upd_ne _ _ e1,upd_ne _ _ e2]at e) h.li.pos
 refine⟨?_, ?_, ?_,by rw[Bp]; exact vz,by
  rw[KA];refine FW h.W9 fun op A5 a=> ?_;rcases Ea.1 A5 with A5|A5
  ·exact GJ hf.1 op A5 a
  ·simp only[List.mem_toArray,AZ,List.not_mem_nil,or_false]at A5;rcases A5 with rfl|rfl<;>simp, ?_, ?_, ?_, ?_, ?_, ?_, ?_⟩
 ·rw[Bp]; exact ib
 ·
  have L1:=eL.share (R':=γ'.R) (fun j a ha=>by
   by_cases e:j=gs.size
   ·subst e;exact⟨i,by rw[upd_same]; simp only[γ',upd_same]at ha; exact ha.1⟩
   ·exact⟨j,by simpa only[γ',upd_ne _ _ e]using ha⟩) (Q':=γ'.q) (fun _=>Iff.rfl) (fun _=>Iff.rfl) (fun _=>Iff.rfl) (fun j a ha hB=>by
   have hB:γ.q.B a.block:=hB;by_cases e:j=gs.size
   ·subst e;simp only[γ',upd_same]at ha;obtain⟨o1,o2⟩:=eL.br i a hB (by rw[upd_same]; exact ha.1);cases hc:G.AY with
    |some C=>exact⟨⟨.inr ⟨rfl,by rw[hc]; simp⟩,h.cr.wG hG hc⟩,o2⟩
    |none =>
     exfalso;rcases h.cr.OV hB o1 with⟨e,G0,e1,e2⟩|⟨x,e1,e2⟩
     ·subst e;rw[hG]at e1; cases e1; exact e2 hc
     ·exact ha.2 x e1 e2
   ·have ha:upd γ.R i Ri j a:=by simpa only[γ',upd_ne _ _ e]using ha
    obtain⟨o1,o2⟩:=eL.br j a hB ha;exact⟨⟨.inl o1.1,o1.2⟩,o2⟩)
  have up: ∀{j b:Nat},γ'.M j b→upd γ.M i Mi j b:=by
   intro j b hb;by_cases e:j=gs.size
   ·subst e; simp only[γ',upd_same]at hb
   ·simpa only[γ',upd_ne _ _ e]using hb
  exact⟨fun j k b hj hk=>L1.mm j k b (up hj) (up hk),fun j b hj=>L1.ml j b (up hj),fun j p b hj hp=>L1.ms j p b (up hj) ((hS p b).1 hp),L1.rl,fun j k a ha hk=>L1.rm j k a ha (up hk),fun j p a ha hp=>L1.rs j p a ha ((hS p _).1 hp),
   fun p q b hp hq=>L1.ss p q b ((hS p b).1 hp) ((hS q b).1 hq),fun p b hp=>L1.sl p b ((hS p b).1 hp),fun j b hb=>by
    rcases hb with hb|⟨φ,hb⟩
    ·exact⟨j,hb⟩
    ·obtain⟨_,_,_,G',ψ,r4,r5⟩:=ib.HE j b φ hb;exact⟨_,G',r4,.inr ⟨ψ,r5⟩⟩,
   L1.kb,L1.kr,fun j b hB hj=>L1.bm j b hB (up hj),L1.br,fun p b hB hp=>L1.bs p b hB ((hS p b).1 hp),L1.bl,fun j b hP hj=>L1.pm j b hP (up hj),L1.pr,fun p b hP hp=>L1.ps p b hP ((hS p b).1 hp),L1.pl,L1.pb⟩
 ·rw[Bp];show TI (gs.size+1) w.heap.size γ'.M γ'.R (Cj γ'.AP) (Dh γ'.AP γ'.dec) γ'.q γ.acc (t++_);rw[KA, ← Array.append_assoc];have T1:=(h.ti.step h.BX Ac (AN _) (.inl q2) Mc).freeze (M':=γ'.M) (R':=upd γ.R i Ri) (S':=Cj γ.AP) (T':=Dh γ.AP γ.dec) (fun j b hb=>by
   by_cases e:j=gs.size
   ·subst e; simp only[γ',upd_same]at hb
   ·have hb:upd γ.M i Mi j b:=by simpa only[γ',upd_ne _ _ e]using hb
    by_cases e':j=i
    ·subst e';rw[upd_same]at hb;exact(hg.mine b hb).2.imp id fun x=>⟨rfl,x,(hg.mine b hb).1⟩
    ·rw[upd_ne _ _ e']at hb; exact .inl hb) (fun j a ha=>by
   by_cases e':j=i
   ·subst e';rw[upd_same]at ha;rcases hg.ro a ha with h1|⟨h1,h2,_⟩
    ·exact .inl h1
    ·exact .inr (h2.imp id fun x=>⟨rfl,x,h1⟩)
   ·rw[upd_ne _ _ e']at ha; exact .inl ha) (fun _ _ _ a b=> .inl ⟨a,b⟩)
  have T2:=T1.spawn (p:=i) Ac (x:={g:=i,fn:=g.frame.fn,pos:=g.frame.place,act:= .go gs.size}) (y:={g:=gs.size,fn:=child.frame.fn,pos:=g.frame.place,act:= .start}) ⟨rfl,rfl⟩ ⟨rfl,rfl⟩ dfi (R':=γ'.R) (T':=Dh γ'.AP γ'.dec) (fun b hb=>by simp only[γ',upd_same]at hb) (fun j a ha=>by
   by_cases e:j=gs.size
   ·subst e;exact .inr ⟨rfl,by rw[upd_same]; simp only[γ',upd_same]at ha; exact ha.1⟩
   ·exact .inl (by simpa only[γ',upd_ne _ _ e]using ha)) (fun j b hb=>by
   rcases hb with hb|⟨φ,hb⟩
   ·exact .inl (.inl ((hS j b).1 hb))
   ·by_cases e:j=gs.size
    ·subst e;simp only[γ',upd_same]at hb;obtain⟨x,hx,j8⟩:=CL.1 hb;simp only[AR]at j8;refine .inr ⟨rfl,.inl ⟨G,hG,.inr ⟨x.2,by rw[hx, ← j8.1]⟩⟩⟩
    ·exact .inl (.inr ⟨φ,by simpa only[γ',upd_ne _ _ e]using hb⟩)) (mt':=γ'.q.mt) (fun j hj=>hj.imp id fun⟨e1,e2⟩=>⟨e1,by
   obtain⟨e3,k,e4,_⟩:=h.cr.Wr hG e2;have hc:=h.cr;rw[e4]at hc;have hc:HG gs.size w γ.AP γ.ids γ.Aw γ.mt γ.q γ.ps k:=hc;exact(hc.qm i).2 (.inl e3)⟩) (fun _=> .inl)
  exact T2.freeze (fun _ _=>id) (fun _ _=> .inl) (fun j b p a1 a2=> .inl ⟨a1,(hS p b).1 a2⟩)
 ·intro j b hb;rw[Bp];by_cases e:j=gs.size
  ·omega
  ·have hb:upd γ.M i Mi j b:=by simpa only[γ',upd_ne _ _ e]using hb
   by_cases e':j=i
   ·omega
   ·rw[upd_ne _ _ e']at hb; have:=h.mz j b hb; omega
 ·intro j hj;rw[Bp]at hj;rw[KA, ← Array.append_assoc];have e1: ∀(u:Trace) (x y:MemOp),u++ #[x,y]=(u++ #[x])++ #[y]:=fun u x y=>by apply Array.ext'; simp
  rw[e1,Deaf_push,Deaf_push];simp only[deafStep];by_cases e:j=gs.size
  ·subst e;have:Deaf (t++MemOp.ofEvents i g.frame.fn g.frame.place es) gs.size=0:=Deaf_absent fun k op hk e=>by
    rcases getElem?_append_cases hk with⟨_,CP⟩|⟨_,hku⟩
    ·have:=h.ti.gs k op CP; omega
    ·rw[(Dd hku).1]at e; omega
   rw[this]; exact(upd_same _ _ _).symm
  ·have:γ'.d j=γ.d j:=upd_ne _ _ e;rw[this];by_cases e':j=i
   ·subst e'; rw[dfi,hd]
   ·rw[Deaf_other t (fun x=>e' x.symm) _ (fun op ho=>(Dd ho).1),h.df j (by omega)]
 ·intro j f hf;obtain⟨G',h1,h2,h3,h4⟩:=h.ft j f hf;have hjn:j≠gs.size:=fun e=>by rw[e]at hf; rw[show γ'.Aw=γ.Aw from rfl,f4]at hf; cases hf
  have vg:j≠i:=fun e=>by rw[e]at hf; rw[show γ'.Aw=γ.Aw from rfl,nf]at hf; cases hf
  have Tj:γ'.par j=γ.par j:=upd_ne _ _ hjn;have hR:γ'.R j=γ.R j:=by simp only[γ',upd_ne _ _ hjn,upd_ne _ _ vg]
  rw[Tj,hR];refine⟨if γ.par j=i then G1 else G', ?_, ?_,h3,h4⟩
  ·by_cases e:γ.par j=i
   ·rw[AD e,e]; exact upd_same _ _ _
   ·rw[AA e]; exact(upd_ne _ _ e).trans h1
  ·have ec:Q3 G' (if γ.par j=i then G1 else G'):=by
    by_cases e:γ.par j=i
    ·rw[AD e];rw[e,hG]at h1; cases h1; exact⟨by rw[c5],c1,c4⟩
    ·rw[AA e]; exact .refl _
   rw[KA];refine(h.rZ q2 nf (sz':=w.heap.size) (fun op ho x hx=> ?_) hf h2 h3).da ec.1 ec.2.1 ec.2.2;rcases Ea.1 ho with ho|ho
   ·exact⟨(Mc op ho).1,(Mc op ho).2 x hx⟩
   ·simp only[List.mem_toArray,AZ,List.not_mem_nil,or_false]at ho;rcases ho with rfl|rfl<;>simp[MemAct.touch?]at hx
 ·intro p G' Ar I2;by_cases e:p=i
  ·subst e;have:G'=G1:=by
    have h0:γ'.AP p=some G1:=upd_same _ _ _;rw[h0]at Ar; cases Ar; rfl
   subst this;obtain⟨buf,s,r,hc⟩:=h.ch p G hG (c5 ▸I2);refine⟨buf,s,r, ?_, ?_,hc.sum, ?_,fun q v hq=> ?_⟩
   ·subst fE; exact hc.at_
   ·subst fE; exact hc.un
   ·show(upd γ.ids p (γ.ids p++ [gs.size]) p).countP (Cw γ.Aw)=buf.size;rw[upd_same,List.countP_append,hc.cnt];simp[Cw,f4]
   ·obtain⟨j,f,r1,r2⟩:=hc.msg q v hq;exact⟨j,f,by show j∈upd γ.ids p (γ.ids p++ [gs.size]) p; rw[upd_same]; simp[r1],r2⟩
  ·have Cz:γ.AP p=some G':=by simpa only[γ',upd_ne _ _ e]using Ar
   obtain⟨buf,s,r,hc⟩:=h.ch p G' Cz I2;have ei:γ'.ids p=γ.ids p:=upd_ne _ _ e;rw[ei];exact⟨buf,s,r,hc⟩
 ·intro p G' a φ Ar ha;rw[Bp];have ec: ∀b,C8 (gs.size+1) γ'.dec b=C8 gs.size γ.dec b+cw b (G.wg.map fun x=>(x.1,IE.cnt)):=fun b=>by
   show sumTo gs.size (fun j=>cw b (γ'.dec j))+cw b (γ'.dec gs.size)=_;rw[sumTo_congr (g:=fun j=>cw b (γ.dec j)) fun j hj=>by simp only[γ',upd_ne _ _ (show j≠gs.size by omega)]];simp only[γ',upd_same,C8]
  have nl: ∀{b:Nat},GR γ.dec b→GR γ'.dec b:=by
   intro b hb j φ e;by_cases ej:j=gs.size
   ·subst ej;simp only[γ',upd_same]at e;obtain⟨x,hx,j8⟩:=CL.1 e;simp only[AR]at j8;exact j8.2.symm
   ·exact hb j φ (by simpa only[γ',upd_ne _ _ ej]using e)
  by_cases e:p=i
  ·subst e;have:G'=G1:=by
    have h0:γ'.AP p=some G1:=upd_same _ _ _;rw[h0]at Ar; cases Ar; rfl
   subst this;rcases Az with⟨e1,e2⟩|⟨a',mx,e1,e2⟩
   ·subst fE; simp only at ha; rw[e2]at ha; cases ha
   ·subst fE;simp only at ha;rw[e2]at ha;simp only[AE,AR]at ha;obtain⟨rfl,rfl⟩:=ha;obtain⟨v1,v2,v3,v4⟩:=h.wg p G a' _ hG e1;rw[ec,e1];simp only[Bc,cw,Ad];exact⟨v1,v2,nl v3,by simpa using v4⟩
  ·have Cz:γ.AP p=some G':=by simpa only[γ',upd_ne _ _ e]using Ar
   have ET:p≠gs.size:=fun e'=>by rw[e',f3]at Cz; cases Cz
   have BK:cw a (G.wg.map fun x=>(x.1,IE.cnt))=0:=by
    cases e1:G.wg with
    |none=>rfl
    |some x =>
     have:x.1≠a:=fun e2=>e (h.BX.ss p i a ⟨G',Cz,.inr ⟨φ,ha⟩⟩ ⟨G,hG,.inr ⟨x.2,by rw[e1, ← e2]⟩⟩);simp[cw,this]
   have EJ:γ'.ps p=γ.ps p:=by simp only[γ',upd_ne _ _ e,upd_ne _ _ ET]
   rw[ec,BK,EJ];refine(h.wg p G' a φ Cz ha).dec fun j ψ=> ?_;by_cases ej:j=gs.size
   ·subst ej;simp only[γ',upd_same,f2];constructor
    ·intro e3;obtain⟨x,hx,j8⟩:=CL.1 e3;simp only[AR]at j8;rw[hx]at BK;simp[cw,j8.1]at BK
    ·intro e3; cases e3
   ·simp only[γ',upd_ne _ _ ej]
 ·intro j gj hj;rw[Array.getElem?_push]at hj;by_cases e:j=gs.size
  ·subst e;rw[AD (by simp)]at hj;cases hj;have e0:(gs.size==0)=false:=by
    have:gs.size≠0:=by omega
    simpa using this
   show KD P ty Post (gs.size==0) (upd (upd γ.nn i n₁) gs.size n₂ gs.size) _ _ _ (upd (upd γ.ps i .run) gs.size .run gs.size);rw[upd_same,upd_same,e0];refine .run ?_;have:γ'.cx gs.size={M:=fun _=>False,R:=(γ.cx i).TZ Ri,d:=0,send:=some (G.ch,sp),dec:=G.wg.map fun x=>(x.1,.cnt),AP:=none,AL:=G.AY.map fun C=>⟨C,Gm.fresh G.kids.length⟩}:=by simp[γ',Gh.cx,upd_same,upd_ne _ _ bA,f3]
   rw[this]; exact k₂
  ·rw[AA (by simpa using e)]at hj;by_cases e':j=i
   ·subst e';rw[Bs Ac]at hj;cases hj;show KD P ty Post (j==0) (upd (upd γ.nn j n₁) gs.size n₂ j) _ _ _ (upd (upd γ.ps j .run) gs.size .run j);rw[upd_ne _ _ e,upd_ne _ _ e,upd_same,upd_same];refine .run ?_;have:γ'.cx j={γ.cx j with M:=Mi,R:=Ri,AP:=some G1}:=by simp[γ',Gh.cx,upd_same,upd_ne _ _ e]
    rw[this]; exact k₁
   ·rw[Bb (fun x=>e' x.symm)]at hj;show KD P ty Post (j==0) (upd (upd γ.nn i n₁) gs.size n₂ j) _ _ _ (upd (upd γ.ps i .run) gs.size .run j);rw[upd_ne _ _ e,upd_ne _ _ e,upd_ne _ _ e',upd_ne _ _ e',cxo e' e];exact h.Ms j gj hj
 ·intro p hp j hj hs;have aux: ∀{q:Nat} {x:PS},γ'.ps q=x→x≠ .run→γ.ps q=x∧q≠i∧q≠gs.size:=by
   intro q x hq hx;by_cases e:q=gs.size
   ·subst e; simp only[γ',upd_same]at hq; exact absurd hq.symm hx
   ·by_cases e':q=i
    ·subst e'; simp only[γ',upd_ne _ _ e,upd_same]at hq; exact absurd hq.symm hx
    ·simp only[γ',upd_ne _ _ e,upd_ne _ _ e']at hq; exact⟨hq,e',e⟩
  obtain⟨a1,a2,a3⟩:=aux hp (by simp);have:j∈γ.ids p:=by simpa only[γ',upd_ne _ _ a2]using hj
  exact h.nr p a1 j this (aux hs (by simp)).1
theorem GI.block(h:GI P ty Post gs w t γ)(hi:gs[i]? =some g)(EJ:γ.ps i= .run)(Aq:stepG P (i==0) g w= .go {g with status:= .blocked} w #[]){G:CZ}{a:Nat}(hG:γ.AP i=some G)(Az:G.wg=some (a,.reg))(ho:g.offers=none)(hs:g.status= .running)
  (h0: ∀st sm,WgAt ty a w st sm→sm=0) (hW:W P ty Post (i==0) (γ.nn i) (γ.cx i) g w):Qz P ty Post gs w t γ sl i:=by
 have Ac:i<gs.size:=(A6.1 hi).1;have hw: ∀o,woken P g {g with status:= .blocked} w o=o:=fun o=>by unfold woken; simp
 have hm:(gs.map (woken P g {g with status:= .blocked} w)).setIfInBounds i {g with status:= .blocked}=gs.setIfInBounds i {g with status:= .blocked}:=by
  congr 1
  apply Array.ext_getElem?;intro k;rw[Array.getElem?_map];cases gs[k]? <;>simp[hw]
 have hr:=runT_crowd_go (sl:=sl) hi Aq;rw[hm]at hr;refine⟨_,_,_,hr, ?_,gs.setIfInBounds i {g with status:= .blocked},w,sl,{γ with ps:=upd γ.ps i .Di},rfl, ?_,rfl⟩
 ·have e:(gs.setIfInBounds i {g with status:= .blocked}).size=gs.size:=by simp
  rw[e];refine .right _ ?_;have:=sumTo_upd γ.ps PS.Di (fun x=>if x=PS.run then 1 else 0) Ac;simp only[EJ,Ad,reduceCtorEq,BS]at this;show sumTo gs.size (fun a=>if upd γ.ps i PS.Di a=PS.run then 1 else 0)<sumTo gs.size (fun a=>if γ.ps a=PS.run then 1 else 0);omega
 have Bp:(gs.setIfInBounds i {g with status:= .blocked}).size=gs.size:=by simp
 rw[ofEvents_none,DF];refine⟨by rw[Bp]; exact h.li,h.BX,by rw[Bp]; exact h.ti,by rw[Bp]; exact h.cr.keep (fun _ _ h=>h) (fun _ _=>rfl) (fun _ _=>rfl) (fun _=>rfl) (fun _=>rfl) (fun _ _=>rfl) (fun j e=>by
  have e:upd γ.ps i .Di j= .HC:=e;by_cases e':j=i
  ·subst e'; rw[upd_same]at e; cases e
  ·rwa [upd_ne _ _ e']at e),h.W9,fun j b hb=>by rw[Bp]; exact h.mz j b hb,fun j hj=>h.df j (by rw[Bp]at hj; exact hj),h.ft,h.ch,fun p G' a' φ Ar Cx=> ?_,fun j gj hj=> ?_,fun p hp j hj R5=> ?_⟩
 ·rw[Bp];by_cases e:p=i
  ·subst e;have Cz:γ.AP p=some G':=Ar;rw[hG]at Cz; cases Cz;rw[Az]at Cx;simp only[AE,AR]at Cx;obtain⟨rfl,rfl⟩:=Cx;have hv:=h.wg p G a _ hG Az;refine⟨hv.1, ?_⟩;rcases hv.2 with h1|h1|⟨_,_,h1,_⟩
   ·exact .inl h1
   ·exact .inr (.inl h1)
   ·exact absurd (h0 _ _ h1) (by omega)
  ·show Kk ty _ _ (upd γ.ps i .Di p) _ _ _;rw[upd_ne _ _ e]; exact h.wg p G' a' φ Ar Cx
 ·by_cases e:j=i
  ·subst e;rw[Bs Ac]at hj;cases hj;show KD P ty Post (j==0) (γ.nn j) (γ.cx j) _ _ (upd γ.ps j .Di j);rw[upd_same];exact .Di hG Az rfl ho (by
    have:({({g with status:= .blocked}:Goroutine)with status:= .running}:Goroutine)=g:=by
     obtain⟨fr,cs,stt,dy,off⟩:=g;simp only at hs;subst hs;rfl
    rw[this]; exact hW)
  ·rw[Bb (fun x=>e x.symm)]at hj;show KD P ty Post (j==0) (γ.nn j) (γ.cx j) _ _ (upd γ.ps i .Di j);rw[upd_ne _ _ e];exact h.Ms j gj hj
 ·have aux: ∀{q:Nat} {x:PS},upd γ.ps i .Di q=x→x≠ .Di→γ.ps q=x:=by
   intro q x hq hx;by_cases e:q=i
   ·subst e; rw[upd_same]at hq; exact absurd hq.symm hx
   ·rwa [upd_ne _ _ e]at hq
  exact h.nr p (aux hp (by simp)) j hj (aux R5 (by simp))
end
end Go.Gw
namespace Go.Gw
open Go Go.Conc Go.ConcN
open Go.ConcR (KK wgBlock WgAt stA smA)
theorem TI.grow{n sz sz':Nat}{M:Nat→Nat→Prop}{R:Nat→Addr→Prop}{S T:Nat→Nat→Prop}{Q:Lk}{acc:Nat→Nat}{t:Trace}(h:TI n sz M R S T Q acc t)(hs:sz≤sz'):TI n sz' M R S T Q acc t :=
 {h with lt:=fun k x b hx hb=>AV (h.lt k x b hx hb) hs}
theorem Xq{g g':Goroutine}{cs cs':Array CommCase}{sh sh':CommShape}(h:parked g cs sh=parked g' cs' sh'):cs=cs'∧sh=sh'∧g.frame=g'.frame∧∀v,Conc.served g v=Conc.served g' v:=by
 obtain⟨a1,a2,a3,a4,a5⟩:=g;obtain⟨b1,b2,b3,b4,b5⟩:=g';simp only[parked,Goroutine.mk.injEq,AE,AR]at h;obtain⟨rfl,rfl,_,rfl,rfl,rfl⟩:=h;exact⟨rfl,rfl,rfl,fun v=>rfl⟩
section
variable{P:Program}{ty:TypeId}{Post:Value→World→Prop}{gs:Array Goroutine}{w:World}{t:Trace}{γ:Gh}{i:Nat}{g g':Goroutine}{w':World}{es:Array Event}{sl:Option (Nat×Nat)}
theorem GI.Hj(h:GI P ty Post gs w t γ){m:Nat}(hm:m<gs.size)(ha:γ.acc m=m)(hf:BQ (γ.cx m) w w es)(fn:FuncId)(pos:String) :
  TI gs.size w.heap.size γ.M γ.R (Cj γ.AP) (Dh γ.AP γ.dec) γ.q γ.acc (t++MemOp.ofEvents m fn pos es)∧
  (∀op∈MemOp.ofEvents m fn pos es,op.g=m∧∀x,op.act.touch?=some x→jS (fun b=>γ.M m b∨(w.heap.size≤b∧b<w.heap.size)) (γ.R m) (Cj γ.AP) (Dh γ.AP γ.dec) γ.q m x):=by
 have Mc: ∀op∈MemOp.ofEvents m fn pos es,op.g=m∧∀x,op.act.touch?=some x→jS (fun b=>γ.M m b∨(w.heap.size≤b∧b<w.heap.size)) (γ.R m) (Cj γ.AP) (Dh γ.AP γ.dec) γ.q m x:=fun op ho=>by
  obtain⟨h1,e,he,h2⟩:=Dd ho;exact⟨h1,fun x hx=>(hf.2 e he x (h2 ▸hx)).imp id fun y=> .inl y⟩
 exact⟨(h.ti.step h.BX hm (AN _) (.inl ha) Mc).freeze (fun _ _ hb=> .inl hb) (fun _ _=> .inl) (fun _ _ _ a b=> .inl ⟨a,b⟩),Mc⟩
theorem GI.meet(h:GI P ty Post gs w t γ){j p m:Nat}(hm:m=j∨m=p){sp:Spec}{G:CZ}{Rm:Addr→Prop}(hj:γ.snd j=some (G.ch,sp))(hp:γ.par j=p)(hG:γ.AP p=some G)(n8:γ.AP j=none)(xc:γ.mt j=none)(BW:G.AY=none)(A2:G.cap=0)
  (hdj:γ.d j=0) (hdp:γ.d p=0) (ID: ∀a,Rm a→a.block<w.heap.size∧(γ.R j a∨γ.M j a.block)) {fn:FuncId} {pos:String} (hf:BQ (γ.cx m) w w es) (N5:deafBehind 0 es=0)
  {wQ:Array Goroutine} (Bp:wQ.size=gs.size) {gj gp:Goroutine} (h1:wQ[j]? =some gj) (h2:wQ[p]? =some gp) (h3: ∀q,q≠j→q≠p→wQ[q]? =gs[q]?) (fr:Fr w w' (fun b=>b=G.ch)) {s r:Nat}
  (Hh:w.heap[G.ch]? =some (.chan 0 #[] false s r false)) (hch':w'.heap[G.ch]? =some (.chan 0 #[] false (s+1) (r+1) false)) {x1 x2 x3 x4:MemOp} (e1:x1.g=j∧x1.act= .send G.ch s) (e2:x2.g=p∧x2.act= .recv G.ch r 0) (e3:x3.g=j∧x3.act= .sendDone G.ch s) (e4:x4.g=p∧x4.act= .recvDone G.ch r)
  {nj np:Nat} (kj:W P ty Post false nj {γ.cx j with M:=fun _=>False,R:=fun a=>γ.R j a∨Rm a,send:=none} gj w)
  (kp: ∀k,G.kids[k]? =some sp→W P ty Post (p==0) np {γ.cx p with R:=fun a=>γ.R p a∨Rm a,AP:=some (G.drop k)} gp w') :
  ∃γ',GI P ty Post wQ w' (t++(MemOp.ofEvents m fn pos es++ #[x1,x2,x3,x4])) γ'∧γ'.nn=upd (upd γ.nn j nj) p np∧γ'.ps=upd (upd γ.ps j .run) p .run:=by
 subst hp;obtain⟨k,G',o1,o2,o3,o4,o5,o6,o7,o8,o9⟩:=h.li.NB hj;rw[hG]at o2; cases o2;obtain⟨q1,q2,q3,q4,q5,q6,q7,q8⟩:=h.li.gn _ G hG;have nW:γ.par j≠j:=by omega
 have wgn:G.wg=none:=by
  cases e:G.wg with
  |none=>rfl
  |some x=>have:=q6.1 (by rw[e]; rfl); omega
 have A0:γ.dec j=none:=by rw[o9,wgn]; rfl
 have nfp:γ.Aw (γ.par j)=none:=by
  cases e:γ.Aw (γ.par j)with
  |none=>rfl
  |some f =>
   obtain⟨_,_,_,_,_,_,_,_,_,hg⟩:=h.li.K4 e;rw[hG]at hg; cases hg
 have eJ:m<gs.size:=by rcases hm with rfl|rfl<;>assumption
 have hma:γ.acc m=m:=by rcases hm with rfl|rfl<;>assumption
 have hmf:γ.Aw m=none:=by rcases hm with rfl|rfl<;>assumption
 have ns:γ.d m=0:=by rcases hm with rfl|rfl<;>assumption
 obtain⟨T1,Mc⟩:=h.Hj eJ hma hf fn pos;have D1: ∀q,q<gs.size→γ.d q=0→Deaf (t++MemOp.ofEvents m fn pos es) q=0:=fun q hq vN=>by
  by_cases e:q=m
  ·subst e; rw[Deaf_own,h.df q hq,vN]; exact N5
  ·rw[Deaf_other t (fun x=>e x.symm) _ (fun op ho=>(Dd ho).1),h.df q hq,vN]
 have srq:s=r:=by
  obtain⟨buf,s',r',hc⟩:=h.ch _ G hG BW;have:=hc.at_;rw[Hh]at this;simp only[AE,Obj.chan.injEq]at this;have h1:=hc.un A2;have h2:=hc.sum;omega
 subst srq;have F1:=FT.new T1 e1 (D1 j o6 hdj) (Rm:=Rm) (fun a ha=>(ID a ha).2);have T2:=(T1.freeze (M':=upd γ.M j fun _=>False) (R':=upd γ.R j fun a=>γ.R j a∨Rm a) (S':=Cj γ.AP) (T':=Dh γ.AP γ.dec) (fun q b hb=>by
  by_cases e:q=j
  ·subst e; rw[upd_same]at hb; exact hb.elim
  ·rw[upd_ne _ _ e]at hb; exact hb) (fun q a ha=>by
  by_cases e:q=j
  ·subst e; rw[upd_same]at ha; exact ha.elim .inl fun x=>(ID a x).2
  ·rw[upd_ne _ _ e]at ha; exact .inl ha) (fun _ _ _ a b=> .inl ⟨a,b⟩)).quiet (u:= #[x1]) o6 (by intro op ho; simp at ho; subst ho; exact⟨e1.1,by rw[e1.2]; rfl⟩)
 have nt: ∀{u:Trace} {x:MemOp},x.act.touch?=none→∀op∈(#[x]:Trace),op.act.touch?=none:=fun hx op ho=>by simp at ho; subst ho; exact hx
 have fq: ∀{acc:Nat→Nat} {u:Trace} {x:MemOp} {j' ch s' q:Nat} {R':Addr→Prop},x.act.touch?=none→FT acc u j' ch s' q R'→FT acc (u++ #[x]) j' ch s' q R':=fun hx F=>F.app (fun k g hk hg _ hc=>by
  obtain⟨y,hy,_⟩:=hc;obtain⟨op,ho,eF⟩:=touch_of hy;rcases getElem?_append_cases ho with⟨CP,_⟩|⟨_,EU⟩
  ·omega
  ·simp at EU; subst EU; rw[hx]at eF; cases eF) (fun op ho y hy=>by simp at ho; subst ho; rw[hx]at hy; cases hy)
 have xk: ∀{acc:Nat→Nat} {u:Trace} {x:MemOp} {j':Nat} {G':CZ} {f:Jc},x.act.touch?=none→Fe acc u G' j' f→Fe acc (u++ #[x]) G' j' f:=fun hx F=>F.app (fun k g hk hg _ hc=>by
  obtain⟨y,hy,_⟩:=hc;obtain⟨op,ho,eF⟩:=touch_of hy;rcases getElem?_append_cases ho with⟨CP,_⟩|⟨_,EU⟩
  ·omega
  ·simp at EU; subst EU; rw[hx]at eF; cases eF) (fun op ho y hy=>by simp at ho; subst ho; rw[hx]at hy; cases hy)
 have n1:x1.act.touch?=none:=by rw[e1.2]; rfl
 have n2:x2.act.touch?=none:=by rw[e2.2]; rfl
 have n3:x3.act.touch?=none:=by rw[e3.2]; rfl
 have n4:x4.act.touch?=none:=by rw[e4.2]; rfl
 have T3:=(T2.quiet (u:= #[x2]) q1 (by intro op ho; simp at ho; subst ho; exact⟨e2.1,n2⟩)).quiet (u:= #[x3]) o6 (by intro op ho; simp at ho; subst ho; exact⟨e3.1,n3⟩);have F3:=fq n3 (fq n2 F1);have D3: ∀q,q<gs.size→γ.d q=0→Deaf (t++MemOp.ofEvents m fn pos es++ #[x1]++ #[x2]++ #[x3]) q=0:=fun q hq vN=>by
  rw[Deaf_push,Deaf_push,Deaf_push];simp only[deafStep,e1.2,e2.2,e3.2];exact D1 q hq vN
 let acc':Nat→Nat:=fun g=>if γ.acc g=j then γ.par j else γ.acc g
 have T4:=T3.Nc F3 q1 e4 (D3 _ q1 hdp) (acc':=acc') (fun _=>rfl) (R':=upd (upd γ.R j fun a=>γ.R j a∨Rm a) (γ.par j) fun a=>γ.R (γ.par j) a∨Rm a) (fun q a ha=>by
  by_cases e:q=γ.par j
  ·subst e; rw[upd_same]at ha; exact ha.imp (fun x=>by rw[upd_ne _ _ nW]; exact x) fun x=>⟨rfl,x⟩
  ·rw[upd_ne _ _ e]at ha; exact .inl ha)
 have KA:t++(MemOp.ofEvents m fn pos es++ #[x1,x2,x3,x4])=t++MemOp.ofEvents m fn pos es++ #[x1]++ #[x2]++ #[x3]++ #[x4]:=by apply Array.ext'; simp
 have hS:=Ul (G':=G.drop k) hG rfl rfl rfl;have L0:=h.li.lO hj n8 (f:=⟨sp,undef,Rm,s,0⟩) rfl;have L1:=L0.Nc (k:=k) (f:=⟨sp,undef,Rm,s,0⟩) o1 (upd_same _ _ _) A0 hG;have efly:upd (upd γ.Aw j (some ⟨sp,undef,Rm,s,0⟩)) j none=γ.Aw:=by
  funext q;by_cases e:q=j
  ·subst e; rw[upd_same,o8]
  ·rw[upd_ne _ _ e,upd_ne _ _ e]
 rw[efly]at L1
 let γ':Gh:={M:=upd γ.M j fun _=>False,R:=upd (upd γ.R j fun a=>γ.R j a∨Rm a) (γ.par j) fun a=>γ.R (γ.par j) a∨Rm a,d:=γ.d,snd:=upd γ.snd j none,dec:=γ.dec,AP:=upd γ.AP (γ.par j) (some (G.drop k)),par:=γ.par,acc:=acc',ids:=upd γ.ids (γ.par j) ((γ.ids (γ.par j)).eraseIdx k),Aw:=γ.Aw,nn:=upd (upd γ.nn j nj) (γ.par j) np,ps:=upd (upd γ.ps j .run) (γ.par j) .run,q:=γ.q,mt:=γ.mt,cr:=γ.cr}
 have Rup: ∀q a,γ.R q a→γ'.R q a:=fun q a ha=>by
  show upd (upd γ.R j fun a=>γ.R j a∨Rm a) (γ.par j) (fun a=>γ.R (γ.par j) a∨Rm a) q a;by_cases e:q=γ.par j
  ·subst e; rw[upd_same]; exact .inl ha
  ·rw[upd_ne _ _ e];by_cases e':q=j
   ·subst e'; rw[upd_same]; exact .inl ha
   ·rw[upd_ne _ _ e']; exact ha
 have hX: ∀b,b=G.ch→∀q,γ.M q b∨∃p,Cj γ.AP p b:=fun b hb q=> .inr ⟨_,G,hG,.inl ⟨BW,hb⟩⟩;have vL: ∀q,AS (γ.cx q) w w':=fun q=>h.rely (i:=q+1) fr (fun b hb=>hX b hb _) (by omega);refine⟨γ',⟨by rw[Bp]; exact L1, ?_, ?_,by
  rw[Bp];refine h.cr.keep fr.ba (h.Zg (i:=m) fr (fun b hb=>hX b hb m)) (h.Zf (i:=m) fr (fun b hb=>hX b hb m)) (Qm hG (by rw[Ev BW,Ev (G:=G.drop k) BW])) (fun⟨G0,g0,g1⟩=>upd_ne _ _ fun e=>by rw[e,hG]at g0; cases g0; exact g1 BW) (fun _ _=>rfl) (fun q e=> ?_);have e:upd (upd γ.ps j .run) (γ.par j) .run q= .HC:=e;by_cases e1:q=γ.par j
  ·rw[e1,upd_same]at e; cases e
  ·rw[upd_ne _ _ e1]at e;by_cases e2:q=j
   ·rw[e2,upd_same]at e; cases e
   ·rwa [upd_ne _ _ e2]at e,by
  refine FW h.W9 fun op A5 a=> ?_;rcases Ea.1 A5 with A5|A5
  ·exact GJ hf.1 op A5 a
  ·simp only[List.mem_toArray,AZ,List.not_mem_nil,or_false]at A5;rcases A5 with rfl|rfl|rfl|rfl<;>simp[e1.2,e2.2,e3.2,e4.2], ?_, ?_, ?_, ?_, ?_, ?_, ?_⟩,rfl,rfl⟩
 ·have A:=h.BX.SY (i:=j) (Mi:=fun _=>False) (Ri:=fun a=>γ.R j a∨Rm a) fr.size (fun b hb=>hb.elim) (fun a ha=>ha.elim .inl fun x=>(ID a x).2.imp id fun y=>⟨AV (ID a x).1 fr.size,.inl y,fun z=>z.elim⟩) (S':=Cj γ'.AP) (T':=Dh γ'.AP γ'.dec) (fun q b=>(hS q b).1) (fun q b hb=>⟨hb.imp (hS q b).1 id,by
    obtain⟨q',iT⟩:=h.BX.ts q b (hb.imp (hS q b).1 id);exact⟨q',(hS q' b).2 iT⟩⟩)
  exact A.share (fun q a ha=>by
   have ha:upd (upd γ.R j fun a=>γ.R j a∨Rm a) (γ.par j) (fun a=>γ.R (γ.par j) a∨Rm a) q a:=ha;by_cases e:q=γ.par j
   ·subst e;rw[upd_same]at ha;rcases ha with ha|ha
    ·exact⟨γ.par j,by rw[upd_ne _ _ nW]; exact ha⟩
    ·exact⟨j,by rw[upd_same]; exact .inr ha⟩
   ·rw[upd_ne _ _ e]at ha; exact⟨q,ha⟩) (fun _=>Iff.rfl) (fun _=>Iff.rfl) (fun _=>Iff.rfl) (fun q a ha hB=>by
   have nl:Rm a→False:=fun x=>by
    rcases(ID a x).2 with y|y
    ·rcases h.cr.OV hB (h.BX.br j a hB y).1 with⟨e,G0,g0,_⟩|⟨x,g0,_⟩
     ·rw[e,g0]at n8; cases n8
     ·rw[g0]at xc; cases xc
    ·exact h.BX.bm j _ hB y
   have ha:upd (upd γ.R j fun a=>γ.R j a∨Rm a) (γ.par j) (fun a=>γ.R (γ.par j) a∨Rm a) q a:=ha;by_cases e:q=γ.par j
   ·rw[e,upd_same]at ha;rcases ha with ha|ha
    ·rw[e]; exact h.BX.br _ a hB ha
    ·exact(nl ha).elim
   ·rw[upd_ne _ _ e]at ha;by_cases e':q=j
    ·rw[e',upd_same]at ha;rcases ha with ha|ha
     ·rw[e']; exact h.BX.br _ a hB ha
     ·exact(nl ha).elim
    ·rw[upd_ne _ _ e']at ha; exact h.BX.br q a hB ha)
 ·rw[KA,Bp];exact(T4.grow fr.size).freeze (fun _ _=>id) (fun _ _=> .inl) (fun q b p' hb He=> .inl ⟨hb.imp (hS q b).1 id,(hS p' b).1 He⟩)
 ·intro q b hb;rw[Bp];have hb:upd γ.M j (fun _=>False) q b:=hb;by_cases e:q=j
  ·subst e; rw[upd_same]at hb; exact hb.elim
  ·rw[upd_ne _ _ e]at hb; exact h.mz q b hb
 ·intro q hq;rw[Bp]at hq;rw[KA,Deaf_push,Deaf_push,Deaf_push,Deaf_push];simp only[deafStep,e1.2,e2.2,e3.2,e4.2];show _=γ.d q;by_cases e:q=m
  ·subst e; rw[Deaf_own,h.df q hq,ns]; exact N5
  ·rw[Deaf_other t (fun x=>e x.symm) _ (fun op ho=>(Dd ho).1),h.df q hq]
 ·intro q f hq;have hq:γ.Aw q=some f:=hq;obtain⟨G',g1,g2,g3,g4⟩:=h.ft q f hq;refine⟨if γ.par q=γ.par j then G.drop k else G', ?_, ?_,fun a ha=>Rup q a (g3 a ha),h.Ou (i:=m) fr (fun b hb=>hX b hb m) g3 g4⟩
  ·show upd γ.AP (γ.par j) (some (G.drop k)) (γ.par q)=_;by_cases e:γ.par q=γ.par j
   ·rw[AD e,e,upd_same]
   ·rw[AA e,upd_ne _ _ e]; exact g1
  ·have ec:Q3 G' (if γ.par q=γ.par j then G.drop k else G'):=by
    by_cases e:γ.par q=γ.par j
    ·rw[AD e];rw[e,hG]at g1; cases g1; exact .refl _
    ·rw[AA e]; exact .refl _
   rw[KA];have:=xk n4 (xk n3 (xk n2 (xk n1 (h.rZ hma hmf (sz':=w.heap.size) (u:=MemOp.ofEvents m fn pos es) (fun op ho x hx=>⟨(Mc op ho).1,(Mc op ho).2 x hx⟩) hq g2 g3))));refine(this.XX fun g hg=> ?_).da ec.1 ec.2.1 ec.2.2;have hg:(if γ.acc g=j then γ.par j else γ.acc g)=q:=hg;by_cases e:γ.acc g=j
   ·rw[AD e]at hg; subst hg; rw[nfp]at hq; cases hq
   ·rw[AA e]at hg; exact hg
 ·intro p' G' Ar I2;have Ar:upd γ.AP (γ.par j) (some (G.drop k)) p'=some G':=Ar;by_cases e:p'=γ.par j
  ·subst e;rw[upd_same]at Ar; cases Ar;obtain⟨buf,s',r',hc⟩:=h.ch _ G hG BW;have gW:buf.size=0:=hc.un A2;refine⟨#[],s+1,s+1, ?_,fun _=>rfl,by simp, ?_,fun q v hq=>by simp at hq⟩
   ·show w'.heap[G.ch]? =some (.chan G.cap #[] G.closed (s+1) (s+1) false);have Dq:G.closed=false:=by
     have:=hc.at_;rw[Hh]at this;simp only[AE,Obj.chan.injEq]at this;exact this.2.2.1.symm
    rw[hch',A2,Dq]
   ·show(upd γ.ids (γ.par j) ((γ.ids (γ.par j)).eraseIdx k) (γ.par j)).countP (Cw γ.Aw)=0;rw[upd_same];have:=(List.eraseIdx_sublist (γ.ids (γ.par j)) k).countP_le (p:=Cw γ.Aw);have:=hc.cnt;omega
  ·rw[upd_ne _ _ e]at Ar;obtain⟨buf,s',r',hc⟩:=h.HF fr Ar I2 (fun x=>e (h.BX.ss _ _ _ ⟨G',Ar,.inl ⟨I2,x.symm⟩⟩ ⟨G,hG,.inl ⟨BW,rfl⟩⟩));refine⟨buf,s',r', ?_⟩;have:γ'.ids p'=γ.ids p':=upd_ne _ _ e;rw[this]; exact hc
 ·intro p' G' a φ Ar ha;have Ar:upd γ.AP (γ.par j) (some (G.drop k)) p'=some G':=Ar;rw[Bp];by_cases e:p'=γ.par j
  ·subst e;rw[upd_same]at Ar; cases Ar;have:G.wg=some (a,φ):=ha;rw[wgn]at this; cases this
  ·rw[upd_ne _ _ e]at Ar;refine(h.wg p' G' a φ Ar ha).mono (fr.keep a (h.BX.sl p' a ⟨G',Ar,.inr ⟨φ,ha⟩⟩) fun x=>e (h.BX.ss p' _ a ⟨G',Ar,.inr ⟨φ,ha⟩⟩ ⟨G,hG,.inl ⟨BW,x⟩⟩)) fun hs=> ?_;have hs:upd (upd γ.ps j .run) (γ.par j) .run p'= .Di:=hs;rw[upd_ne _ _ e]at hs;by_cases e':p'=j
   ·subst e'; rw[upd_same]at hs; cases hs
   ·rwa [upd_ne _ _ e']at hs
 ·intro q gq hq;show KD P ty Post (q==0) (upd (upd γ.nn j nj) (γ.par j) np q) _ _ _ (upd (upd γ.ps j .run) (γ.par j) .run q);by_cases e:q=γ.par j
  ·subst e;rw[h2]at hq; cases hq;rw[upd_same,upd_same];refine .run ?_;have:γ'.cx (γ.par j)={γ.cx (γ.par j)with R:=fun a=>γ.R (γ.par j) a∨Rm a,AP:=some (G.drop k)}:=by simp[γ',Gh.cx,upd_same,upd_ne _ _ nW]
   rw[this]; exact kp k o4
  ·rw[upd_ne _ _ e,upd_ne _ _ e];by_cases e':q=j
   ·subst e';rw[h1]at hq; cases hq;rw[upd_same,upd_same];have e0:(q==0)=false:=by
     have:q≠0:=by omega
     simpa using this
    rw[e0];refine .run ?_;have:γ'.cx q={γ.cx q with M:=fun _=>False,R:=fun a=>γ.R q a∨Rm a,send:=none}:=by simp[γ',Gh.cx,upd_same,upd_ne _ _ e]
    rw[this];refine kj.rely (fr.rely (fun b hb=>hb.elim) fun a ha=> ?_);have ha:γ.R q a∨Rm a:=ha;have:γ.R q a∨γ.M q a.block:=ha.elim .inl fun x=>(ID a x).2;rcases this with y|y
    ·exact⟨h.BX.rl q a y,fun z=>h.BX.rs q _ a y ⟨G,hG,.inl ⟨BW,z⟩⟩⟩
    ·exact⟨h.BX.ml q _ y,fun z=>h.BX.ms q _ _ y ⟨G,hG,.inl ⟨BW,z⟩⟩⟩
   ·rw[upd_ne _ _ e',upd_ne _ _ e'];rw[h3 q e' e]at hq;have:γ'.cx q=γ.cx q:=by simp[γ',Gh.cx,upd_ne _ _ e,upd_ne _ _ e']
    rw[this];exact(h.Ms q gq hq).rely (vL q)
 ·intro p' He j' Hg hs;have aux: ∀{q:Nat} {x:PS},upd (upd γ.ps j .run) (γ.par j) .run q=x→x≠ .run→γ.ps q=x∧q≠γ.par j:=by
   intro q x hq hx;by_cases e:q=γ.par j
   ·subst e; rw[upd_same]at hq; exact absurd hq.symm hx
   ·rw[upd_ne _ _ e]at hq;by_cases e':q=j
    ·subst e'; rw[upd_same]at hq; exact absurd hq.symm hx
    ·rw[upd_ne _ _ e']at hq; exact⟨hq,e⟩
  obtain⟨a1,a2⟩:=aux He (by simp);have:j'∈γ.ids p':=by
   have Hg:j'∈upd γ.ids (γ.par j) ((γ.ids (γ.par j)).eraseIdx k) p':=Hg
   rwa [upd_ne _ _ a2]at Hg
  exact h.nr p' a1 j' this (aux hs (by simp)).1
end
section
variable{P:Program}{ty:TypeId}{Post:Value→World→Prop}{gs:Array Goroutine}{w:World}{t:Trace}{γ:Gh}{i:Nat}{g g':Goroutine}{w':World}{es:Array Event}{sl:Option (Nat×Nat)}
theorem cT{acc:Nat→Nat}{u:Trace}{x:MemOp}{j' ch s' q:Nat}{R':Addr→Prop}(hx:x.act.touch?=none)(F:FT acc u j' ch s' q R'):FT acc (u++ #[x]) j' ch s' q R' :=
 F.app (fun k g hk hg _ hc=>by
  obtain⟨y,hy,_⟩:=hc;obtain⟨op,ho,eF⟩:=touch_of hy;rcases getElem?_append_cases ho with⟨CP,_⟩|⟨_,EU⟩
  ·omega
  ·simp at EU; subst EU; rw[hx]at eF; cases eF) (fun op ho y hy=>by simp at ho; subst ho; rw[hx]at hy; cases hy)
theorem Et{acc:Nat→Nat}{u:Trace}{x:MemOp}{G:CZ}{j':Nat}{f:Jc}(hx:x.act.touch?=none)(F:Fe acc u G j' f):Fe acc (u++ #[x]) G j' f :=
 F.app (fun k g hk hg _ hc=>by
  obtain⟨y,hy,_⟩:=hc;obtain⟨op,ho,eF⟩:=touch_of hy;rcases getElem?_append_cases ho with⟨CP,_⟩|⟨_,EU⟩
  ·omega
  ·simp at EU; subst EU; rw[hx]at eF; cases eF) (fun op ho y hy=>by simp at ho; subst ho; rw[hx]at hy; cases hy)
theorem GI.cU(h:GI P ty Post gs w t γ){j:Nat}{G:CZ}(hj:j≠0)(_hm:j∈γ.ids (γ.par j))(hG:γ.AP (γ.par j)=some G)(BW:G.AY=none): ¬γ.q.mt j:=by
 have hc:=h.cr;intro hq;cases e:γ.cr with
 |none=>rw[e]at hc; exact hc.qm j hq
 |some k =>
  rw[e]at hc;have hc:HG gs.size w γ.AP γ.ids γ.Aw γ.mt γ.q γ.ps k:=hc;have:=((hc.qm j).1 hq).resolve_left hj;obtain⟨μ,hμ⟩:=Option.ne_none_iff_exists'.1 this;obtain⟨_,_,_,_,_,_,_,_,_,hp,_⟩:=h.li.CO (hc.mem j μ hμ);have hv:=hc.g0;unfold Fy at hv;rw[← hp,hG]at hv;have hv:G.cv=_:=hv;rw[Ev BW]at hv; cases hv
theorem W.nb{main:Bool}{n:Nat}{c:Ctx}(h:W P ty Post main n c g w):g.status≠ .blocked:=by
 rcases h.status with e|e
 ·rw[e]; simp
 ·rw[e.1]; simp
theorem GI.Z6(h:GI P ty Post gs w t γ)(hi:gs[i]? =some g){g₂:Goroutine}{sp:Spec}{v z:Value}{Rm:Addr→Prop}{G:CZ}{n':Nat}(Aq:stepG P (i==0) g w= .comm g₂ #[scase G.ch v z] true .send w es)(hn:n'<γ.nn i)
  (hs:γ.snd i=some (G.ch,sp)) (hG:γ.AP (γ.par i)=some G) (BW:G.AY=none) (vk:γ.AP i=none) (A2:0<G.cap) (hd:γ.d i=0) (hf:BQ (γ.cx i) w w es) (N5:deafBehind 0 es=0) (AO:sp.ok v Rm w) (ID: ∀a,Rm a→a.block<w.heap.size∧(γ.R i a∨γ.M i a.block))
  (hW:W P ty Post false n' {γ.cx i with M:=fun _=>False,R:=fun a=>γ.R i a∨Rm a,send:=none} (Conc.served g₂ undef) w):Qz P ty Post gs w t γ sl i:=by
 have Ac:i<gs.size:=(A6.1 hi).1;obtain⟨k,G',o1,o2,o3,o4,o5,o6,o7,o8,o9⟩:=h.li.NB hs;rw[hG]at o2; cases o2;obtain⟨q1,q2,q3,q4,q5,q6,q7,q8⟩:=h.li.gn _ G hG;obtain⟨buf,s,r,hc⟩:=h.ch _ G hG BW;have Dq:=Is h.li h.wg hs hG;have mem:i∈γ.ids (γ.par i):=Cg o1;have H3:buf.size<G.cap:=by
  have h1:(γ.ids (γ.par i)).countP (Cw γ.Aw)<(γ.ids (γ.par i)).length:=by
   have h2:=List.countP_le_length (p:=Cw γ.Aw) (l:=γ.ids (γ.par i));rcases Nat.lt_or_ge ((γ.ids (γ.par i)).countP (Cw γ.Aw)) (γ.ids (γ.par i)).length with h3|h3
   ·exact h3
   ·have h4:=List.countP_eq_length.1 (Nat.le_antisymm h2 h3) i mem;simp[Cw,o8]at h4
  have:=hc.cnt;have:=q7 A2;omega
 have Bg:w.heap[G.ch]? =some (.chan G.cap buf false s r false):=by rw[hc.at_,Dq]
 have hp:partners (gs.setIfInBounds i ph) G.ch false= []:=partners_nil fun j o hj=>by
  rcases getElem?_stand gs i j o hj with⟨_,rfl⟩|⟨_,hj⟩
  ·exact offersAt_ph _ _
  ·by_cases e:offersAt o G.ch false= []
   ·exact e
   ·obtain⟨_,_,G',g₀,z',FG,r1,rc,r2,r3,_⟩:=h.P2 hj e;have:=h.BX.ss j _ G.ch ⟨G',r1,.inl ⟨rc,r2.symm⟩⟩ ⟨G,hG,.inl ⟨BW,rfl⟩⟩;rw[this,hG]at r1; cases r1;omega
 have AT:=crowd_send_room (sl:=sl) hi Aq Bg H3 hp;rw[finishComm_send]at AT;have fr:=Fr.setChan Bg G.cap (buf.push v) false (s+1) r false;have Md:=HS Bg G.cap (buf.push v) false (s+1) r false;generalize w.setChan G.ch G.cap (buf.push v) false (s+1) r false=w' at AT fr Md;generalize dp:({g:=i,fn:=g₂.frame.fn,pos:=g₂.frame.place,act:= .send G.ch s}:MemOp)=x1 at AT;generalize xU:({g:=i,fn:=g₂.frame.fn,pos:=g₂.frame.place,act:= .sendDone G.ch s}:MemOp)=x2 at AT;have e1:x1.g=i∧x1.act= .send G.ch s:=by subst dp; exact⟨rfl,rfl⟩
 have e2:x2.g=i∧x2.act= .sendDone G.ch s:=by subst xU; exact⟨rfl,rfl⟩
 have n1:x1.act.touch?=none:=by rw[e1.2]; rfl
 have n2:x2.act.touch?=none:=by rw[e2.2]; rfl
 obtain⟨T1,Mc⟩:=h.Hj Ac o7 hf g.frame.fn g.frame.place;generalize hE:MemOp.ofEvents i g.frame.fn g.frame.place es=E at AT T1 Mc;have tY: ∀op∈E,∀a,op.act≠ .mark (.release a):=hE ▸GJ hf.1;have D1:Deaf (t++E) i=0:=by rw[← hE,Deaf_own,h.df i Ac,hd]; exact N5
 have F1:=FT.new T1 e1 D1 (Rm:=Rm) (fun a ha=>(ID a ha).2);have T2:=((T1.freeze (M':=upd γ.M i fun _=>False) (R':=upd γ.R i fun a=>γ.R i a∨Rm a) (S':=Cj γ.AP) (T':=Dh γ.AP γ.dec) (fun q b hb=>by
  by_cases e:q=i
  ·subst e; rw[upd_same]at hb; exact hb.elim
  ·rw[upd_ne _ _ e]at hb; exact hb) (fun q a ha=>by
  by_cases e:q=i
  ·subst e; rw[upd_same]at ha; exact ha.elim .inl fun x=>(ID a x).2
  ·rw[upd_ne _ _ e]at ha; exact .inl ha) (fun _ _ _ a b=> .inl ⟨a,b⟩)).quiet (u:= #[x1]) Ac (by intro op ho; simp at ho; subst ho; exact⟨e1.1,n1⟩)).quiet (u:= #[x2]) Ac (by intro op ho; simp at ho; subst ho; exact⟨e2.1,n2⟩)
 have KA:t++(E++ #[x1,x2])=t++E++ #[x1]++ #[x2]:=by apply Array.ext'; simp
 let f0:Jc:=⟨sp,v,Rm,s,(t++E).size⟩
 let γ':Gh:={M:=upd γ.M i fun _=>False,R:=upd γ.R i fun a=>γ.R i a∨Rm a,d:=γ.d,snd:=upd γ.snd i none,dec:=γ.dec,AP:=γ.AP,par:=γ.par,acc:=γ.acc,ids:=γ.ids,Aw:=upd γ.Aw i (some f0),nn:=upd γ.nn i n',ps:=upd γ.ps i .run,q:=γ.q,mt:=γ.mt,cr:=γ.cr}
 have hX: ∀b,b=G.ch→∀q,γ.M q b∨∃p,Cj γ.AP p b:=fun b hb q=> .inr ⟨_,G,hG,.inl ⟨BW,hb⟩⟩;have Bp:(gs.setIfInBounds i (Conc.served g₂ undef)).size=gs.size:=by simp
 refine⟨_,_,_,AT, ?_,gs.setIfInBounds i (Conc.served g₂ undef),w',sl,γ',rfl,⟨by rw[Bp]; exact h.li.lO hs vk rfl, ?_, ?_,by
  rw[Bp];have nm:=h.cU (j:=i) (by omega) mem hG BW;refine h.cr.keep fr.ba (h.Zg (i:=i) fr (fun b hb=>hX b hb i)) (h.Zf (i:=i) fr (fun b hb=>hX b hb i)) (fun _=>rfl) (fun _=>rfl) (fun q hq=>upd_ne _ _ fun e=>nm (e ▸hq)) (fun q e=> ?_);have e:upd γ.ps i .run q= .HC:=e;by_cases e1:q=i
  ·rw[e1,upd_same]at e; cases e
  ·rwa [upd_ne _ _ e1]at e,by
  refine FW h.W9 fun op A5 a=> ?_;rcases Ea.1 A5 with A5|A5
  ·exact tY op A5 a
  ·simp only[List.mem_toArray,AZ,List.not_mem_nil,or_false]at A5;rcases A5 with rfl|rfl<;>simp[e1.2,e2.2], ?_, ?_, ?_, ?_, ?_, ?_, ?_⟩,rfl⟩
 ·refine .left _ _ ?_;have:sumTo gs.size (upd γ.nn i n')+γ.nn i=sumTo gs.size γ.nn+n':=sumTo_upd γ.nn n' (fun x=>x) Ac;rw[Bp];show sumTo gs.size (upd γ.nn i n')<_;omega
 ·exact h.BX.SY fr.size (fun b hb=>hb.elim) (fun a ha=>ha.elim .inl fun x=>(ID a x).2.imp id fun y=>⟨AV (ID a x).1 fr.size,.inl y,fun z=>z.elim⟩) (fun _ _=>id) (fun q b hb=>⟨hb,h.BX.ts q b hb⟩)
 ·rw[KA,Bp]; exact T2.grow fr.size
 ·intro q b hb;rw[Bp];have hb:upd γ.M i (fun _=>False) q b:=hb;by_cases e:q=i
  ·subst e; rw[upd_same]at hb; exact hb.elim
  ·rw[upd_ne _ _ e]at hb; exact h.mz q b hb
 ·intro q hq;rw[Bp]at hq;rw[KA,Deaf_push,Deaf_push];simp only[deafStep,e1.2,e2.2];show _=γ.d q;by_cases e:q=i
  ·subst e; rw[D1,hd]
  ·rw[← hE,Deaf_other t (fun x=>e x.symm) _ (fun op ho=>(Dd ho).1),h.df q hq]
 ·intro q f hq;have hq:upd γ.Aw i (some f0) q=some f:=hq;by_cases e:q=i
  ·subst e;rw[upd_same]at hq; cases hq;refine⟨G,hG, ?_,fun a ha=> ?_, ?_⟩
   ·rw[KA]; exact .of BW (cT n2 F1)
   ·show upd γ.R q (fun a=>γ.R q a∨Rm a) q a;rw[upd_same]; exact .inr ha
   ·refine sp.keep v Rm w w' (fun a ha=> ?_) AO;have hb:a.block<w.heap.size∧a.block≠G.ch:=by
     refine⟨(ID a ha).1,fun z=> ?_⟩;rcases(ID a ha).2 with y|y
     ·exact h.BX.rs q _ a y ⟨G,hG,.inl ⟨BW,z⟩⟩
     ·exact h.BX.ms q _ _ y ⟨G,hG,.inl ⟨BW,z⟩⟩
    have hk:=fr.keep _ hb.1 hb.2;exact⟨by simp only[World.cell?,hk],fr.shape _ hb.1⟩
  ·rw[upd_ne _ _ e]at hq;obtain⟨G',g1,g2,g3,g4⟩:=h.ft q f hq;refine⟨G',g1, ?_,fun a ha=> ?_,h.Ou (i:=i) fr (fun b hb=>hX b hb i) g3 g4⟩
   ·rw[KA];exact Et n2 (Et n1 (h.rZ o7 o8 (sz':=w.heap.size) (fun op ho x hx=>⟨(Mc op ho).1,(Mc op ho).2 x hx⟩) hq g2 g3))
   ·show upd γ.R i (fun a=>γ.R i a∨Rm a) q a;rw[upd_ne _ _ e]; exact g3 a ha
 ·intro p G' Ar I2;by_cases e:p=γ.par i
  ·subst e;have Cz:γ.AP (γ.par i)=some G':=Ar;rw[hG]at Cz; cases Cz;refine⟨buf.push v,s+1,r,by rw[Dq]; exact Md,fun oG=>by omega,by have:=hc.sum; simp; omega, ?_,fun q u hq=> ?_⟩
   ·show(γ.ids (γ.par i)).countP (Cw (upd γ.Aw i (some f0)))=(buf.push v).size;rw[Qn o8 q4 mem,hc.cnt]; simp
   ·rw[Array.getElem?_push]at hq;by_cases e:q=buf.size
    ·subst e;rw[AD rfl]at hq;cases hq;exact⟨i,f0,mem,upd_same _ _ _,rfl,by have:=hc.sum; simp only[f0]; omega⟩
    ·rw[AA e]at hq;obtain⟨j,f,r1,r2,r3⟩:=hc.msg q u hq;have BK:j≠i:=fun e=>by rw[e,o8]at r2; cases r2
     exact⟨j,f,r1,(upd_ne _ _ BK).trans r2,r3⟩
  ·have Cz:γ.AP p=some G':=Ar;obtain⟨Rg,s',r',Ig⟩:=h.HF fr Cz I2 (fun x=>e (h.BX.ss _ _ _ ⟨G',Cz,.inl ⟨I2,x.symm⟩⟩ ⟨G,hG,.inl ⟨BW,rfl⟩⟩));have ni:i∉γ.ids p:=fun hm=>by
    obtain⟨_,_,_,_,_,_,_,_,_,He,_⟩:=h.li.CO hm;exact e He.symm
   refine⟨Rg,s',r',Ig.at_,Ig.un,Ig.sum, ?_,fun q u hq=> ?_⟩
   ·show(γ.ids p).countP (Cw (upd γ.Aw i (some f0)))=Rg.size;rw[GP ni]; exact Ig.cnt
   ·obtain⟨j,f,r1,r2,r3⟩:=Ig.msg q u hq;have BK:j≠i:=fun e=>by rw[e,o8]at r2; cases r2
    exact⟨j,f,r1,(upd_ne _ _ BK).trans r2,r3⟩
 ·intro p G' a φ Ar ha;have Cz:γ.AP p=some G':=Ar;rw[Bp];have BK: ¬a=G.ch:=fun x=>by
   have:=h.BX.ss p _ a ⟨G',Cz,.inr ⟨φ,ha⟩⟩ ⟨G,hG,.inl ⟨BW,x⟩⟩;rw[this,hG]at Cz; cases Cz;exact q8 a φ ha x
  refine(h.wg p G' a φ Cz ha).mono (fr.keep a (h.BX.sl p a ⟨G',Cz,.inr ⟨φ,ha⟩⟩) BK) fun hs=> ?_;have hs:upd γ.ps i .run p= .Di:=hs;by_cases e':p=i
  ·subst e'; rw[upd_same]at hs; cases hs
  ·rwa [upd_ne _ _ e']at hs
 ·intro q gq hq;show KD P ty Post (q==0) (upd γ.nn i n' q) _ _ _ (upd γ.ps i .run q);by_cases e:q=i
  ·subst e;rw[Bs Ac]at hq;cases hq;rw[upd_same,upd_same];have e0:(q==0)=false:=by
    have:q≠0:=by omega
    simpa using this
   rw[e0];refine .run ?_;have:γ'.cx q={γ.cx q with M:=fun _=>False,R:=fun a=>γ.R q a∨Rm a,send:=none}:=by simp[γ',Gh.cx,upd_same]
   rw[this];refine hW.rely (fr.rely (fun b hb=>hb.elim) fun a ha=> ?_);have ha:γ.R q a∨Rm a:=ha;have:γ.R q a∨γ.M q a.block:=ha.elim .inl fun x=>(ID a x).2;rcases this with y|y
   ·exact⟨h.BX.rl q a y,fun z=>h.BX.rs q _ a y ⟨G,hG,.inl ⟨BW,z⟩⟩⟩
   ·exact⟨h.BX.ml q _ y,fun z=>h.BX.ms q _ _ y ⟨G,hG,.inl ⟨BW,z⟩⟩⟩
  ·rw[Bb (fun x=>e x.symm)]at hq;rw[upd_ne _ _ e,upd_ne _ _ e];have:γ'.cx q=γ.cx q:=by simp[γ',Gh.cx,upd_ne _ _ e]
   rw[this];exact(h.Ms q gq hq).rely (h.rely (i:=i) fr (fun b hb=>hX b hb i) e)
 ·intro p' He j' Hg hs;have aux: ∀{q:Nat} {x:PS},upd γ.ps i .run q=x→x≠ .run→γ.ps q=x:=by
   intro q x hq hx;by_cases e:q=i
   ·subst e; rw[upd_same]at hq; exact absurd hq.symm hx
   ·rwa [upd_ne _ _ e]at hq
  exact h.nr p' (aux He (by simp)) j' Hg (aux hs (by simp))
theorem GI.sZ(h:GI P ty Post gs w t γ)(hi:gs[i]? =some g){gk:Goroutine}{s:PS}{n':Nat}(hn:n'<γ.nn i)(hs0:s≠ .Di)(IB:s≠ .HC)(ha:γ.acc i=i)(XD:γ.Aw i=none)(hf:BQ (γ.cx i) w w es)(N5:deafBehind (γ.d i) es=γ.d i)
  (hsit:KD P ty Post (i==0) n' (γ.cx i) gk w s) (Ki:s= .Nt→∀j∈γ.ids i,γ.ps j≠ .snd) (hns:s= .snd→γ.ps (γ.par i)≠ .Nt)
  (AT:runT P (crowd gs w sl) i=(.next (crowd (gs.setIfInBounds i gk) w sl),MemOp.ofEvents i g.frame.fn g.frame.place es)):Qz P ty Post gs w t γ sl i:=by
 have Ac:i<gs.size:=(A6.1 hi).1;obtain⟨T1,Mc⟩:=h.Hj Ac ha hf g.frame.fn g.frame.place;have Bp:(gs.setIfInBounds i gk).size=gs.size:=by simp
 refine⟨_,_,_,AT, ?_,gs.setIfInBounds i gk,w,sl,{γ with nn:=upd γ.nn i n',ps:=upd γ.ps i s},rfl,⟨by rw[Bp]; exact h.li,h.BX,by rw[Bp]; exact T1,by
  rw[Bp];refine h.cr.keep (fun _ _ h=>h) (fun _ _=>rfl) (fun _ _=>rfl) (fun _=>rfl) (fun _=>rfl) (fun _ _=>rfl) (fun q e=> ?_);have e:upd γ.ps i s q= .HC:=e;by_cases e1:q=i
  ·rw[e1,upd_same]at e; exact absurd e IB
  ·rwa [upd_ne _ _ e1]at e,FW h.W9 (GJ hf.1),fun q b hb=>by rw[Bp]; exact h.mz q b hb,fun q hq=> ?_,fun q f hq=> ?_,h.ch,fun p G' a φ Ar Cx=> ?_,fun q gq hq=> ?_,fun p' He j' Hg hs=> ?_⟩,rfl⟩
 ·refine .left _ _ ?_;have:sumTo gs.size (upd γ.nn i n')+γ.nn i=sumTo gs.size γ.nn+n':=sumTo_upd γ.nn n' (fun x=>x) Ac;rw[Bp];show sumTo gs.size (upd γ.nn i n')<_;omega
 ·rw[Bp]at hq;show _=γ.d q;by_cases e:q=i
  ·subst e; rw[Deaf_own,h.df q Ac,N5]
  ·rw[Deaf_other t (fun x=>e x.symm) _ (fun op ho=>(Dd ho).1),h.df q hq]
 ·obtain⟨G',g1,g2,g3,g4⟩:=h.ft q f hq;exact⟨G',g1,h.rZ ha XD (sz':=w.heap.size) (fun op ho x hx=>⟨(Mc op ho).1,(Mc op ho).2 x hx⟩) hq g2 g3,g3,g4⟩
 ·rw[Bp];refine(h.wg p G' a φ Ar Cx).mono rfl fun hs=> ?_;have hs:upd γ.ps i s p= .Di:=hs;by_cases e':p=i
  ·subst e'; rw[upd_same]at hs; exact absurd hs hs0
  ·rwa [upd_ne _ _ e']at hs
 ·show KD P ty Post (q==0) (upd γ.nn i n' q) (γ.cx q) _ _ (upd γ.ps i s q);by_cases e:q=i
  ·subst e;rw[Bs Ac]at hq;cases hq;rw[upd_same,upd_same]; exact hsit
  ·rw[Bb (fun x=>e x.symm)]at hq;rw[upd_ne _ _ e,upd_ne _ _ e]; exact h.Ms q gq hq
 ·have Yl:upd γ.ps i s p'= .Nt:=He;have gQ:upd γ.ps i s j'= .snd:=hs;have hj2:j'∈γ.ids p':=Hg;clear He hs Hg;obtain⟨_,_,_,_,_,_,Gn,_,_,Tj,_⟩:=h.li.CO hj2;by_cases e:p'=i
  ·subst e;rw[upd_same]at Yl;by_cases e':j'=p'
   ·omega
   ·rw[upd_ne _ _ e']at gQ;exact Ki Yl j' hj2 gQ
  ·rw[upd_ne _ _ e]at Yl;by_cases e':j'=i
   ·subst e';rw[upd_same]at gQ;exact hns gQ (by rw[Tj]; exact Yl)
   ·rw[upd_ne _ _ e']at gQ;exact h.nr p' Yl j' hj2 gQ
theorem GI.send(h:GI P ty Post gs w t γ)(hi:gs[i]? =some g){g₂:Goroutine}{sp:Spec}{v z:Value}{Rm:Addr→Prop}{ch n':Nat}(Aq:stepG P (i==0) g w= .comm g₂ #[scase ch v z] true .send w es)(hn:n'<γ.nn i)
  (hs:γ.snd i=some (ch,sp)) (IW:γ.mt i=none) (vk:γ.AP i=none) (hd:γ.d i=0) (hf:BQ (γ.cx i) w w es) (N5:deafBehind 0 es=0) (AO:sp.ok v Rm w) (ID: ∀a,Rm a→a.block<w.heap.size∧(γ.R i a∨γ.M i a.block))
  (hW:W P ty Post false n' {γ.cx i with M:=fun _=>False,R:=fun a=>γ.R i a∨Rm a,send:=none} (Conc.served g₂ undef) w):Qz P ty Post gs w t γ sl i:=by
 have Ac:i<gs.size:=(A6.1 hi).1;obtain⟨k,G,o1,o2,o3,o4,o5,o6,o7,o8,o9⟩:=h.li.NB hs;subst o3;have BW:=h.cr.IN h.li hs IW o2;rcases Nat.eq_zero_or_pos G.cap with A2|A2
 rotate_left
 ·exact h.Z6 hi Aq hn hs o2 BW vk A2 hd hf N5 AO ID hW
 obtain⟨buf,s,r,hc⟩:=h.ch _ G o2 BW;have Dq:=Is h.li h.wg hs o2;have gW:buf= #[]:=Eo (hc.un A2);have Bg:w.heap[G.ch]? =some (.chan 0 #[] false s r false):=by rw[hc.at_,Dq,A2,gW]
 obtain⟨q1,_,_,_,_,q6,_⟩:=h.li.gn _ G o2;have hdn:γ.dec i=none:=by
  rw[o9];cases e:G.wg with
  |none=>rfl
  |some x=>have:=q6.1 (by rw[e]; rfl); omega
 obtain⟨gp,kG⟩: ∃gp,gs[γ.par i]? =some gp:=⟨_,CR q1⟩;have BK:γ.par i≠i:=by omega
 have others: ∀j o,j≠γ.par i→gs[j]? =some o→offersAt o G.ch false= []:=fun j o hj ve=>by
  by_cases e:offersAt o G.ch false= []
  ·exact e
  ·obtain⟨_,_,G',g₀,z',FG,r1,rc,r2,r3,_⟩:=h.P2 ve e;exact absurd (h.BX.ss j _ G.ch ⟨G',r1,.inl ⟨rc,r2.symm⟩⟩ ⟨G,o2,.inl ⟨BW,rfl⟩⟩) hj
 have Kw:=h.Ms _ gp kG;generalize EJ:γ.ps (γ.par i)=x at Kw;have waits:offersAt gp G.ch false= []→x≠ .Nt→Qz P ty Post gs w t γ sl i:=fun ho hx=>by
  have hp:partners (gs.setIfInBounds i ph) G.ch false= []:=partners_nil fun j o hj=>by
   rcases getElem?_stand gs i j o hj with⟨_,rfl⟩|⟨_,hj⟩
   ·exact offersAt_ph _ _
   ·by_cases e:j=γ.par i
    ·subst e; rw[kG]at hj; cases hj; exact ho
    ·exact others j o e hj
  have hw: ∀cc∈ #[scase G.ch v z],NoWays w (gs.setIfInBounds i ph) cc:=fun cc eh=>by
   simp at eh; subst eh;exact ways_send_none Bg (Nat.zero_le _) hp
  have e0:(i==0)=false:=by
   have:i≠0:=by omega
   simpa using this
  refine h.sZ hi (s:= .snd) hn (by simp) (by simp) o7 o8 hf (by rw[hd]; exact N5) (.snd e0 rfl hs vk IW hdn hd AO ID hW) (fun e=>by cases e) (fun _=>by rw[EJ]; exact hx) (crowd_waits hi Aq hw)
 cases Kw with
 |run hw=>exact waits (offersAt_of_not_blocked hw.nb _ _) (by simp)
 |HC hx hl WE Ck hw=>exact waits (by simp[offersAt,WE,Ck]) (by simp)
 |snd hm hg Ig Ar iY To G3 EP RY k'=>exact waits (by rw[hg,offersAt_parked_send']) (by simp)
 |Di Ar Az WE Ck hw=>exact waits (by simp[offersAt,WE,Ck]) (by simp)
 |Nt hg Ar Yp vz hcap' hcl' G3 kk =>
  rename_i g₀ G' z' FG;have Cz:γ.AP (γ.par i)=some G':=Ar;rw[o2]at Cz; cases Cz;have G3:γ.d (γ.par i)=0:=G3;have vP:=partners_one (gs:=gs.setIfInBounds i ph) (r:=G.ch) (send:=false) (stand_get BK kG) fun j o hj ve=>by
   rcases getElem?_stand gs i j o ve with⟨_,rfl⟩|⟨_,ve⟩
   ·exact offersAt_ph _ _
   ·exact others j o hj ve
  rw[hg,offersAt_parked_recv,AD rfl]at vP;rw[hg]at kG;have AT:=crowd_send_meets (sl:=sl) hi Aq Bg BK kG (by simpa using vP);rw[finishComm_send,finishComm_recv]at AT;have fr:=Fr.setChan Bg 0 #[] false (s+1) (r+1) false;have Md:=HS Bg 0 #[] false (s+1) (r+1) false;generalize w.setChan G.ch 0 #[] false (s+1) (r+1) false=w' at AT fr Md;have Bp:((gs.setIfInBounds (γ.par i) (Conc.served g₀ (recvd FG v true))).setIfInBounds i (Conc.served g₂ undef)).size=gs.size:=by simp
  have EP:sp.ok v Rm w':=by
   refine sp.keep v Rm w w' (fun a ha=> ?_) AO;have hb:a.block<w.heap.size∧a.block≠G.ch:=by
    refine⟨(ID a ha).1,fun z=> ?_⟩;rcases(ID a ha).2 with y|y
    ·exact h.BX.rs i _ a y ⟨G,o2,.inl ⟨BW,z⟩⟩
    ·exact h.BX.ms i _ _ y ⟨G,o2,.inl ⟨BW,z⟩⟩
   have hk:=fr.keep _ hb.1 hb.2;exact⟨by simp only[World.cell?,hk],fr.shape _ hb.1⟩
  obtain⟨γ',hγ,iW,rM⟩:=h.meet (m:=i) (.inl rfl) hs rfl o2 vk IW BW A2 hd G3 ID (fn:=g.frame.fn) (pos:=g.frame.place) hf N5 Bp
   (gj:=Conc.served g₂ undef) (gp:=Conc.served g₀ (recvd FG v true)) (by rw[Bs (by simpa using Ac)])
   (by rw[Bb (fun e=>BK e.symm),Bs q1])
   (fun q e1 e2=>by rw[Bb (fun e=>e1 e.symm),Bb (fun e=>e2 e.symm)]) fr Bg Md
   (x1:={g:=i,fn:=g₂.frame.fn,pos:=g₂.frame.place,act:= .send G.ch s}) (x2:={g:=γ.par i,fn:=g₀.frame.fn,pos:=g₀.frame.place,act:= .recv G.ch r 0})
   (x3:={g:=i,fn:=g₂.frame.fn,pos:=g₂.frame.place,act:= .sendDone G.ch s}) (x4:={g:=γ.par i,fn:=g₀.frame.fn,pos:=g₀.frame.place,act:= .recvDone G.ch r}) ⟨rfl,rfl⟩ ⟨rfl,rfl⟩ ⟨rfl,rfl⟩ ⟨rfl,rfl⟩
   (nj:=n') (np:=γ.nn (γ.par i)) hW (fun k Lx=>kk k sp Lx v Rm w' (h.rely (i:=γ.par i+1) fr (fun b hb=> .inr ⟨_,G,o2,.inl ⟨BW,hb⟩⟩) (by omega)) EP (fun a ha=>⟨AV (ID a ha).1 fr.size,(ID a ha).2.elim (h.BX.rm _ _ _) fun m m'=>BK (h.BX.mm _ _ _ m' m)⟩))
  refine⟨_,_,_,AT, ?_,_,w',sl,γ',rfl,hγ,rfl⟩;refine .left _ _ ?_;rw[Bp,iW];have h1:sumTo gs.size (upd γ.nn i n')+γ.nn i=sumTo gs.size γ.nn+n':=sumTo_upd γ.nn n' (fun x=>x) Ac;have h2:sumTo gs.size (upd (upd γ.nn i n') (γ.par i) (γ.nn (γ.par i)))+upd γ.nn i n' (γ.par i)=sumTo gs.size (upd γ.nn i n')+γ.nn (γ.par i):=sumTo_upd (upd γ.nn i n') _ (fun x=>x) q1;rw[upd_ne _ _ BK]at h2;omega
end
section
variable{P:Program}{ty:TypeId}{Post:Value→World→Prop}{gs:Array Goroutine}{w:World}{t:Trace}{γ:Gh}{i:Nat}{g g':Goroutine}{w':World}{es:Array Event}{sl:Option (Nat×Nat)}
theorem GI.LY(h:GI P ty Post gs w t γ){G:CZ}(hG:γ.AP i=some G)(BW:G.AY=none)(hn: ∀j∈γ.ids i,γ.ps j≠ .snd):partners (gs.setIfInBounds i ph) G.ch true= []:=partners_nil fun j o hj=>by
 rcases getElem?_stand gs i j o hj with⟨_,rfl⟩|⟨_,hj⟩
 ·exact offersAt_ph _ _
 ·by_cases e:offersAt o G.ch true= []
  ·exact e
  ·obtain⟨_,r1,sp,g₀,v,z,r2,rm,_⟩:=h.Pz hj e;obtain⟨k,G',o1,o2,o3,_⟩:=h.li.NB r2;have hp:=h.BX.ss i _ G.ch ⟨G,hG,.inl ⟨BW,rfl⟩⟩ ⟨G',o2,.inl ⟨h.cr.IN h.li r2 rm o2,o3.symm⟩⟩;exact absurd r1 (hn j (hp ▸Cg o1))
theorem GI.jQ(h:GI P ty Post gs w t γ){G:CZ}(hG:γ.AP i=some G)(Dq:G.closed=true): ∀j∈γ.ids i,γ.snd j=none∧∃f,γ.Aw j=some f:=by
 intro j hj;obtain⟨a,ha⟩:=(h.li.gn i G hG).2.2.2.2.1 Dq;obtain⟨k,G',sp,o1,o2,o3,o4,o5,o6,o7,o8⟩:=h.li.CO hj;rw[hG]at o2; cases o2;rcases o8 with⟨s1,s2,s3⟩|⟨s1,_,f,s3,_⟩
 ·have hv:=(h.wg i G a _ hG ha).1;rw[ha]at s3;have:=En o5 (by simpa using s3);omega
 ·exact⟨s1,f,s3⟩
theorem GI.Oo(h:GI P ty Post gs w t γ){G:CZ}(hG:γ.AP i=some G):γ.Aw i=none:=by
 cases e:γ.Aw i with
 |none=>rfl
 |some f =>
  obtain⟨_,_,_,_,_,_,_,_,_,hg⟩:=h.li.K4 e;rw[hG]at hg; cases hg
theorem GI.cB(h:GI P ty Post gs w t γ)(hi:gs[i]? =some g){g₂:Goroutine}{z:Value}{FG:Bool}{G:CZ}{n':Nat}(Aq:stepG P (i==0) g w= .comm g₂ #[rcase G.ch z] true (.recv FG) w es)(hn:n'<γ.nn i)
  (hG:γ.AP i=some G) (hk:G.kids≠ []) (BW:G.AY=none) (A2:0<G.cap) (Dq:G.closed=true) (hd:γ.d i=0) (hf:BQ (γ.cx i) w w es) (N5:deafBehind 0 es=0)
  (hW: ∀(k:Nat) (sp:Spec),G.kids[k]? =some sp→∀(v:Value) (Rm:Addr→Prop) (w₂:World),AS (γ.cx i) w w₂→sp.ok v Rm w₂→(∀a,Rm a→a.block<w₂.heap.size∧¬γ.M i a.block)→W P ty Post (i==0) n' {γ.cx i with R:=fun a=>γ.R i a∨Rm a,AP:=some (G.drop k)} (Conc.served g₂ (Conc.recvd FG v true)) w₂) :
  Qz P ty Post gs w t γ sl i:=by
 have Ac:i<gs.size:=(A6.1 hi).1;obtain⟨q1,q2,q3,q4,q5,q6,q7,q8⟩:=h.li.gn _ G hG;have rB:=h.Oo hG;have G4:=h.jQ hG Dq;obtain⟨buf,s,r,hc⟩:=h.ch _ G hG BW;have kA:0<buf.size:=by
  rw[← hc.cnt];have:(γ.ids i).countP (Cw γ.Aw)=(γ.ids i).length:=List.countP_eq_length.2 fun j hj=>by
   obtain⟨_,f,hf⟩:=G4 j hj;simp[Cw,hf]
  rw[this,q3];exact List.length_pos_iff.2 hk
 have Bg:w.heap[G.ch]? =some (.chan G.cap buf true s r false):=by rw[hc.at_,Dq]
 have hp:=h.LY hG BW fun j hj e=>by
  have Gn:j<gs.size:=by
   obtain⟨_,_,_,_,_,_,_,h5,_⟩:=h.li.CO hj;exact h5
  have hs:=h.Ms j _ (CR Gn);rw[e]at hs;cases hs with
  |snd hm hg Ig Ar iY To G3 EP RY k' =>
   have:γ.snd j=_:=Ig;rw[(G4 j hj).1]at this; cases this
 obtain⟨v,hv⟩: ∃v,buf[0]? =some v:=⟨buf[0],CR kA⟩;obtain⟨j,f,hj,nv,hfv,RU⟩:=hc.msg 0 v hv;obtain⟨k,G',sp,o1,o2,o3,o4,o5,o6,o7,o8⟩:=h.li.CO hj;rw[hG]at o2; cases o2;obtain⟨snj,n8,f',D8,hfsp⟩:γ.snd j=none∧γ.AP j=none∧∃f,γ.Aw j=some f∧f.sp=sp:=by
  rcases o8 with⟨_,s2,_⟩|s
  ·rw[nv]at s2; cases s2
  ·exact s
 rw[nv]at D8; cases D8;have A0:γ.dec j=none:=by
  cases e:γ.dec j with
  |none=>rfl
  |some x =>
   obtain⟨a,φ⟩:=x;obtain⟨r1,r2,r3,Ii,ψ,r4,r5⟩:=h.li.HE j a φ e;rw[o7,hG]at r4; cases r4;obtain⟨a',Cx⟩:=q5 Dq;rw[Cx]at r5;simp only[AE,AR]at r5;obtain⟨rfl,rfl⟩:=r5;have UX:=h.wg i G _ _ hG Cx;have:=UX.2 j φ e;subst this;have:=En o5 e;have:=UX.1;omega
 obtain⟨Ii,g1,g2,g3,g4⟩:=h.ft j f nv;rw[o7,hG]at g1; cases g1;have nm:=h.cU (j:=j) (by omega) (by rw[o7]; exact hj) (by rw[o7]; exact hG) BW;have AT:=crowd_recv_buf (sl:=sl) hi Aq Bg kA hp;rw[finishComm_recv,show buf.getD 0 undef=v by rw[Bt,hv]; rfl]at AT;have fr:=Fr.setChan Bg G.cap (buf.extract 1 buf.size) true s (r+1) false;have Md:=HS Bg G.cap (buf.extract 1 buf.size) true s (r+1) false;generalize w.setChan G.ch G.cap (buf.extract 1 buf.size) true s (r+1) false=w' at AT fr Md;generalize dp:({g:=i,fn:=g₂.frame.fn,pos:=g₂.frame.place,act:= .recv G.ch r G.cap}:MemOp)=x1 at AT;generalize xU:({g:=i,fn:=g₂.frame.fn,pos:=g₂.frame.place,act:= .recvDone G.ch r}:MemOp)=x2 at AT;have e1:x1.g=i∧x1.act= .recv G.ch r G.cap:=by subst dp; exact⟨rfl,rfl⟩
 have e2:x2.g=i∧x2.act= .recvDone G.ch r:=by subst xU; exact⟨rfl,rfl⟩
 have n1:x1.act.touch?=none:=by rw[e1.2]; rfl
 have n2:x2.act.touch?=none:=by rw[e2.2]; rfl
 obtain⟨T1,Mc⟩:=h.Hj Ac q2 hf g.frame.fn g.frame.place;generalize hE:MemOp.ofEvents i g.frame.fn g.frame.place es=E at AT T1 Mc;have tY: ∀op∈E,∀a,op.act≠ .mark (.release a):=hE ▸GJ hf.1;have D1:Deaf (t++E) i=0:=by rw[← hE,Deaf_own,h.df i Ac,hd]; exact N5
 have D2:Deaf (t++E++ #[x1]) i=0:=by rw[Deaf_push]; simp only[deafStep,e1.2]; exact D1
 have hft: ∀{j':Nat} {f':Jc} {G':CZ},γ.Aw j'=some f'→Fe γ.acc t G' j' f'→(∀a,f'.R a→γ.R j' a)→Fe γ.acc (t++E++ #[x1]) G' j' f':=fun D8 F hR=>Et n1 (h.rZ q2 rB (sz':=w.heap.size) (fun op ho x hx=>⟨(Mc op ho).1,(Mc op ho).2 x hx⟩) D8 F hR);have F2:=(hft nv g2 g3).ft BW;have Ff:f.s=r:=by omega
 rw[Ff]at F2
 let acc':Nat→Nat:=fun g=>if γ.acc g=j then i else γ.acc g
 have T2:=(T1.quiet (u:= #[x1]) Ac (by intro op ho; simp at ho; subst ho; exact⟨e1.1,n1⟩)).Nc F2 Ac e2 D2 (acc':=acc') (fun _=>rfl) (R':=upd γ.R i fun a=>γ.R i a∨f.R a) (fun q a ha=>by
  by_cases e:q=i
  ·subst e; rw[upd_same]at ha; exact ha.imp id fun x=>⟨rfl,x⟩
  ·rw[upd_ne _ _ e]at ha; exact .inl ha)
 have KA:t++(E++ #[x1,x2])=t++E++ #[x1]++ #[x2]:=by apply Array.ext'; simp
 have hS:=Ul (G':=G.drop k) hG rfl rfl rfl;have L1:=h.li.Nc (k:=k) o1 nv A0 hG
 let γ':Gh:={M:=γ.M,R:=upd γ.R i fun a=>γ.R i a∨f.R a,d:=γ.d,snd:=γ.snd,dec:=γ.dec,AP:=upd γ.AP i (some (G.drop k)),par:=γ.par,acc:=acc',ids:=upd γ.ids i ((γ.ids i).eraseIdx k),Aw:=upd γ.Aw j none,nn:=upd γ.nn i n',ps:=upd γ.ps i .run,q:=γ.q,mt:=γ.mt,cr:=γ.cr}
 have Rup: ∀q a,γ.R q a→γ'.R q a:=fun q a ha=>by
  show upd γ.R i (fun a=>γ.R i a∨f.R a) q a;by_cases e:q=i
  ·subst e; rw[upd_same]; exact .inl ha
  ·rw[upd_ne _ _ e]; exact ha
 have hX: ∀b,b=G.ch→∀q,γ.M q b∨∃p,Cj γ.AP p b:=fun b hb q=> .inr ⟨_,G,hG,.inl ⟨BW,hb⟩⟩;have Bp:(gs.setIfInBounds i (Conc.served g₂ (recvd FG v true))).size=gs.size:=by simp
 have hij:i≠j:=by omega
 refine⟨_,_,_,AT, ?_,gs.setIfInBounds i (Conc.served g₂ (recvd FG v true)),w',sl,γ',rfl,⟨by rw[Bp]; exact L1, ?_, ?_,by
  rw[Bp];refine h.cr.keep fr.ba (h.Zg (i:=i) fr (fun b hb=>hX b hb i)) (h.Zf (i:=i) fr (fun b hb=>hX b hb i)) (Qm hG (by rw[Ev BW,Ev (G:=G.drop k) BW])) (fun⟨G0,g0,g1⟩=>upd_ne _ _ fun e=>by rw[e,hG]at g0; cases g0; exact g1 BW) (fun q hq=>upd_ne _ _ fun e=>nm (e ▸hq)) (fun q e=> ?_);have e:upd γ.ps i .run q= .HC:=e;by_cases e1:q=i
  ·rw[e1,upd_same]at e; cases e
  ·rwa [upd_ne _ _ e1]at e,by
  refine FW h.W9 fun op A5 a=> ?_;rcases Ea.1 A5 with A5|A5
  ·exact tY op A5 a
  ·simp only[List.mem_toArray,AZ,List.not_mem_nil,or_false]at A5;rcases A5 with rfl|rfl<;>simp[e1.2,e2.2],fun q b hb=>by rw[Bp]; exact h.mz q b hb, ?_, ?_, ?_, ?_, ?_, ?_⟩,rfl⟩
 ·refine .left _ _ ?_;have:sumTo gs.size (upd γ.nn i n')+γ.nn i=sumTo gs.size γ.nn+n':=sumTo_upd γ.nn n' (fun x=>x) Ac;rw[Bp];show sumTo gs.size (upd γ.nn i n')<_;omega
 ·have A:=h.BX.SY (i:=i) (Mi:=γ.M i) (Ri:=γ.R i) fr.size (fun b hb=>⟨AV (h.BX.ml i b hb) fr.size,.inl hb⟩) (fun a ha=> .inl ha) (S':=Cj γ'.AP) (T':=Dh γ'.AP γ'.dec) (fun q b=>(hS q b).1) (fun q b hb=>⟨hb.imp (hS q b).1 id,by
    obtain⟨q',iT⟩:=h.BX.ts q b (hb.imp (hS q b).1 id);exact⟨q',(hS q' b).2 iT⟩⟩)
  rw[EF,EF]at A;exact A.share (fun q a ha=>by
   have ha:upd γ.R i (fun a=>γ.R i a∨f.R a) q a:=ha;by_cases e:q=i
   ·subst e;rw[upd_same]at ha;exact ha.elim (fun x=>⟨q,x⟩) fun x=>⟨j,g3 a x⟩
   ·rw[upd_ne _ _ e]at ha; exact⟨q,ha⟩) (fun _=>Iff.rfl) (fun _=>Iff.rfl) (fun _=>Iff.rfl) (fun q a ha hB=>by
   have ha:upd γ.R i (fun a=>γ.R i a∨f.R a) q a:=ha;by_cases e:q=i
   ·rw[e,upd_same]at ha;rcases ha with ha|ha
    ·rw[e]; exact h.BX.br i a hB ha
    ·exact absurd (h.BX.br j a hB (g3 a ha)).1.1 nm
   ·rw[upd_ne _ _ e]at ha; exact h.BX.br q a hB ha)
 ·rw[KA,Bp];exact(T2.grow fr.size).freeze (fun _ _=>id) (fun _ _=> .inl) (fun q b p' hb He=> .inl ⟨hb.imp (hS q b).1 id,(hS p' b).1 He⟩)
 ·intro q hq;rw[Bp]at hq;rw[KA,Deaf_push,Deaf_push];simp only[deafStep,e1.2,e2.2];show _=γ.d q;by_cases e:q=i
  ·subst e; rw[D1,hd]
  ·rw[← hE,Deaf_other t (fun x=>e x.symm) _ (fun op ho=>(Dd ho).1),h.df q hq]
 ·intro q f' hq;have hq:upd γ.Aw j none q=some f':=hq;have hqj:q≠j:=fun e=>by rw[e,upd_same]at hq; cases hq
  rw[upd_ne _ _ hqj]at hq;obtain⟨G',r1,r2,r3,r4⟩:=h.ft q f' hq;refine⟨if γ.par q=i then G.drop k else G', ?_, ?_,fun a ha=>Rup q a (r3 a ha),h.Ou (i:=i) fr (fun b hb=>hX b hb i) r3 r4⟩
  ·show upd γ.AP i (some (G.drop k)) (γ.par q)=_;by_cases e:γ.par q=i
   ·rw[AD e,e,upd_same]
   ·rw[AA e,upd_ne _ _ e]; exact r1
  ·have ec:Q3 G' (if γ.par q=i then G.drop k else G'):=by
    by_cases e:γ.par q=i
    ·rw[AD e];rw[e,hG]at r1; cases r1; exact .refl _
    ·rw[AA e]; exact .refl _
   rw[KA];refine((Et n2 (hft hq r2 r3)).XX fun g hg=> ?_).da ec.1 ec.2.1 ec.2.2;have hg:(if γ.acc g=j then i else γ.acc g)=q:=hg;by_cases e:γ.acc g=j
   ·rw[AD e]at hg; subst hg; rw[rB]at hq; cases hq
   ·rw[AA e]at hg; exact hg
 ·intro p' G' Ar I2;have Ar:upd γ.AP i (some (G.drop k)) p'=some G':=Ar;by_cases e:p'=i
  ·subst e;rw[upd_same]at Ar; cases Ar;have nj:j∉(γ.ids p').eraseIdx k:=fun hm=>by
    obtain⟨k',CP⟩:=List.getElem?_of_mem hm;have:=(L1.JU p' k' j (by rw[upd_same]; exact CP));obtain⟨_,_,_,_,_,_,_,_,h8⟩:=this;rcases h8 with⟨s1,_⟩|⟨_,_,f'',s3,_⟩
    ·rw[snj]at s1; cases s1
    ·rw[upd_same]at s3; cases s3
   have xg:=Mk (p:=Cw γ.Aw) o1 (by simp[Cw,nv]);refine⟨buf.extract 1 buf.size,s,r+1, ?_,fun oG=> ?_, ?_, ?_,fun q u hq=> ?_⟩
   ·show w'.heap[G.ch]? =some (.chan G.cap (buf.extract 1 buf.size) G.closed s (r+1) false);rw[Md,Dq]
   ·have:G.cap=0:=oG;omega
   ·have:=hc.sum; simp; omega
   ·show(upd γ.ids p' ((γ.ids p').eraseIdx k) p').countP (Cw (upd γ.Aw j none))=_;rw[upd_same,GP nj];have:=hc.cnt;simp; omega
   ·have iT:buf[q+1]? =some u:=by
     rw[Array.getElem?_extract]at hq;split at hq
     ·rw[Nat.add_comm]; exact hq
     ·cases hq
    obtain⟨j',f',t1,t2,t3,t4⟩:=hc.msg (q+1) u iT;have BK:j'≠j:=fun e=>by rw[e,nv]at t2; cases t2; omega
    refine⟨j',f', ?_,(upd_ne _ _ BK).trans t2,t3,by omega⟩;have:=L1.own j' (.inr (by rw[upd_ne _ _ BK,t2]; simp));have Tj:γ.par j'=p':=by
     obtain⟨_,_,_,_,_,_,_,_,_,h7,_⟩:=h.li.CO t1;exact h7
    rwa [Tj]at this
  ·rw[upd_ne _ _ e]at Ar;obtain⟨Rg,s',r',Ig⟩:=h.HF fr Ar I2 (fun x=>e (h.BX.ss _ _ _ ⟨G',Ar,.inl ⟨I2,x.symm⟩⟩ ⟨G,hG,.inl ⟨BW,rfl⟩⟩));have ni:j∉γ.ids p':=fun hm=>by
    obtain⟨_,_,_,_,_,_,_,_,_,He,_⟩:=h.li.CO hm;exact e (He.symm.trans o7)
   have QW:γ'.ids p'=γ.ids p':=upd_ne _ _ e;rw[QW];refine⟨Rg,s',r',Ig.at_,Ig.un,Ig.sum, ?_,fun q u hq=> ?_⟩
   ·show(γ.ids p').countP (Cw (upd γ.Aw j none))=Rg.size;rw[GP ni]; exact Ig.cnt
   ·obtain⟨j',f',t1,t2,t3⟩:=Ig.msg q u hq;have BK:j'≠j:=fun e'=>ni (e' ▸t1);exact⟨j',f',t1,(upd_ne _ _ BK).trans t2,t3⟩
 ·intro p' G' a φ Ar ha;have Ar:upd γ.AP i (some (G.drop k)) p'=some G':=Ar;rw[Bp];have EJ:upd γ.ps i .run p'= .Di→γ.ps p'= .Di:=fun hs=>by
   by_cases e':p'=i
   ·subst e'; rw[upd_same]at hs; cases hs
   ·rwa [upd_ne _ _ e']at hs
  by_cases e:p'=i
  ·subst e;rw[upd_same]at Ar; cases Ar;have Cx:G.wg=some (a,φ):=ha;exact(h.wg p' G a φ hG Cx).mono (fr.keep a (h.BX.sl p' a ⟨G,hG,.inr ⟨φ,Cx⟩⟩) (q8 a φ Cx)) EJ
  ·rw[upd_ne _ _ e]at Ar;exact(h.wg p' G' a φ Ar ha).mono (fr.keep a (h.BX.sl p' a ⟨G',Ar,.inr ⟨φ,ha⟩⟩) fun x=>e (h.BX.ss p' _ a ⟨G',Ar,.inr ⟨φ,ha⟩⟩ ⟨G,hG,.inl ⟨BW,x⟩⟩)) EJ
 ·intro q gq hq;show KD P ty Post (q==0) (upd γ.nn i n' q) _ _ _ (upd γ.ps i .run q);by_cases e:q=i
  ·subst e;rw[Bs Ac]at hq;cases hq;rw[upd_same,upd_same];refine .run ?_;have:γ'.cx q={γ.cx q with R:=fun a=>γ.R q a∨f.R a,AP:=some (G.drop k)}:=by simp[γ',Gh.cx,upd_same]
   rw[this, ← hfv];exact hW k f.sp (by rw[hfsp]; exact o3) f.v f.R w' (h.rely (i:=q+1) fr (fun b hb=>hX b hb _) (by omega)) (h.Ou (i:=q) fr (fun b hb=>hX b hb q) g3 g4) (fun a ha=>⟨AV (h.BX.rl _ _ (g3 a ha)) fr.size,h.BX.rm _ _ _ (g3 a ha)⟩)
  ·rw[Bb (fun x=>e x.symm)]at hq;rw[upd_ne _ _ e,upd_ne _ _ e];have:γ'.cx q=γ.cx q:=by simp[γ',Gh.cx,upd_ne _ _ e]
   rw[this];exact(h.Ms q gq hq).rely (h.rely (i:=i) fr (fun b hb=>hX b hb i) e)
 ·intro p' He j' Hg hs;have aux: ∀{q:Nat} {x:PS},upd γ.ps i .run q=x→x≠ .run→γ.ps q=x∧q≠i:=by
   intro q x hq hx;by_cases e:q=i
   ·subst e; rw[upd_same]at hq; exact absurd hq.symm hx
   ·rw[upd_ne _ _ e]at hq; exact⟨hq,e⟩
  obtain⟨a1,a2⟩:=aux He (by simp);have:j'∈γ.ids p':=by
   have Hg:j'∈upd γ.ids i ((γ.ids i).eraseIdx k) p':=Hg
   rwa [upd_ne _ _ a2]at Hg
  exact h.nr p' a1 j' this (aux hs (by simp)).1
theorem GI.recv(h:GI P ty Post gs w t γ)(hi:gs[i]? =some g){g₂:Goroutine}{z:Value}{FG:Bool}{G:CZ}{n':Nat}(Aq:stepG P (i==0) g w= .comm g₂ #[rcase G.ch z] true (.recv FG) w es)(hn:n'<γ.nn i)
  (hG:γ.AP i=some G) (hk:G.kids≠ []) (BW:G.AY=none) (A2:G.cap=0∧G.closed=false∨0<G.cap∧G.closed=true) (hd:γ.d i=0) (hf:BQ (γ.cx i) w w es) (N5:deafBehind 0 es=0)
  (hW: ∀(k:Nat) (sp:Spec),G.kids[k]? =some sp→∀(v:Value) (Rm:Addr→Prop) (w₂:World),AS (γ.cx i) w w₂→sp.ok v Rm w₂→(∀a,Rm a→a.block<w₂.heap.size∧¬γ.M i a.block)→W P ty Post (i==0) n' {γ.cx i with R:=fun a=>γ.R i a∨Rm a,AP:=some (G.drop k)} (Conc.served g₂ (Conc.recvd FG v true)) w₂) :
  Qz P ty Post gs w t γ sl i:=by
 rcases A2 with⟨A2,Dq⟩|⟨A2,Dq⟩
 rotate_left
 ·exact h.cB hi Aq hn hG hk BW A2 Dq hd hf N5 hW
 have Ac:i<gs.size:=(A6.1 hi).1;obtain⟨q1,q2,q3,q4,q5,q6,q7,q8⟩:=h.li.gn _ G hG;have rB:=h.Oo hG;obtain⟨buf,s,r,hc⟩:=h.ch _ G hG BW;have gW:buf= #[]:=Eo (hc.un A2);have Bg:w.heap[G.ch]? =some (.chan 0 #[] false s r false):=by rw[hc.at_,Dq,A2,gW]
 by_cases wF: ∃j∈γ.ids i,γ.ps j= .snd;rotate_left
 ·have Ki: ∀j∈γ.ids i,γ.ps j≠ .snd:=fun j hj e=>wF ⟨j,hj,e⟩;have hp:=h.LY hG BW Ki;have hw: ∀cc∈ #[rcase G.ch z],NoWays w (gs.setIfInBounds i ph) cc:=fun cc eh=>by
   simp at eh; subst eh;exact ways_recv_none Bg hp
  exact h.sZ hi (s:= .Nt) hn (by simp) (by simp) q2 rB hf (by rw[hd]; exact N5) (.Nt rfl hG hk BW A2 Dq hd hW) (fun _=>Ki) (fun e=>by cases e) (crowd_waits hi Aq hw)
 have info: ∀{j:Nat} {o:Goroutine},(gs.setIfInBounds i ph)[j]? =some o→offersAt o G.ch true≠ []→j≠i∧gs[j]? =some o∧offersAt o G.ch true= [0]∧γ.ps j= .snd∧γ.par j=i∧γ.mt j=none∧∃sp g₀ v z,γ.snd j=some (G.ch,sp)∧o=parked g₀ #[scase G.ch v z] .send:=by
  intro j o hj ho;rcases getElem?_stand gs i j o hj with⟨_,rfl⟩|⟨BK,hj⟩
  ·exact absurd (offersAt_ph _ _) ho
  ·obtain⟨r0,r1,sp,g₀,v,z,r2,rm,r3⟩:=h.Pz hj ho;obtain⟨k,G',o1,o2,o3,_⟩:=h.li.NB r2;exact⟨BK,hj,r0,r1,(h.BX.ss i _ G.ch ⟨G,hG,.inl ⟨BW,rfl⟩⟩ ⟨G',o2,.inl ⟨h.cr.IN h.li r2 rm o2,o3.symm⟩⟩).symm,rm,sp,g₀,v,z,r2,r3⟩
 have BK:partners (gs.setIfInBounds i ph) G.ch true≠ []:=by
  obtain⟨j,hj,EJ⟩:=wF;obtain⟨k,G',sp,o1,o2,o3,o4,o5,_⟩:=h.li.CO hj;have hjg:=CR o5;have hs:=h.Ms j _ hjg;rw[EJ]at hs;cases hs with
  |snd hm hg Ig Ar iY To G3 EP RY k' =>
   rename_i g₀ wq Lx v' z' xv;have Ig:γ.snd j=some (wq,Lx):=Ig;obtain⟨_,Ii,_,p2,p3,_⟩:=h.li.NB Ig;have Tj:γ.par j=i:=by
    obtain⟨_,_,_,_,_,_,_,_,_,h7,_⟩:=h.li.CO hj;exact h7
   rw[Tj,hG]at p2; cases p2;subst p3;have:(j,0)∈partners (gs.setIfInBounds i ph) G.ch true:=mem_partners.2 ⟨gs[j],stand_get (by omega) hjg,by rw[hg,offersAt_parked_send,AD rfl]; simp⟩;intro e;rw[e]at this; cases this
 obtain⟨j,gj,vj,zj,shj,d,vg,hj,AT⟩:=crowd_recv_meets_some (sl:=sl) hi Aq Bg BK (fun j k hjk=>by
  obtain⟨o,ho,hk⟩:=mem_partners.1 hjk;obtain⟨r1,r2,r3,r4,r5,rm,sp,g₀,v,z,r6,r7⟩:=info ho (fun e=>by rw[e]at hk; cases hk);rw[r3]at hk;simp at hk;exact⟨hk,r1,g₀,v,z,.send,by rw[r2,r7]⟩)
 have hs:=h.Ms j _ hj;have hoff:offersAt (parked gj #[scase G.ch vj zj] shj) G.ch true≠ []:=by rw[offersAt_parked_send,AD rfl]; simp
 obtain⟨_,_,_,EJ,Tj,xc,sp,_,_,_,WG,_⟩:=info (stand_get vg hj) hoff;rw[EJ]at hs;cases hs with
 |snd hm hg Ig Ar iY To G3 EP RY k' =>
  rename_i g₀ wq Lx v' z' xv;have Ig:γ.snd j=some (wq,Lx):=Ig;rw[WG]at Ig;simp only[AE,AR]at Ig;obtain⟨rfl,rfl⟩:=Ig;obtain⟨c1,c2,c3,c4⟩:=Xq hg;subst c2;have hv:vj=v'∧zj=z':=by simpa[scase]using c1
  obtain⟨rfl,rfl⟩:=hv;rw[finishComm_recv,finishComm_send]at AT;obtain⟨k,G',o1,o2,o3,o4,o5,o6,o7,o8,o9⟩:=h.li.NB WG;have fr:Fr w ((w.at d).setChan G.ch 0 #[] false (s+1) (r+1) false) (fun b=>b=G.ch):=by
   have f:=Fr.setChan (w:=w.at d) (show(w.at d).heap[G.ch]? =_ from Bg) 0 #[] false (s+1) (r+1) false;exact⟨f.tape,f.os,f.output,f.size,f.shape,f.keep⟩
  have Md:=HS (w:=w.at d) (show(w.at d).heap[G.ch]? =_ from Bg) 0 #[] false (s+1) (r+1) false;generalize (w.at d).setChan G.ch 0 #[] false (s+1) (r+1) false=w' at AT fr Md;have Bp:((gs.setIfInBounds j (Conc.served gj undef)).setIfInBounds i (Conc.served g₂ (recvd FG vj true))).size=gs.size:=by simp
  have FA:sp.ok vj xv w':=by
   refine sp.keep vj xv w w' (fun a ha=> ?_) EP;have hb:a.block<w.heap.size∧a.block≠G.ch:=by
    refine⟨(RY a ha).1,fun z=> ?_⟩;rcases(RY a ha).2 with y|y
    ·exact h.BX.rs j _ a y ⟨G,hG,.inl ⟨BW,z⟩⟩
    ·exact h.BX.ms j _ _ y ⟨G,hG,.inl ⟨BW,z⟩⟩
   have hk:=fr.keep _ hb.1 hb.2;exact⟨by simp only[World.cell?,hk],fr.shape _ hb.1⟩
  subst Tj;obtain⟨γ',hγ,iW,rM⟩:=h.meet (m:=γ.par j) (.inr rfl) WG rfl hG Ar xc BW A2 G3 hd RY (fn:=g.frame.fn) (pos:=g.frame.place) hf N5 Bp
   (gj:=Conc.served gj undef) (gp:=Conc.served g₂ (recvd FG vj true)) (by rw[Bb (fun e=>vg e.symm),Bs o6])
   (by rw[Bs (by simpa using Ac)])
   (fun q e1 e2=>by rw[Bb (fun e=>e2 e.symm),Bb (fun e=>e1 e.symm)]) fr Bg Md
   (x1:={g:=j,fn:=gj.frame.fn,pos:=gj.frame.place,act:= .send G.ch s}) (x2:={g:=γ.par j,fn:=g₂.frame.fn,pos:=g₂.frame.place,act:= .recv G.ch r 0})
   (x3:={g:=j,fn:=gj.frame.fn,pos:=gj.frame.place,act:= .sendDone G.ch s}) (x4:={g:=γ.par j,fn:=g₂.frame.fn,pos:=g₂.frame.place,act:= .recvDone G.ch r}) ⟨rfl,rfl⟩ ⟨rfl,rfl⟩ ⟨rfl,rfl⟩ ⟨rfl,rfl⟩
   (nj:=γ.nn j) (np:=n') (by rw[c4]; exact k') (fun k Lx=>hW k sp Lx vj xv w' (h.rely (i:=γ.par j+1) fr (fun b hb=> .inr ⟨_,G,hG,.inl ⟨BW,hb⟩⟩) (by omega)) FA (fun a ha=>⟨AV (RY a ha).1 fr.size,(RY a ha).2.elim (h.BX.rm _ _ _) fun m m'=>vg (h.BX.mm _ _ _ m m')⟩))
  refine⟨_,_,_,AT, ?_,_,w',sl,γ',rfl,hγ,rfl⟩;refine .left _ _ ?_;rw[Bp,iW,EF];have h2:sumTo gs.size (upd γ.nn (γ.par j) n')+γ.nn (γ.par j)=sumTo gs.size γ.nn+n':=sumTo_upd γ.nn n' (fun x=>x) q1;omega
end
open Go.Gm (Bo Ct LP MW Ow Bz Am CI Tr Si Ib JQ)
theorem ZF{α:Type}(f:Nat→α)(i:Nat)(x y:α):upd (upd f i x) i y=upd f i y:=by
 funext j;by_cases e:j=i
 ·subst e; rw[upd_same,upd_same]
 ·rw[upd_ne _ _ e,upd_ne _ _ e,upd_ne _ _ e]
theorem Links.NP{n:Nat}{snd:Nat→Option (Nat×Spec)}{dec:Nat→Option (Nat×IE)}{par:Nat→Nat}{p:Nat}: ∀(m:Nat) {AP:Nat→Option CZ} {acc:Nat→Nat} {ids:Nat→List Nat} {Aw:Nat→Option Jc} {G:CZ},Links n snd dec AP par acc ids Aw→(ids p).length=m→AP p=some G→
  (∀j∈ids p,∃f,Aw j=some f)→(∀j a φ,dec j=some (a,φ)→par j≠p)→
  Links n snd dec (upd AP p none) par (fun g=>if acc g∈ids p then p else acc g) (upd ids p []) (fun j=>if j∈ids p then none else Aw j)
 |0,AP,acc,ids,Aw,G,h,hm,hG,hf,hd=>by
  have hi:ids p= []:=Ge.1 hm;have hk:G.kids= []:=Ge.1 (by rw[← (h.gn p G hG).2.2.1,hm]);have h1:=h.free hG hk hd;have e1:upd ids p []=ids:=by rw[← hi]; exact EF _ _
  have e2:(fun g=>if acc g∈ids p then p else acc g)=acc:=by funext g; rw[hi]; simp
  have e3:(fun j=>if j∈ids p then none else Aw j)=Aw:=by funext g; rw[hi]; simp
  rw[e1,e2,e3]; exact h1
 |m+1,AP,acc,ids,Aw,G,h,hm,hG,hf,hd=>by
  cases e:ids p with
  |nil=>rw[e]at hm; cases hm
  |cons j l =>
   have hj:j∈ids p:=by rw[e]; simp
   obtain⟨f,Oy⟩:=hf j hj;have h0:(ids p)[0]? =some j:=by rw[e]; rfl
   obtain⟨G',sp,g1,g2,g3,g4,g5,g6,g7⟩:=h.JU p 0 j h0;have hdj:dec j=none:=by
    cases e':dec j with
    |none=>rfl
    |some x=>exact absurd g6 (hd j x.1 x.2 e')
   have hn:=(h.gn p G hG).2.2.2.1;rw[e,List.nodup_cons]at hn;have Yk:p∉ids p:=fun hp=>by
    obtain⟨_,_,_,_,_,_,Ac,_⟩:=h.CO hp;omega
   have A:=h.Nc h0 Oy hdj hG;rw[e]at A;have B:=Links.NP m A (by rw[upd_same]; rw[e]at hm; simpa using hm) (upd_same _ _ _) (fun j' Hg=>by
    rw[upd_same]at Hg;have Hg:j'∈l:=Hg;have:j'≠j:=fun x=>hn.1 (x ▸Hg);rw[upd_ne _ _ this];exact hf j' (by rw[e]; simp[Hg])) hd
   rw[upd_same]at B;rw[ZF,ZF]at B;have B:Links n snd dec (upd AP p none) par (fun g=>if(if acc g=j then p else acc g)∈l then p else if acc g=j then p else acc g) (upd ids p []) (fun x=>if x∈l then none else upd Aw j none x):=B;have e1:(fun g=>if(if acc g=j then p else acc g)∈l then p else if acc g=j then p else acc g)=fun g=>if acc g∈j::l then p else acc g:=by
    funext g;by_cases e1:acc g=j
    ·simp[e1]
    ·simp only[e1,AZ,false_or,BS]
   have e2:(fun x=>if x∈l then none else upd Aw j none x)=fun x=>if x∈j::l then none else Aw x:=by
    funext x;by_cases e1:x=j
    ·subst e1; simp[upd_same]
    ·simp[e1,upd_ne _ _ e1]
   rw[e1,e2]at B;exact B
theorem ofEvents_one{i:Nat}{fn:FuncId}{pos:String}{es:Array Event}{a:MemAct}(h:es.map MemAct.ofEvent= #[a]): ∃op:MemOp,MemOp.ofEvents i fn pos es= #[op]∧op.g=i∧op.act=a:=by
 rw[ofEvents_eq];have hs:es.size=1:=by
  have:=congrArg Array.size h;simpa using this
 obtain⟨e,rfl⟩: ∃e,es= #[e]:=by
  refine⟨es[0], ?_⟩;apply Array.ext (by simp[hs]);intro k h1 h2;have:k=0:=by simp at h2; omega
  subst this; rfl
 simp at h;exact⟨{g:=i,fn:=fn,pos:=pos,act:=MemAct.ofEvent e},by simp,rfl,h⟩
section
variable{P:Program}{ty:TypeId}{Post:Value→World→Prop}{gs:Array Goroutine}{w:World}{t:Trace}{γ:Gh}{i:Nat}{g g':Goroutine}{w':World}{es:Array Event}{sl:Option (Nat×Nat)}
structure Q0(gs:Array Goroutine)(w:World)(γ:Gh)(i:Nat)(x:Jb)(k:Ja):Prop where
 cr:γ.cr=some k
 at_:HG gs.size w γ.AP γ.ids γ.Aw γ.mt γ.q γ.ps k
 C:x.C=k.C
 AL:k.AL i=some x.μ
 Aw:γ.Aw i=none
 on:γ.q.on i
 mem:i∈γ.ids 0
 acc:γ.acc i=i
 pos:i≠0
 snd:γ.snd i≠none
 par:γ.par i=0
theorem GI.GZ(h:GI P ty Post gs w t γ){x:Jb}(hx:γ.mt i=some x): ∃k,Q0 gs w γ i x k:=by
 have hc:=h.cr;cases e:γ.cr with
 |none =>
  rw[e]at hc;have:γ.mt i=none:=hc.TO i;rw[hx]at this; cases this
 |some k =>
  rw[e]at hc;have hc:HG gs.size w γ.AP γ.ids γ.Aw γ.mt γ.q γ.ps k:=hc;have hm:=hc.TO i;rw[hx]at hm;cases ef:γ.Aw i with
  |some f=>rw[ef]at hm; cases hm
  |none =>
   rw[ef]at hm;cases em:k.AL i with
   |none=>rw[em]at hm; cases hm
   |some μ =>
    rw[em]at hm;simp only[Bc,AE]at hm;subst hm;have DJ:=hc.mem i μ em;obtain⟨_,G,sp,_,o2,_,o4,o5,o6,o7,o8⟩:=h.li.CO DJ;refine⟨k,e,hc,rfl,em,ef,⟨(hc.qm i).2 (.inr (by rw[em]; simp)),hc.YR i (.inr ef)⟩,DJ,o6,by omega, ?_,o7⟩;rcases o8 with⟨s1,_⟩|⟨_,_,f,s3,_⟩
    ·rw[s1]; simp
    ·rw[ef]at s3; cases s3
theorem HG.swap{n:Nat}{AP:Nat→Option CZ}{ids:Nat→List Nat}{Aw:Nat→Option Jc}{mt:Nat→Option Jb}{q:Lk}{ps ps':Nat→PS}{k:Ja}(h:HG n w AP ids Aw mt q ps k){μ μ':Ct}(hi:k.AL i=some μ)(hf:Aw i=none){m':MW}{s':Nat}
  (Zp:CI k.C n (upd k.AL i (some μ')) k.left m' s' k.σ w') (ht:μ'.tk=μ.tk) (ho:μ'.ow=μ.ow) (hs: ∀j,ps' j= .HC→s'=0) :
  HG n w' AP ids Aw (upd mt i (some ⟨k.C,μ'⟩)) q ps' {k with AL:=upd k.AL i (some μ'),m:=m',s:=s'}:=by
 refine⟨Zp,h.g0,h.no,fun τ j hj=> ?_,fun j ν hj=> ?_,fun j=> ?_,fun j f ν Oy hj=> ?_,fun j hj=> ?_,fun j=> ?_,h.qK,h.qB,fun b=> ?_,h.qa,hs⟩
 ·obtain⟨ν,h1,h2⟩:=h.JU τ j hj;by_cases e:j=i
  ·subst e;rw[hi]at h1; cases h1;exact⟨μ',upd_same _ _ _,ht.trans h2⟩
  ·exact⟨ν,by show upd k.AL i _ j=_; rw[upd_ne _ _ e]; exact h1,h2⟩
 ·have hj:upd k.AL i (some μ') j=some ν:=hj;by_cases e:j=i
  ·subst e; exact h.mem j μ hi
  ·rw[upd_ne _ _ e]at hj; exact h.mem j ν hj
 ·show upd mt i _ j=match Aw j with|none=>(upd k.AL i (some μ') j).map _|some _=>none
  by_cases e:j=i
  ·subst e; rw[upd_same,upd_same,hf]; rfl
  ·rw[upd_ne _ _ e,upd_ne _ _ e]; exact h.TO j
 ·have hj:upd k.AL i (some μ') j=some ν:=hj;by_cases e:j=i
  ·subst e; rw[hf]at Oy; cases Oy
  ·rw[upd_ne _ _ e]at hj; exact h.bI j f ν Oy hj
 ·by_cases e:j=i
  ·subst e; exact h.YR j (.inr hf)
  ·refine h.YR j (hj.imp (fun x=> ?_) id);have x:upd k.AL i (some μ') j=none:=x
   rwa [upd_ne _ _ e]at x
 ·show _↔j=0∨upd k.AL i (some μ') j≠none;rw[h.qm j];by_cases e:j=i
  ·subst e; rw[upd_same,hi]; simp
  ·rw[upd_ne _ _ e]
 ·rw[h.qP b];refine and_congr Iff.rfl ⟨fun hh j ν wa hj=> ?_,fun hh j ν wa hj=> ?_⟩
  ·have hj:upd k.AL i (some μ') j=some ν:=hj;by_cases e:j=i
   ·subst e; rw[upd_same]at hj; cases hj; rw[ho]; exact hh j μ wa hi
   ·rw[upd_ne _ _ e]at hj; exact hh j ν wa hj
  ·by_cases e:j=i
   ·subst e; rw[hi]at hj; cases hj; rw[← ho]; exact hh j μ' wa (upd_same _ _ _)
   ·exact hh j ν wa (by show upd k.AL i _ j=_; rw[upd_ne _ _ e]; exact hj)
theorem GI.TT(h:GI P ty Post gs w t γ)(hi:gs[i]? =some g)(Aq:stepG P (i==0) g w= .go g' w' es)(hr:g'.status= .running){x:Jb}{k:Ja}(K:Q0 gs w γ i x k){a:Addr}(ha:a=k.C.wa∨a=k.C.sa)(hw:w'=w∨∃u v,w.cell? a=some u∧w'=w.setCell a v)
  (WS:Gs a es) (hd:deafBehind (γ.d i) es=γ.d i) {n':Nat} (hn:n'<γ.nn i) {μ':Ct} {m':MW} {s':Nat} (Zp:CI k.C gs.size (upd k.AL i (some μ')) k.left m' s' k.σ w') (ht:μ'.tk=x.μ.tk) (ho:μ'.ow=x.μ.ow) (hs: ∀j,L6 γ i (mayWake P g) j= .HC→s'=0)
  (hW:AS (γ.cx i) w w'→W P ty Post (i==0) n' {γ.cx i with AL:=some {x with μ:=μ'}} g' w'):Qz P ty Post gs w t γ sl i:=by
 have R7:a.block=k.C.lb:=by rcases ha with rfl|rfl<;>rfl
 have hK:γ.q.K a:=(K.at_.qK a).2 ha;have hB:γ.q.B k.C.lb:=(K.at_.qB _).2 rfl;have fr:Fr w w' (fun b=>b=k.C.lb):=by
  rcases hw with rfl|⟨u,v,_,rfl⟩
  ·exact Fr.refl _ _
  ·have:=Fr.setCell w a v;rw[R7]at this;exact this
 have key: ∀b,b≠k.C.lb→b<w.heap.size→w'.heap[b]? =w.heap[b]? :=fun b hb Ac=>fr.keep b Ac hb;have Ox: ∀j y,γ.R j y→H8 y w w':=fun j y hy=>by
  by_cases e:y.block=k.C.lb
  ·have O0:γ.q.B y.block:=by rw[e]; exact hB
   obtain⟨_,Kw⟩:=h.BX.br j y O0 hy;refine⟨?_,fun e'=>by rw[Kw]at e'; cases e'⟩;rcases hw with rfl|⟨u,v,hu,rfl⟩
   ·rfl
   ·exact(Gm.EB hu v).2 y fun e'=>h.BX.kr j a hK (e' ▸hy)
  ·exact .of (key _ e (h.BX.rl j y hy))
 have aT:AS (γ.cx i) w w':=⟨fr.tape,fr.os,fr.output,fr.size,fr.shape,fun b hb=>key b (fun e=>h.BX.bm i b (by rw[e]; exact hB) hb) (h.BX.ml i b hb),fun y hy=>Ox i y hy⟩;replace hW:=hW aT;refine h.go hi Aq WS.1 (.inl hr) fr (fun j y hy=>Ox j y hy) (fun j b _ hb=>key b (fun e=>h.BX.bm j b (by rw[e]; exact hB) hb) (h.BX.ml j b hb)) (Mi:=γ.M i) (Ri:=γ.R i) (dec':=γ.dec) (grp':=γ.AP) (mt':=upd γ.mt i (some ⟨k.C,μ'⟩)) (cr':=some {k with AL:=upd k.AL i (some μ'),m:=m',s:=s'}) hn
  (fun b hb=>⟨AV (h.BX.ml i b hb) fr.size,.inl hb⟩) (fun _=>id) (fun _=> .inl) (fun e he y hy=> .inr (.inr (.inr ⟨a,(WS.2 e he y hy).1,hK,K.on,(WS.2 e he y hy).2⟩))) (.inl K.acc) (fun f hf=>by rw[K.Aw]at hf; cases hf)
  h.li (fun _ _=>Iff.rfl) (fun _ _=>id) (fun p G hG=>⟨G,hG,.refl G⟩) (fun _ _=>rfl) (fun _ _=>rfl) (fun j hj=>upd_ne _ _ hj) ?_ (fun p G hG hc=> ?_) (fun p G a' φ hG Cx=> ?_) ?_
 ·exact K.at_.swap K.AL K.Aw Zp ht ho hs
 ·obtain⟨buf,s,r,eh⟩:=h.ch p G hG hc;exact⟨buf,s,r,eh.mono (key _ (fun e=>h.BX.bs p _ hB ⟨G,hG,.inl ⟨hc,e.symm⟩⟩) (h.BX.sl p _ ⟨G,hG,.inl ⟨hc,rfl⟩⟩))⟩
 ·exact(h.wg p G a' φ hG Cx).mono (key _ (fun e=>h.BX.bs p _ hB ⟨G,hG,.inr ⟨φ,by rw[← e]; exact Cx⟩⟩) (h.BX.sl p _ ⟨G,hG,.inr ⟨φ,Cx⟩⟩)) fun e=>(Ik e).1
 ·have hW:W P ty Post (i==0) n' {γ.cx i with AL:=some ⟨x.C,μ'⟩} g' w':=hW;rw[K.C]at hW;simp only[hd,upd_same]; exact hW
theorem GI.iG(h:GI P ty Post gs w t γ)(hi:gs[i]? =some g)(EJ:γ.ps i= .run)(Aq:stepG P (i==0) g w= .go {g with status:= .blocked} w #[]){x:Jb}{k:Ja}(K:Q0 gs w γ i x k)(hx:γ.mt i=some x)(hl:x.μ.lp= .Cs)(ho:g.offers=none)(hs:g.status= .running)
  (h0:k.s=0) (hW:W P ty Post (i==0) (γ.nn i) (γ.cx i) g w):Qz P ty Post gs w t γ sl i:=by
 have Ac:i<gs.size:=(A6.1 hi).1;have hw: ∀o,woken P g {g with status:= .blocked} w o=o:=fun o=>by unfold woken; simp
 have hm:(gs.map (woken P g {g with status:= .blocked} w)).setIfInBounds i {g with status:= .blocked}=gs.setIfInBounds i {g with status:= .blocked}:=by
  congr 1
  apply Array.ext_getElem?;intro k;rw[Array.getElem?_map];cases gs[k]? <;>simp[hw]
 have hr:=runT_crowd_go (sl:=sl) hi Aq;rw[hm]at hr;refine⟨_,_,_,hr, ?_,gs.setIfInBounds i {g with status:= .blocked},w,sl,{γ with ps:=upd γ.ps i .HC},rfl, ?_,rfl⟩
 ·have e:(gs.setIfInBounds i {g with status:= .blocked}).size=gs.size:=by simp
  rw[e];refine .right _ ?_;have:=sumTo_upd γ.ps PS.HC (fun x=>if x=PS.run then 1 else 0) Ac;simp only[EJ,Ad,reduceCtorEq,BS]at this;show sumTo gs.size (fun a=>if upd γ.ps i PS.HC a=PS.run then 1 else 0)<sumTo gs.size (fun a=>if γ.ps a=PS.run then 1 else 0);omega
 have Bp:(gs.setIfInBounds i {g with status:= .blocked}).size=gs.size:=by simp
 rw[ofEvents_none,DF];refine⟨by rw[Bp]; exact h.li,h.BX,by rw[Bp]; exact h.ti, ?_,h.W9,fun j b hb=>by rw[Bp]; exact h.mz j b hb,fun j hj=>h.df j (by rw[Bp]at hj; exact hj),h.ft,h.ch,fun p G' a' φ Ar Cx=> ?_,fun j gj hj=> ?_,fun p hp j hj R5=> ?_⟩
 ·rw[Bp];show Hn gs.size w γ.AP γ.ids γ.Aw γ.mt γ.q (upd γ.ps i .HC) γ.cr;have c:=K.at_;rw[K.cr];exact⟨c.ci,c.g0,c.no,c.JU,c.mem,c.TO,c.bI,c.YR,c.qm,c.qK,c.qB,c.qP,c.qa,fun _ _=>h0⟩
 ·rw[Bp];refine(h.wg p G' a' φ Ar Cx).mono rfl fun e=> ?_;have e:upd γ.ps i .HC p= .Di:=e;by_cases e':p=i
  ·subst e'; rw[upd_same]at e; cases e
  ·rwa [upd_ne _ _ e']at e
 ·by_cases e:j=i
  ·subst e;rw[Bs Ac]at hj;cases hj;show KD P ty Post (j==0) (γ.nn j) (γ.cx j) _ _ (upd γ.ps j .HC j);rw[upd_same];exact .HC hx hl rfl ho (by
    have:({({g with status:= .blocked}:Goroutine)with status:= .running}:Goroutine)=g:=by
     obtain⟨fr,cs,stt,dy,off⟩:=g;simp only at hs;subst hs;rfl
    rw[this]; exact hW)
  ·rw[Bb (fun x=>e x.symm)]at hj;show KD P ty Post (j==0) (γ.nn j) (γ.cx j) _ _ (upd γ.ps i .HC j);rw[upd_ne _ _ e];exact h.Ms j gj hj
 ·have aux: ∀{q:Nat} {x:PS},upd γ.ps i .HC q=x→x≠ .HC→γ.ps q=x:=by
   intro q z hq hz;by_cases e:q=i
   ·subst e; rw[upd_same]at hq; exact absurd hq.symm hz
   ·rwa [upd_ne _ _ e]at hq
  exact h.nr p (aux hp (by simp)) j hj (aux R5 (by simp))
end
end Go.Gw
end
